/- Parts of a proof. -/
import Derived.Test.YticmobkdaneelaaGreatDoorYE43
import Derived.Test.YticmobkdaneelaaGreatDoorYE21
set_option linter.all false
set_option linter.unusedVariables false
set_option linter.unusedSimpArgs false
set_option linter.deprecated false
namespace Go.Sy.YticmobkdaneelaaGreatDoor
open Go.Proofs Go.Proofs.Tryz
set_option maxRecDepth 100000
set_option maxHeartbeats 4000000
theorem Ctx.behind{K:Nat→Prop}{κ κ2:Ka}{w w1 w2:World}(s:Step K κ w κ w1)(c:Ctx ⟨w1,κ,[]⟩ κ2 w2):Ctx ⟨w,κ,[]⟩ κ2 w2 where
 size:=wO s.size c.size
 os:=c.os.trans s.os
 tape:=c.tape.trans s.tape
 output:=c.output.trans s.output
 M:=c.M
 old:=λb hb h=>by
  refine(c.old b (yV hb s.size) h).trans ?_;by_cases hm:κ.M b
  ·exact s.mkeep b hm
  ·exact s.blk b hb (λ ho=>by
    rcases ho with ⟨k,hk⟩|ho
    ·exact h k hk
    ·exact hm ho)
 own:=λk b hk=>by
  rcases c.own k b hk with h|h
  ·exact .inl (wO s.size h)
  ·exact .inr h
 nam:=c.nam
def Ay5{κ:Ka}{w:World}(hi:Inv κ w):Step (λ_=>False) κ w κ w.drew∧Inv κ w.drew:=by
 have g:=Grew.drew w;exact⟨⟨g.size,g.os,g.tape,g.output,E,λb _=>rfl,λb _ _=>rfl,λ_ _ _ _=>rfl,λ_ _=>rfl,λ_ h=>h.elim,λ_ h=>.inl h⟩,⟨hi.inj,hi.bnd,hi.apart,hi.mbnd⟩⟩
def Axr(n:Net)(hn:n.Fin)(up fw:List Bool):Sq 133 [.ptr 1 1,.clo (.func 227) [] [.ptr 3 0,.ptr 2 0]] (Wn n up 0 0 fw) (.tup []) (Wn n up 1 0 (Qf n up)):=by
 intro κ w vs hi a6 jv ar;have o1:=ar (1,.box (An1 up 0 0 fw)) (by simp[Wn]);have o2:=ar (2,.box [.ptr 1 0]) (by simp[Wn]);have o3:=ar (3,.box (C6 n)) (by simp[Wn]);obtain ⟨b,e1,c1,c2,st1,inv1,uk⟩:=Dz (off:=2) (x:=.val (.int .i32 1)) (v:=.int .i32 1) hi o1 rfl (λ _ _=>by simp only[Rd]) rfl;obtain ⟨b2,_,_,_,e2,_⟩:=id o2;obtain ⟨b3,_,_,_,e3,_⟩:=id o3;simp only[RdL,Rd,e1,e2,e3]at jv;obtain ⟨v0,r0,rfl,rfl,v1,r1,rfl,⟨fs,cs,rfl,sk,m7⟩,rfl⟩:=jv;subst sk;obtain ⟨p3,q3,rfl,rfl,p2,q2,rfl,rfl,rfl⟩:=m7;have j5:=Axs n hn up fw 0 1 κ (w.setCell ⟨b,2,none⟩ (.int .i32 1)) [.pointer (some ⟨b3,0,none⟩),.pointer (some ⟨b2,0,none⟩)] inv1 a6 (by simp only[RdL,Rd,e2,e3];exact⟨_,_,rfl,rfl,_,_,rfl,rfl,rfl⟩) (λ p hp=>by
  simp only[Wn,yH,xX,vZ]at hp;rcases hp with rfl|rfl|rfl
  ·exact uk
  ·exact ObOK.step st1 (show ¬(2:Nat)=1 by decide) _ o2
  ·exact ObOK.step st1 (show ¬ (3:Nat)=1 by decide) _ o3)
 obtain ⟨u1,yh,jl⟩:=c1 1 (.val (.int .u32 0)) rfl;obtain ⟨u2,rj,pj⟩:=c1 2 (.val (.int .i32 0)) rfl;rw[jl.val]at yh;rw[pj.val]at rj;have f1:=c2 1 (show 1<5 by decide);have f2:=c2 2 (show 2<5 by decide);have hl:=A2n ⟨b,1,none⟩ 0 (w.setCell ⟨b,2,none⟩ (.int .i32 1)) ((World.cell?_setCell_other _ ⟨b,2,none⟩ ⟨b,1,none⟩ _ y_).trans yh);have hnot:∀(x:Bool) (w:World),(Op.unary .not (.bool x)).run prog w=.ok (.bool (!x)) w:=λ_ _=>rfl
 go_enter_defers func133,ntmps133
 go_wp2_with (first|(go_at_call 179;refine(Ayc ⟨b,2,none⟩ _ (by assumption) (by assumption)).mono ?_;rintro e w' ⟨rfl,rfl⟩)|(go_at_call 227;refine j5.mono ?_;rintro e w' ⟨v,κ2,rfl,m4,jo,oh,r8⟩)|(go_at_call 132;go_in))
 have p1:=r8 (1,.box (An1 up 0 1 (Qf n up))) (by simp[Wn]);have k1:κ2 1=.blk b:=by
  obtain ⟨bb,_,_,_,q1,_⟩:=id p1;rcases m4.nam 1 (by rw[e1];intro h;cases h) with h|h
  ·rw[h];exact e1
  ·rw[h]at q1;cases q1
 obtain ⟨ba,a1,a2,a3,_,_,_⟩:=Dz (off:=1) (x:=.val (.int .u32 1)) (v:=.int .u32 1) jo p1 rfl (λ_ _=>by simp only[Rd]) rfl;rw[k1]at a1;cases a1;obtain ⟨yi,uw⟩:=Ay5 jo;have p2:=ObOK.step yi (k:=1) (λh=>h) _ p1;obtain ⟨ba,a1,_,_,st3,ux,uy⟩:=Dz (off:=1) (x:=.val (.int .u32 1)) (v:=.int .u32 1) uw p2 rfl (λ_ _=>by simp only[Rd]) rfl;rw[k1]at a1;cases a1;have uy:ObOK κ2 (w'.drew.setCell ⟨b,1,none⟩ (.int .u32 1)) 1 (.box (An1 up 1 1 (Qf n up))):=uy;obtain ⟨ba,a1,a4,a5,st4,pp,uz⟩:=Dz (off:=2) (x:=.val (.int .i32 0)) (v:=.int .i32 0) ux uy rfl (λ_ _=>by simp only[Rd]) rfl;rw[k1]at a1;cases a1;have uz:ObOK κ2 ((w'.drew.setCell ⟨b,1,none⟩ (.int .u32 1)).setCell ⟨b,2,none⟩ (.int .i32 0)) 1 (.box (An1 up 1 0 (Qf n up))):=uz;obtain ⟨v1,pq,jl⟩:=a2 1 (.val (.int .u32 0)) rfl;rw[jl.val]at pq;obtain ⟨v2,oh,pj⟩:=a4 2 (.val (.int .i32 1)) rfl;rw[pj.val]at oh;refine leaves_cons (f:=181) (args:=#[.pointer (some ⟨b,1,none⟩),.bool true]) y_ (by simp[go_sem]) ?_;refine(Aeg ⟨b,1,none⟩ (.int .u32 0) .returning _ pq (a3 1 (show 1<5 by decide))).mono ?_;rintro e u' xu ⟨rfl,rfl,rfl⟩;refine leaves_cons (f:=180) (args:=#[.pointer (some ⟨b,2,none⟩)]) (by simp[settle]) (by simp[go_sem]) ?_;refine(Ade ⟨b,2,none⟩ _ _ oh (a5 2 (show 2<5 by decide))).mono ?_;rintro e u' xu ⟨rfl,rfl,rfl⟩;have cn:Step (·=1) κ2 w' κ2 ((w'.drew.setCell ⟨b,1,none⟩ (.int .u32 1)).setCell ⟨b,2,none⟩ (.int .i32 0)):=(yi.weaken (λ_ h=>h.elim)).trans (st3.trans st4);refine⟨.tuple #[],by simp[results,Tryz.results133],.tuple #[],κ2,E,Ctx.behind st1 (m4.step pp cn),pp,⟨[],E,E⟩,λp hp=>?_⟩;simp only[Wn,yH,xX,vZ]at hp;rcases hp with rfl|rfl|rfl
 ·exact uz
 ·exact ObOK.step cn (show ¬(2:Nat)=1 by decide) _ (r8 (2,.box [.ptr 1 0]) (by simp[Wn]))
 ·exact ObOK.step cn (show ¬(3:Nat)=1 by decide) _ (r8 (3,.box (C6 n)) (by simp[Wn]))
attribute [local irreducible] Go.Sy.G Go.Sy.DR
def Z9(n:Net)(up:List Bool)(d:Bool):Obs:=[(1,.box (To n up d)),(2,.box [.ptr 1 0]),(3,.box (C6 n))]
def A5l(n:Net)(hn:n.Fin)(up:List Bool):Sq 78 [.ptr 1 1,.clo (.func 227) [] [.ptr 3 0,.ptr 2 0]] (Z9 n up false) (.tup []) (Z9 n up true):=cT F78 ntmps78 λF hF=>by
 have q1:Sq 132 [.ptr 1 1] (Z9 n up false) (Ab false) (Z9 n up false):=Air n up [] 0 0;have q2:Sq 133 [.ptr 1 1,.clo (.func 227) [] [.ptr 3 0,.ptr 2 0]] (Z9 n up false) (.tup []) (Z9 n up true):=Axr n hn up []
 conv=>whnf
 refine Af (Ad [] E F132 q1 E ⟨E,E,E,Y⟩ E ⟨.inl E,.inl E,.inl E,Y⟩) E E ?_;refine oT ?_;refine Af (Ad [] E F133 q2 E ⟨E,E,E,Y⟩ E ⟨.inl E,.inl E,.inl E,Y⟩) E E ?_;refine oO ?_;exact A6 E .nil [] (Z9 n up true) (λ_ h=>h) E E kU
def A5k(n:Net)(up:List Bool):Sq 78 [.ptr 1 1,.clo (.func 227) [] [.ptr 3 0,.ptr 2 0]] (Z9 n up true) (.tup []) (Z9 n up true):=cT F78 ntmps78 λF hF=>by
 have q1:Sq 132 [.ptr 1 1] (Z9 n up true) (Ab true) (Z9 n up true):=Air n up (Qf n up) 1 0
 conv=>whnf
 refine Af (Ad [] E F132 q1 E ⟨E,E,E,Y⟩ E ⟨.inl E,.inl E,.inl E,Y⟩) E E ?_;refine oF ?_;exact A6 E .nil [] (Z9 n up true) (λ_ h=>h) E E kU
def A5j(n:Net)(hn:n.Fin)(up:List Bool)(d:Bool):Sq 78 [.ptr 1 1,.clo (.func 227) [] [.ptr 3 0,.ptr 2 0]] (Z9 n up d) (.tup []) (Z9 n up true):=by
 cases d
 ·exact A5l n hn up
 ·exact A5k n up
def Aw3(n:Net)(hn:n.Fin)(up:List Bool)(d:Bool):Sq 152 [.ptr 1 0,Am n] [(1,.box (To n up d))] (.sl 1 Ab (Qf n up)) [(1,.box (To n up true))]:=cT F152 ntmps152 λF hF=>by
 conv=>whnf
 refine Af (Ad [] E F78 (A5j n hn up d) E ⟨E,E,E,Y⟩ E ⟨.inl E,.inl E,.inl E,Y⟩) E E ?_;refine oO ?_;exact done E (.cons .tmp .nil) [] [(1,.box (To n up true))] (λ_ h=>h) E E kU
end Go.Sy.YticmobkdaneelaaGreatDoor
namespace Go.Sy.YticmobkdaneelaaGreatDoor
open Go.Proofs Go.Proofs.Tryz
def Ac3{n:Net}{fw:List Bool}{t:List EntryM}{dom:Int}{q:QueuedM}{now:Int}(ht:TabOK t)(hq:QueuedOK q):TabOK (bridgeT n fw t dom q now).1:=by
 unfold bridgeT;split
 ·exact Aa4
 split
 ·split
  ·exact V5 ht hq now
  ·exact V5 ht hq now
 ·exact V5 ht hq now
def Ac4{n:Net}(_hn:n.Fin)(a8:n.Num){fw:List Bool}{t:List EntryM}{dom:Int}{q:QueuedM}{now:Int}(hq:QueuedOK q):∀o∈(bridgeT n fw t dom q now).2.1,OutOK n o:=by
 intro o ho;unfold bridgeT at ho;split at ho
 ·cases ho
 rename_i h0;have hb:Ac n=true:=by
  cases hx:Ac n
  ·exact zY (.inl (by unfold Tn;rw[hx];simp)) h0
  ·rfl
 split at ho
 ·split at ho
  ·cases ho
  ·rename_i h1;have h1:=Decidable.not_not.1 h1;have az:∀(d:Int),(lookT n (routerT n dom q.frame.dst).1 d).2=true→0≤(lookT n (routerT n dom q.frame.dst).1 d).1∧(lookT n (routerT n dom q.frame.dst).1 d).1.toNat<n.irbs.length:=λd h=>Uy h
   rw[yB.1 ho];exact⟨by dsimp only;omega,by simp,λ_=>⟨A51 n a8 _ _ az,Ape az h1⟩,λh=>by dsimp only at h;omega⟩
 ·rcases yI.1 ho with h|h
  ·obtain ⟨p,_,rfl⟩:=yS.1 h;unfold Aa3;exact Aok (by dsimp only;split<;>omega) (Ahn _ _ _ _ hq.frame) (As4 _ _ _ _)
  ·obtain ⟨p,_,rfl⟩:=yS.1 h;unfold Ae9;exact Aok (by dsimp only;omega) (by have:=Ak9 n dom p q.frame;omega) (Ax4 _ _ _ _)
def Vk{n:Net}(hn:n.Fin)(fw:List Bool)(t:List EntryM)(dom:Int)(q:QueuedM)(now:Int):(bridgeT n fw t dom q now).2.1.length<4294967296:=by
 unfold bridgeT;split
 ·show (0:Nat)<4294967296;decide
 split
 ·split
  ·show (0:Nat)<4294967296;decide
  ·show (1:Nat)<4294967296;decide
 ·have:=Agm hn fw (learnQ t q now) dom q.from_ q.frame.dst;simp only[zW,xF];omega
def Zw(n:Net)(origin:Int):∀(a b:List OutM) (m:MacM),goesL n m origin (a++b)=((goesL n (goesL n m origin a).1 origin b).1,(goesL n m origin a).2++(goesL n (goesL n m origin a).1 origin b).2)
 |[],b,m=>by simp[goesL]
 |o::a,b,m=>by
  rw[xS,goesL,goesL,Zw n origin a b];simp
def X8(n:Net)(m:MacM)(origin:Int)(l:List OutM)(j:Nat)(hj:j<l.length):goesL n m origin (l.take (j+1))=((goesM n (goesL n m origin (l.take j)).1 l[j] origin).1,(goesL n m origin (l.take j)).2++(goesM n (goesL n m origin (l.take j)).1 l[j] origin).2):=by
 rw[yD hj,Zw];simp[goesL]
def V7(n:Net)(m:MacM)(o:OutM)(origin:Int):(goesM n m o origin).2.length≤1:=by
 unfold goesM;split
 ·simp
 split
 ·simp
 split
 ·simp
 split<;>simp
def Q1(n:Net)(origin:Int):∀(l:List OutM) (m:MacM),(goesL n m origin l).2.length≤l.length
 |[],m=>by simp[goesL]
 |o::l,m=>by
  rw[goesL];have h1:=Q1 n origin l (goesM n m o origin).1;have h2:=V7 n m o origin;simp only[zW,yL];omega
attribute [local irreducible] Go.Sy.G Go.Sy.DR
set_option maxRecDepth 100000
set_option maxHeartbeats 4000000
def Ant{n:Net}{m:MacM}{J D:Int}(h:MacOK n m J D)(hD:0≤D)(dom:Int){r:List EntryM×List OutM×Int}(hr:TabOK r.1):MacOK n (Om m dom r) J (D+1):=by
 unfold Om;split
 ·exact Vg h hD 2
 split
 ·exact Vg (Akn h dom hr) hD _
 ·exact(Akn h dom hr).mono (xU _) q_
def queL(q:QueuedM):List SV:=[Aa q.from_,Aa q.peer,Aa q.origin,A2 q.frame.dst,A2 q.frame.src,Aa q.frame.typ,.sl 1 Al q.frame.body]
def A1d(n:Net)(m:MacM)(q:QueuedM)(l:List SeenM):Obs:=[(0,.box (Adj n 1 m.now m.injected m.drops)),(1,.box (To n m.up true)),(2,.row 1 Lk m.tables),(3,.row 1 Ae2 m.queues),(7,.box (queL q)),(1000,.row 3 Dm l)]
def A0q(n:Net)(hn:n.Fin)(dt:n.Num)(m:MacM)(d:Bool)(J D:Int)(a8:MacOK n m J D)(hD0:0≤D)(hD:D≤900000000000)(dom at_:Int):Sq 96 [.ptr 0 0,Aa dom,Aa at_] (Eb n m d) (.sl 3 Dm (pickT n m dom at_).2) (Eb n (pickT n m dom at_).1 (if (takeM m dom at_).2.2 then true else d)):=cT F96 ntmps96 λF hF=>by
 have aa:=pickT.eq_1 n m dom at_;generalize pickT n m dom at_=res at *;have q1:=Am0 n m d dom at_ (Jy a8 dom);have ar:=Aee a8 dom at_;have bh:(takeM m dom at_).2.2=true→0≤dom∧dom.toNat<m.queues.length:=λh=>by
  unfold takeM at h;split at h
  ·cases h
  ·rename_i h2;exact placeB_iff.1 (by cases hx:Ah dom m.queues.length;exact zY hx h2;rfl)
 have rh:(takeM m dom at_).1.tables=m.tables:=by unfold takeM;split<;>rfl
 generalize takeM m dom at_=r at *;obtain ⟨m1,q,ok⟩:=r;have htq:m.queues.length=m.tables.length:=by rw[a8.ques,a8.tabs]
 conv=>whnf
 refine Af (Ad [] E F97 q1 E ⟨E,E,E,E,Y⟩ E ⟨.inl E,.inl E,.inl E,.inl E,Y⟩) E E ?_;refine oO ?_;cases ok
 ·rw[zG rfl]at aa;subst aa
  (refine⟨λ_=>?_,λh=>False.elim (by simp at h)⟩;refine rg ?_;conv=>whnf)
  refine Au 6 3 Dm E ?_;exact done E (.cons .tmp .nil) [] (Eb n m1 d) (λ_ h=>h) E E kU
 rw[zD y_]at aa;have hd:=bh rfl;have jc:0≤dom∧dom.toNat<m1.tables.length:=by rw[rh,←htq];exact hd
 dsimp only at aa ar;have q2:=Aw3 n hn m1.up d;have q3:=Aqh n hn dt (Qf n m1.up) (tableL m1 dom) dom q m1.now (Aaq ar.1 dom) ar.2;have em:=Ac3 (n:=n) (fw:=Qf n m1.up) (dom:=dom) (now:=m1.now) (Aaq ar.1 dom) ar.2;have du:=Ac4 (fw:=Qf n m1.up) (t:=tableL m1 dom) (dom:=dom) (now:=m1.now) hn dt ar.2;have hb3:=Vk hn (Qf n m1.up) (tableL m1 dom) dom q m1.now;have zh:=Aqg n (Qf n m1.up) (tableL m1 dom) dom q m1.now;rw[Wy]at aa;have hz:=Ant ar.1 hD0 dom em;generalize bridgeT n (Qf n m1.up) (tableL m1 dom) dom q m1.now=b at *;obtain ⟨t,out,e⟩:=b;have du:∀o∈out,OutOK n o:=du;have hb3:out.length<4294967296:=hb3;have zh:B9 e:=zh;have zi:=tableL.eq_1 m1 dom;rw[Ad2 jc.2]at zi;generalize tableL m1 dom=t0 at *;subst zi
 (refine⟨λh=>False.elim (by simp at h),λ_=>?_⟩;refine rg ?_;conv=>whnf)
 refine Bw (Ad [] E F152 q2 E ⟨E,Y⟩ E ⟨.inl E,Y⟩) z_ E ?_;refine oD ?_;refine⟨jc.1,jc.2,?_⟩
 conv=>whnf
 refine⟨E,jc.2,?_⟩
 conv=>whnf
 refine cD q3 F151 ?_;refine gH ?_;constructor<;>intro h
 ·have h2:¬e=2:=by simpa using h
  clear h;refine oO ?_;refine⟨jc.1,jc.2,?_⟩
  conv=>whnf
  refine⟨E,jc.2,t,E,E,?_⟩
  conv=>whnf
  constructor<;>intro h
  ·have h3:¬e=0:=by simpa using h
   clear h;have sf:Om m1 dom (t,out,e)=C4 (Il m1 dom t) e:=by
    unfold Om;rw[zD h2,zG h3]
   rw[sf]at aa hz;subst aa;have q4:=Apw n (Il m1 dom t) true e zh.1 zh.2 ⟨(ar.1.drp _).1,by have:=(ar.1.drp e.toNat).2;show m1.drops e.toNat≤1000000000000;omega⟩;refine oO ?_;refine Af (Ad [] E F153 q4 E ⟨E,E,E,E,Y⟩ E ⟨.inl E,.inl E,.inl E,.inl E,Y⟩) E E ?_;refine oO ?_;have fy:We (C4 (Il m1 dom t) e):=λi=>⟨(hz.drp i).1,by have:=(hz.drp i).2;omega⟩
   refine B7 12 1000 3 Dm E E ?_;refine A5 out.length (λj=>[(0,.ptr 0 0),(7,.ptr 7 0),(12,.osl 1000),(69,.sl 9 Hy out),(70,Aa out.length),(71,Aa j)]) (λj=>A1d n (goesL n (C4 (Il m1 dom t) e) q.origin (out.take j)).1 q (goesL n (C4 (Il m1 dom t) e) q.origin (out.take j)).2) [] kU ?_;intro j hj;refine oO ?_;constructor<;>intro h
   ·have ab:j<out.length:=qA h;have ai:(j:Int).toNat<out.length:=by simpa using ab
    obtain ⟨o,ee⟩:∃o,out[j]=o:=⟨_,rfl⟩
    have e1:out[(j:Int).toNat]'ai=o:=ee;have hs:=X8 n (C4 (Il m1 dom t) e) q.origin out j ab;rw[ee]at hs;have mg:=U9 hn q.origin (out.take j) hz q_ (λx hx=>du x (wQ hx));have hlen:(out.take j).length=j:=by rw[yA];omega
    rw[hlen]at mg;have mw:=Q1 n q.origin (out.take j) (C4 (Il m1 dom t) e);rw[hlen]at mw;have q5:=Ael n hn (goesL n (C4 (Il m1 dom t) e) q.origin (out.take j)).1 true J _ mg q_ o (du o (by rw[←ee];exact zI ab)) q.origin;have mf:=V7 n (goesL n (C4 (Il m1 dom t) e) q.origin (out.take j)).1 o q.origin;clear h;refine oO ?_;refine⟨E,by omega,ai,?_⟩;rw[e1]
    conv=>whnf
    refine Af (Ad [] E F154 q5 E ⟨E,E,E,E,Y⟩ E ⟨.inl E,.inl E,.inl E,.inl E,Y⟩) E E ?_;refine oO ?_;refine Af (Ag Γ.toTy 81 E E E E E (.row E) .sl y_ q_ q_) E E ?_;refine gF ?_;have g1:(goesL n (C4 (Il m1 dom t) e) q.origin (out.take (j+1))).1=(goesM n (goesL n (C4 (Il m1 dom t) e) q.origin (out.take j)).1 o q.origin).1:=by rw[hs]
    have g2:(goesL n (C4 (Il m1 dom t) e) q.origin (out.take (j+1))).2=(goesL n (C4 (Il m1 dom t) e) q.origin (out.take j)).2++(goesM n (goesL n (C4 (Il m1 dom t) e) q.origin (out.take j)).1 o q.origin).2:=by rw[hs]
    refine Ay [(1000,81)] ab ⟨⟨E,E,E,E,E,E,E,E,E,E,E,E,Y⟩,?_,E,E⟩;dsimp only;rw[g1,g2];exact⟨.inl E,E,.inl E,E,.inl E,E,.inl E,E,.inl E,E,.inl E,E,Y⟩
   ·have gg:j=out.length:=qB h;subst gg;rw[yN];clear h;refine oO ?_;refine Aj 1000 E ?_;exact done E (.cons .tmp .nil) [] (Eb n (goesL n (C4 (Il m1 dom t) e) q.origin out).1 true) (λ_ h=>h) E E kU
  ·have h3:e=0:=by simpa using h
   clear h;have sf:Om m1 dom (t,out,e)=Il m1 dom t:=by
    unfold Om;rw[zD h2,zD (λh=>h h3)]
   rw[sf]at aa hz;subst aa;refine oO ?_;have fy:We (Il m1 dom t):=λi=>⟨(hz.drp i).1,by have:=(hz.drp i).2;omega⟩
   refine B7 12 1000 3 Dm E E ?_;refine A5 out.length (λj=>[(0,.ptr 0 0),(7,.ptr 7 0),(12,.osl 1000),(69,.sl 9 Hy out),(70,Aa out.length),(71,Aa j)]) (λj=>A1d n (goesL n (Il m1 dom t) q.origin (out.take j)).1 q (goesL n (Il m1 dom t) q.origin (out.take j)).2) [] kU ?_;intro j hj;refine oO ?_;constructor<;>intro h
   ·have ab:j<out.length:=qA h;have ai:(j:Int).toNat<out.length:=by simpa using ab
    obtain ⟨o,ee⟩:∃o,out[j]=o:=⟨_,rfl⟩
    have e1:out[(j:Int).toNat]'ai=o:=ee;have hs:=X8 n (Il m1 dom t) q.origin out j ab;rw[ee]at hs;have mg:=U9 hn q.origin (out.take j) hz q_ (λx hx=>du x (wQ hx));have hlen:(out.take j).length=j:=by rw[yA];omega
    rw[hlen]at mg;have mw:=Q1 n q.origin (out.take j) (Il m1 dom t);rw[hlen]at mw;have q5:=Ael n hn (goesL n (Il m1 dom t) q.origin (out.take j)).1 true J _ mg q_ o (du o (by rw[←ee];exact zI ab)) q.origin;have mf:=V7 n (goesL n (Il m1 dom t) q.origin (out.take j)).1 o q.origin;clear h;refine oO ?_;refine⟨E,by omega,ai,?_⟩;rw[e1]
    conv=>whnf
    refine Af (Ad [] E F154 q5 E ⟨E,E,E,E,Y⟩ E ⟨.inl E,.inl E,.inl E,.inl E,Y⟩) E E ?_;refine oO ?_;refine Af (Ag Γ.toTy 81 E E E E E (.row E) .sl y_ q_ q_) E E ?_;refine gF ?_;have g1:(goesL n (Il m1 dom t) q.origin (out.take (j+1))).1=(goesM n (goesL n (Il m1 dom t) q.origin (out.take j)).1 o q.origin).1:=by rw[hs]
    have g2:(goesL n (Il m1 dom t) q.origin (out.take (j+1))).2=(goesL n (Il m1 dom t) q.origin (out.take j)).2++(goesM n (goesL n (Il m1 dom t) q.origin (out.take j)).1 o q.origin).2:=by rw[hs]
    refine Ay [(1000,81)] ab ⟨⟨E,E,E,E,E,E,E,E,E,E,E,E,Y⟩,?_,E,E⟩;dsimp only;rw[g1,g2];exact⟨.inl E,E,.inl E,E,.inl E,E,.inl E,E,.inl E,E,.inl E,E,Y⟩
   ·have gg:j=out.length:=qB h;subst gg;rw[yN];clear h;refine oO ?_;refine Aj 1000 E ?_;exact done E (.cons .tmp .nil) [] (Eb n (goesL n (Il m1 dom t) q.origin out).1 true) (λ_ h=>h) E E kU
 ·have h2:e=2:=by simpa using h
  clear h;subst h2;have sf:Om m1 dom (t,out,2)=C4 m1 2:=by
   unfold Om;rw[zG rfl]
  rw[sf]at aa hz;subst aa;have q4:=Apw n m1 true 2 j_ j_ ⟨(ar.1.drp _).1,by have:=(ar.1.drp (Int.toNat 2)).2;omega⟩;refine oT ?_;refine Af (Ad [] E F153 q4 E ⟨E,E,E,E,Y⟩ E ⟨.inl E,.inl E,.inl E,.inl E,Y⟩) E E ?_;refine oO ?_;have fy:We (C4 m1 2):=λi=>⟨(hz.drp i).1,by have:=(hz.drp i).2;omega⟩
  refine B7 12 1000 3 Dm E E ?_;refine A5 out.length (λj=>[(0,.ptr 0 0),(7,.ptr 7 0),(12,.osl 1000),(69,.sl 9 Hy out),(70,Aa out.length),(71,Aa j)]) (λj=>A1d n (goesL n (C4 m1 2) q.origin (out.take j)).1 q (goesL n (C4 m1 2) q.origin (out.take j)).2) [] kU ?_;intro j hj;refine oO ?_;constructor<;>intro h
  ·have ab:j<out.length:=qA h;have ai:(j:Int).toNat<out.length:=by simpa using ab
   obtain ⟨o,ee⟩:∃o,out[j]=o:=⟨_,rfl⟩
   have e1:out[(j:Int).toNat]'ai=o:=ee;have hs:=X8 n (C4 m1 2) q.origin out j ab;rw[ee]at hs;have mg:=U9 hn q.origin (out.take j) hz q_ (λx hx=>du x (wQ hx));have hlen:(out.take j).length=j:=by rw[yA];omega
   rw[hlen]at mg;have mw:=Q1 n q.origin (out.take j) (C4 m1 2);rw[hlen]at mw;have q5:=Ael n hn (goesL n (C4 m1 2) q.origin (out.take j)).1 true J _ mg q_ o (du o (by rw[←ee];exact zI ab)) q.origin;have mf:=V7 n (goesL n (C4 m1 2) q.origin (out.take j)).1 o q.origin;clear h;refine oO ?_;refine⟨E,by omega,ai,?_⟩;rw[e1]
   conv=>whnf
   refine Af (Ad [] E F154 q5 E ⟨E,E,E,E,Y⟩ E ⟨.inl E,.inl E,.inl E,.inl E,Y⟩) E E ?_;refine oO ?_;refine Af (Ag Γ.toTy 81 E E E E E (.row E) .sl y_ q_ q_) E E ?_;refine gF ?_;have g1:(goesL n (C4 m1 2) q.origin (out.take (j+1))).1=(goesM n (goesL n (C4 m1 2) q.origin (out.take j)).1 o q.origin).1:=by rw[hs]
   have g2:(goesL n (C4 m1 2) q.origin (out.take (j+1))).2=(goesL n (C4 m1 2) q.origin (out.take j)).2++(goesM n (goesL n (C4 m1 2) q.origin (out.take j)).1 o q.origin).2:=by rw[hs]
   refine Ay [(1000,81)] ab ⟨⟨E,E,E,E,E,E,E,E,E,E,E,E,Y⟩,?_,E,E⟩;dsimp only;rw[g1,g2];exact⟨.inl E,E,.inl E,E,.inl E,E,.inl E,E,.inl E,E,.inl E,E,Y⟩
  ·have gg:j=out.length:=qB h;subst gg;rw[yN];clear h;refine oO ?_;refine Aj 1000 E ?_;exact done E (.cons .tmp .nil) [] (Eb n (goesL n (C4 m1 2) q.origin out).1 true) (λ_ h=>h) E E kU
def Awk(l:List (List EntryM))(now:Int)(j:Nat)(hj:j<l.length):((l.take j).map (λt=>ageT t now)++l.drop j).set j (ageT l[j] now)=(l.take (j+1)).map (λt=>ageT t now)++l.drop (j+1):=by
 apply tH
 ·simp only[yR,zW,xF,yA,yO];omega
 intro i h1 h2;simp only[yR,zW,xF,yA,yO]at h1;rw[vQ];by_cases hi:j=i
 ·subst hi;rw[zG rfl,yT (by simp;omega)];simp
 ·rw[zD hi];by_cases ab:i<j
  ·rw[yT (by simp;omega),yT (by simp;omega)];simp
  ·rw[xP (by simp;omega),xP (by simp;omega)];simp only[vT,xF,yA];congr 1;omega
def Ays{P:Program}{o:Oper}{s:SS}{x y:Operand}{at_:Array TypeId}{k k':IntKind}{m n r:Int}(hr:(if n<m then n else m)=r)(h:o.op=.call ⟨.builtin .min,#[x,y],at_⟩)(hx:ev s x=.val (.int k m))(hy:ev s y=.val (.int k' n)):Good P o s ⟨.val (.int k r),[],[]⟩:=by
 have:=U8 (P:=P) h hx hy;rwa [hr]at this
def Adv(l:List (List EntryM))(now:Int)(j:Nat):List (List EntryM):=(l.take j).map (λt=>ageT t now)++l.drop j
def A4f(l:List (List EntryM))(now:Int)(j:Nat)(hj:j<l.length)(h2:j<(Adv l now j).length):(Adv l now j)[j]=l[j]:=by
 have h:(Adv l now j)[j]? = l[j]?:=by
  unfold Adv;have hm:min j l.length=j:=by omega
  rw[wG (by simp;omega),List.getElem?_drop,xF,yA,hm,tQ,Nat.add_zero]
 rw[zT hj,zT h2]at h;exact Option.some.inj h
def Aqo(l:List (List EntryM))(now:Int)(j:Nat):(Adv l now j).length=l.length:=by
 unfold Adv;simp only[zW,xF,yA,yO];omega
def tickO(n:Net)(m:MacM)(d:Bool)(now:Int)(j:Nat):Obs:=[(0,.box (Adj n 1 now m.injected m.drops)),(1,.box (To n m.up d)),(2,.row 1 Lk (Adv m.tables now j)),(3,.row 1 Ae2 m.queues)]
def A0p(n:Net)(m:MacM)(d:Bool)(J D:Int)(a8:MacOK n m J D)(hs:An n.domains):Sq 98 [.ptr 0 0] (Eb n m d) (.tup []) (Eb n (Wq m) d):=cT F98 ntmps98 λF hF=>by
 unfold An at hs;have hnow:=a8.now;have rh:m.tables.length<2147483648:=by rw[a8.tabs];exact hs
 have eh:=a8.tab;obtain ⟨nw,xw⟩:∃nw,(if 1099511627776<m.now+1 then 1099511627776 else m.now+1)=nw:=⟨_,rfl⟩
 have ed:Wq m=⟨m.up,Adv m.tables nw m.tables.length,m.queues,nw,m.injected,m.drops⟩:=by
  have:min (m.now+1) 1099511627776=nw:=by rw[←xw];split<;>omega
  unfold Wq Adv;rw[this,yN,uF,xC]
 rw[ed]
 conv=>whnf
 refine iW ?_;refine Af (Ays xw E E E) E E ?_;refine oO ?_;refine A5 m.tables.length (λj=>[(0,.ptr 0 0),(16,.osl 2),(17,Aa m.tables.length),(18,Aa j)]) (λj=>tickO n m d nw j) [] kU ?_;intro j hj;refine oO ?_;constructor<;>intro h
 ·have ab:j<m.tables.length:=qA h;have ku:=Aqo m.tables nw j;have ai:(j:Int).toNat<(Adv m.tables nw j).length:=by rw[ku];simpa using ab
  obtain ⟨t,ee⟩:∃t,m.tables[j]=t:=⟨_,rfl⟩
  have e1:(Adv m.tables nw j)[(j:Int).toNat]'ai=t:=(A4f m.tables nw j ab (by rw[ku];exact ab)).trans ee;have hs:=Awk m.tables nw j ab;rw[ee]at hs;have ht:=eh t (by rw[←ee];exact zI ab);clear h;refine oO ?_;refine⟨by omega,ai,?_⟩
  conv=>whnf
  refine⟨E,ai,?_⟩;rw[e1]
  conv=>whnf
  refine cD (A40 t nw ht.short ht.mac) F157 ?_;refine oD ?_;refine⟨by omega,ai,?_⟩
  conv=>whnf
  refine⟨E,ai,ageT t nw,E,E,?_⟩
  conv=>whnf
  refine kW ?_;refine iW ?_;exact Ay [] ab ⟨⟨E,E,E,E,E,E,E,E,Y⟩,⟨.inl E,E,.inl E,E,.inl (zH (Ob.row 1 Lk) hs.symm),E,.inl E,E,Y⟩,E,E⟩
 ·have gg:j=m.tables.length:=qB h;subst gg;clear h;refine oO ?_;exact A6 E .nil [] (Eb n ⟨m.up,Adv m.tables nw m.tables.length,m.queues,nw,m.injected,m.drops⟩ d) (λ_ h=>h) E E kU
def Am1(n:Net)(m:MacM)(d:Bool):Obs:=[(0,.box (Adj n 4 m.now m.injected m.drops)),(1,.non),(2,.row 1 Lk m.tables),(3,.row 1 Ae2 m.queues),(4,.box (To n m.up d))]
def upT(m:MacM)(up:List Bool):MacM:=⟨up,m.tables,m.queues,m.now,m.injected,m.drops⟩
def doD(n:Net)(m:MacM)(d:Bool)(x:StepM):Bool :=
 if x.kind=1 then d else if x.kind=2 then (if (takeM m x.domain x.at_).2.2 then true else d) else if x.kind=3 then d else if x.kind=4 then d else if x.kind=5 then (if x.up.length=n.links.length then false else d) else d
def A0u(n:Net)(hn:n.Fin)(dt:n.Num)(m:MacM)(d:Bool)(J D:Int)(a8:MacOK n m J D)(hJ:J<900000000000)(hD0:0≤D)(hD:D≤900000000000)(x:StepM)(hb:x.bytes.length<100000):Sq 34 [.ptr 0 0,Db x] (Eb n m d) (.tup [.sl 3 Dm (doT n m x).2,Aa 0]) (Am1 n (doT n m x).1 (doD n m d x)):=cT F34 ntmps34 λF hF=>by
 have aa:=doT.eq_1 n m x;generalize doT n m x=res at *;have d7:=doD.eq_1 n m d x;generalize doD n m d x=dd at *
 conv=>whnf
 refine Af (Aph (d:=900) E E E) E E ?_;refine oF ?_;constructor<;>intro h
 ·have h1:x.kind=1:=by simpa using h
  rw[zG h1]at aa d7;subst aa;subst d7;have q1:=Art n hn m dd J D a8 q_ q_ x.port x.bytes hb;refine oO ?_;refine Af (Ad [] E F95 q1 E ⟨E,E,E,E,Y⟩ E ⟨.inl E,.inl E,.inl E,.inl E,Y⟩) E E ?_;refine oO ?_;refine Au 4 3 Dm E ?_;refine La 1 4 E E j_ ?_;exact done E (.cons .tmp (.cons .tmp .nil)) [] (Am1 n (injectT n m x.port x.bytes) dd) (λ_ h=>h) E E kU
 have h1:¬x.kind=1:=by simpa using h
 rw[zD h1]at aa d7;clear h;refine oO ?_;constructor<;>intro h
 ·have h1:x.kind=2:=by simpa using h
  rw[zG h1]at aa d7;subst aa;have q1:=A0q n hn dt m d J D a8 hD0 hD x.domain x.at_;rw[←d7]at q1;refine oO ?_;refine Af (Ad [] E F96 q1 E ⟨E,E,E,E,Y⟩ E ⟨.inl E,.inl E,.inl E,.inl E,Y⟩) E E ?_;refine oO ?_;refine La 1 4 E E j_ ?_;exact done E (.cons .tmp (.cons .tmp .nil)) [] (Am1 n (pickT n m x.domain x.at_).1 dd) (λ_ h=>h) E E kU
 have h1:¬x.kind=2:=by simpa using h
 rw[zD h1]at aa d7;clear h;refine oO ?_;constructor<;>intro h
 ·have h1:x.kind=3:=by simpa using h
  rw[zG h1]at aa d7;subst aa;subst d7;have q1:=Am0 n m dd x.domain x.at_ (Jy a8 _);refine oO ?_;refine Af (Ad [] E F97 q1 E ⟨E,E,E,E,Y⟩ E ⟨.inl E,.inl E,.inl E,.inl E,Y⟩) E E ?_;refine oO ?_;refine Au 4 3 Dm E ?_;refine La 1 4 E E j_ ?_;exact done E (.cons .tmp (.cons .tmp .nil)) [] (Am1 n (takeM m x.domain x.at_).1 dd) (λ_ h=>h) E E kU
 have h1:¬x.kind=3:=by simpa using h
 rw[zD h1]at aa d7;clear h;refine oO ?_;constructor<;>intro h
 ·have h1:x.kind=4:=by simpa using h
  rw[zG h1]at aa d7;subst aa;subst d7;have q1:=A0p n m dd J D a8 hn.domains;refine oO ?_;refine Af (Ad [] E F98 q1 E ⟨E,E,E,E,Y⟩ E ⟨.inl E,.inl E,.inl E,.inl E,Y⟩) E E ?_;refine oO ?_;refine Au 4 3 Dm E ?_;refine La 1 4 E E j_ ?_;exact done E (.cons .tmp (.cons .tmp .nil)) [] (Am1 n (Wq m) dd) (λ_ h=>h) E E kU
 have h1:¬x.kind=4:=by simpa using h
 rw[zD h1]at aa d7;clear h;refine oO ?_;constructor<;>intro h
 ·have h1:x.kind=5:=by simpa using h
  rw[zG h1]at aa d7;clear h;refine oO ?_;refine kW ?_;constructor<;>intro h
  ·have h2:x.up.length=n.links.length:=qA h;rw[zG h2]at aa d7;subst aa;subst d7;clear h;have kq:=hn.links;unfold An at kq;refine oO ?_;refine c0 (Auc x.up q_) F99 ?_;refine oO ?_;refine Au 4 3 Dm E ?_;refine Ak 55 (To n x.up false) E vL ?_;exact done E (.cons .tmp (.cons .tmp .nil)) [(4,55)] (Am1 n (upT m x.up) false) (λ_ h=>h) E E kU
  ·have h2:¬x.up.length=n.links.length:=qB h;rw[zD h2]at aa d7;subst aa;subst d7;clear h;refine oO ?_;refine Au 4 3 Dm E ?_;refine La 1 4 E E j_ ?_;exact done E (.cons .tmp (.cons .tmp .nil)) [] (Am1 n m dd) (λ_ h=>h) E E kU
 have h1:¬x.kind=5:=by simpa using h
 rw[zD h1]at aa d7;subst aa;subst d7;clear h;refine oO ?_;refine Au 4 3 Dm E ?_;refine La 1 4 E E j_ ?_;exact done E (.cons .tmp (.cons .tmp .nil)) [] (Am1 n m dd) (λ_ h=>h) E E kU
def Xs(n:Net)(hn:n.Fin)(hb:okB n (List.replicate n.links.length true)=false):Sp 16 [Am n] (.tup [.val (.pointer none),Aa 2]):=cT F16 ntmps16 λF hF=>by
 have kq:=hn.links;unfold An at kq;have q1:=Au3 n.links.length q_;have q2:=Af6 n (List.replicate n.links.length true) hn hb;generalize List.replicate n.links.length true=up at *
 conv=>whnf
 refine Vs 7 Ab [true] E E ?_;refine Aj 7 E ?_;refine oO ?_;refine c0 q1 F28 ?_;refine oO ?_;refine c0 q2 F29 ?_;refine oT ?_;exact dN
def Akl(n:Net)(hn:n.Fin)(hb:okB n (List.replicate n.links.length true)=true):Sq 16 [Am n] [] (.tup [.ptr 0 0,Aa 0]) (Eb n (newT n) false):=cT F16 ntmps16 λF hF=>by
 have kq:=hn.links;have j9:=hn.domains;unfold An at kq j9;have q1:=Au3 n.links.length q_;have q2:=Ajh n (List.replicate n.links.length true) hn hb;have li:=newT.eq_1 n;generalize newT n=m at *;generalize List.replicate n.links.length true=up at *
 conv=>whnf
 refine Vs 7 Ab [true] E E ?_;refine Aj 7 E ?_;refine oO ?_;refine c0 q1 F28 ?_;refine oO ?_;refine c0 q2 F29 ?_;refine oF ?_;refine cD (copyS n hn) F30 ?_;refine oD ?_;refine Bw (Ce Γ.toTy (d:=28) (n:=n.domains.length) (λ_:Unit=>.val (.slice none 0 0)) () E E E E E E E E q_ q_ E E E) z_ E ?_;refine oD ?_;refine Bw (Ce Γ.toTy (d:=32) (n:=n.domains.length) (λ_:Unit=>.val (.slice none 0 0)) () E E E E E E E E q_ q_ E E E) z_ E ?_;refine oD ?_;refine⟨z_,?_⟩;refine Aqt 28 (e':=Lk) (l':=List.replicate n.domains.length []) E y_ (λM w i h1 h2 v hv=>?_) ?_
 ·rw[List.getElem_replicate];simp only[RdD]at hv;exact Ag3 hv
 refine Aqt 32 (e':=Ae2) (l':=List.replicate n.domains.length []) E y_ (λM w i h1 h2 v hv=>?_) ?_
 ·rw[List.getElem_replicate];simp only[RdD]at hv;exact Ag3 hv
 refine Ak 24 (To n up false) E vL ?_;refine oO ?_;subst li;exact done E (.cons .tmp (.cons .tmp .nil)) [(0,34),(1,24),(2,28),(3,32)] (Eb n ⟨up,List.replicate n.domains.length [],List.replicate n.domains.length [],0,0,λ_=>0⟩ false) (λ_ h=>h) E E kU
end Go.Sy.YticmobkdaneelaaGreatDoor
namespace Go.Sy.YticmobkdaneelaaGreatDoor
open Go.Proofs Go.Proofs.Tryz
def Ab3(n:Net):∀(a b:List StepM) (m:MacM),Dw n m (a++b)=((Dw n (Dw n m a).1 b).1,(Dw n m a).2++(Dw n (Dw n m a).1 b).2)
 |[],b,m=>by simp[Dw]
 |o::a,b,m=>by
  rw[xS,Dw,Dw,Ab3 n a b];simp
def Aik(n:Net)(m:MacM)(l:List StepM)(j:Nat)(hj:j<l.length):Dw n m (l.take (j+1))=((doT n (Dw n m (l.take j)).1 l[j]).1,(Dw n m (l.take j)).2++(doT n (Dw n m (l.take j)).1 l[j]).2):=by
 rw[yD hj,Ab3];simp[Dw]
def runF(n:Net)(s:MacM×Bool)(l:List StepM):MacM×Bool:=l.foldl (λs x=>((doT n s.1 x).1,doD n s.1 s.2 x)) s
def Am7(n:Net):∀(l:List StepM) (s:MacM×Bool),(runF n s l).1=(Dw n s.1 l).1
 |[],s=>rfl
 |x::l,s=>by
  have:=Am7 n l ((doT n s.1 x).1,doD n s.1 s.2 x);rw[Dw];exact this
def runD(n:Net)(m:MacM)(d:Bool)(l:List StepM):Bool:=(runF n (m,d) l).2
def Ail(n:Net)(m:MacM)(d:Bool)(l:List StepM)(j:Nat)(hj:j<l.length):runD n m d (l.take (j+1))=doD n (Dw n m (l.take j)).1 (runD n m d (l.take j)) l[j]:=by
 unfold runD;rw[yD hj];have:=Am7 n (l.take j) (m,d);unfold runF at this⊢;rw[xO];show doD n (List.foldl _ (m,d) (l.take j)).1 _ l[j]=_;rw[this]
def doT_ok{n:Net}(hn:n.Fin)(dt:n.Num){m:MacM}{J D:Int}(h:MacOK n m J D)(hJ:0≤J)(hD:0≤D)(x:StepM):MacOK n (doT n m x).1 (J+1) (D+4294967298):=by
 unfold doT;split
 ·exact(Ath hn h hJ hD _ _).mono q_ q_
 split
 ·have ar:=Aee h x.domain x.at_;unfold pickT;split
  ·exact ar.1.mono q_ q_
  ·have hb:=Vk hn (Qf n (takeM m x.domain x.at_).1.up) (tableL (takeM m x.domain x.at_).1 x.domain) x.domain (takeM m x.domain x.at_).2.1 (takeM m x.domain x.at_).1.now;have h1:=Ant ar.1 hD x.domain (Ac3 (n:=n) (fw:=Qf n (takeM m x.domain x.at_).1.up) (dom:=x.domain) (now:=(takeM m x.domain x.at_).1.now) (Aaq ar.1 x.domain) ar.2);have h2:=U9 hn (takeM m x.domain x.at_).2.1.origin (Wy n (takeM m x.domain x.at_).1 x.domain (takeM m x.domain x.at_).2.1).2.1 h1 q_ (Ac4 hn dt ar.2);refine h2.mono q_ ?_;unfold Wy;omega
 split
 ·exact(Aee h x.domain x.at_).1.mono q_ q_
 split
 ·have h1:=h.now;refine⟨h.up,by unfold Wq;simp only[xF];exact h.tabs,h.ques,λt ht=>?_,h.que,?_,?_,λi=>?_⟩
  ·unfold Wq at ht;obtain ⟨t0,zi,rfl⟩:=yS.1 ht;exact A6j (h.tab t0 zi) _
  ·unfold Wq;dsimp only;omega
  ·have:=h.inj;unfold Wq;dsimp only;omega
  ·have:=h.drp i;unfold Wq;dsimp only;omega
 split
 ·split
  ·rename_i h2;exact MacOK.mono (n:=n) (m:=⟨x.up,m.tables,m.queues,m.now,m.injected,m.drops⟩) ⟨h2,h.tabs,h.ques,h.tab,h.que,h.now,h.inj,h.drp⟩ q_ q_
  ·exact h.mono q_ q_
 ·exact h.mono q_ q_
def Alu{n:Net}(hn:n.Fin)(m:MacM)(x:StepM):(doT n m x).2.length<4294967296:=by
 unfold doT;split
 ·show (0:Nat)<4294967296;decide
 split
 ·unfold pickT;split
  ·show (0:Nat)<4294967296;decide
  ·have hb:=Vk hn (Qf n (takeM m x.domain x.at_).1.up) (tableL (takeM m x.domain x.at_).1 x.domain) x.domain (takeM m x.domain x.at_).2.1 (takeM m x.domain x.at_).1.now;have h2:=Q1 n (takeM m x.domain x.at_).2.1.origin (Wy n (takeM m x.domain x.at_).1 x.domain (takeM m x.domain x.at_).2.1).2.1 (Om (takeM m x.domain x.at_).1 x.domain (Wy n (takeM m x.domain x.at_).1 x.domain (takeM m x.domain x.at_).2.1));unfold Wy at h2⊢;omega
 split
 ·show (0:Nat)<4294967296;decide
 split
 ·show (0:Nat)<4294967296;decide
 split
 ·show (0:Nat)<4294967296;decide
 ·show (0:Nat)<4294967296;decide
def Ako{n:Net}(hn:n.Fin)(dt:n.Num):∀(l:List StepM) {m:MacM} {J D:Int},MacOK n m J D→0≤J→0≤D→MacOK n (Dw n m l).1 (J+l.length) (D+l.length*4294967298)
 |[],m,J,D,h,_,_=>by
  rw[Dw];exact h.mono y_ y_
 |x::l,m,J,D,h,hJ,hD=>by
  rw[Dw];have:=Ako hn dt l (doT_ok hn dt h hJ hD x) q_ q_;exact this.mono (by simp only[yL];omega) (by simp only[yL];omega)
def Uc{n:Net}(hn:n.Fin):∀(l:List StepM) (m:MacM),(Dw n m l).2.length≤l.length*4294967296
 |[],m=>by simp[Dw]
 |x::l,m=>by
  rw[Dw];have h1:=Uc hn l (doT n m x).1;have h2:=Alu hn m x;simp only[zW,yL];omega
def Ak6(n:Net):MacOK n (newT n) 0 0:=by
 refine⟨by simp[newT],by simp[newT],by simp[newT],λt ht=>?_,λl hl=>?_,by simp[newT],by simp[newT],λi=>by simp[newT]⟩
 ·have:t=[]:=(List.mem_replicate.1 ht).2;rw[this];exact Aa4
 ·have:l=[]:=(List.mem_replicate.1 hl).2;rw[this];exact Acf
def Aal(n:Net):List Bool:=List.replicate n.links.length true
def runT(n:Net)(l:List StepM):List SeenM×Int:=if okB n (Aal n)=true then ((Dw n (newT n) l).2,0) else ([],2)
structure ScriptOK(l:List StepM):Prop where
 few:l.length≤200
 bytes:∀x∈l,x.bytes.length≤2000
attribute [local irreducible] Go.Sy.G Go.Sy.DR
set_option maxRecDepth 100000
set_option maxHeartbeats 4000000
def runO(n:Net)(m:MacM)(d:Bool)(l:List SeenM):Obs:=[(0,.box (Adj n 1 m.now m.injected m.drops)),(1,.box (To n m.up d)),(2,.row 1 Lk m.tables),(3,.row 1 Ae2 m.queues),(1000,.row 3 Dm l)]
def A44(n:Net)(hn:n.Fin)(dt:n.Num)(l:List StepM)(hl:ScriptOK l):Sp 19 [Am n,.sl 6 Db l] (.tup [.sl 3 Dm (runT n l).1,Aa (runT n l).2]):=cT F19 ntmps19 λF hF=>by
 have aa:=runT.eq_1 n l;generalize runT n l=res at *;have hlen:=hl.few;cases ar:okB n (Aal n)
 ·rw[zD (by rw[ar];simp)]at aa;subst aa;have q1:=Xs n hn ar
  conv=>whnf
  refine c0 q1 F16 ?_;refine oT ?_;refine Au 4 3 Dm E ?_;exact dN
 ·rw[zG ar]at aa;subst aa;have q1:=Akl n hn ar;have dy:=Ak6 n;generalize newT n=m0 at *
  conv=>whnf
  refine Af (Ad [(0,800),(1,801),(2,802),(3,803)] E F16 q1 E Y E ⟨.inr E,.inr E,.inr E,.inr E,Y⟩) E E ?_;refine oF ?_;refine B7 8 1000 3 Dm E E ?_;refine A5 l.length (λj=>[(6,.ptr 0 0),(8,.osl 1000),(21,.sl 6 Db l),(22,Aa l.length),(23,Aa j)]) (λj=>runO n (Dw n m0 (l.take j)).1 (runD n m0 false (l.take j)) (Dw n m0 (l.take j)).2) [(0,800),(1,801),(2,802),(3,803)] kU ?_;intro j hj;refine oO ?_;constructor<;>intro h
  ·have ab:j<l.length:=qA h;have ai:(j:Int).toNat<l.length:=by simpa using ab
   obtain ⟨x,ee⟩:∃x,l[j]=x:=⟨_,rfl⟩
   have e1:l[(j:Int).toNat]'ai=x:=ee;have hs:=Aik n m0 l j ab;have j9:=Ail n m0 false l j ab;rw[ee]at hs j9;have wi:=hl.bytes x (by rw[←ee];exact zI ab);have mg:=Ako hn dt (l.take j) dy (xU _) (xU _);have cg:(l.take j).length=j:=by rw[yA];omega
   have hjf:=Uc hn (l.take j) m0;rw[cg]at mg hjf;have q5:=A0u n hn dt (Dw n m0 (l.take j)).1 (runD n m0 false (l.take j)) _ _ mg q_ q_ q_ x q_;have mf:=Alu hn (Dw n m0 (l.take j)).1 x;clear h;refine oO ?_;refine⟨E,by omega,ai,?_⟩;rw[e1]
   conv=>whnf
   refine Af (Ad [(4,30)] E F34 q5 E ⟨E,E,E,E,Y⟩ E ⟨.inl E,.inl E,.inl E,.inl E,.inr E,Y⟩) E E ?_;refine oO ?_;refine Af (Ag Γ.toTy 35 E E E E E (.row E) .sl y_ q_ q_) E E ?_;refine gF ?_;have g1:(Dw n m0 (l.take (j+1))).1=(doT n (Dw n m0 (l.take j)).1 x).1:=by rw[hs]
   have g2:(Dw n m0 (l.take (j+1))).2=(Dw n m0 (l.take j)).2++(doT n (Dw n m0 (l.take j)).1 x).2:=by rw[hs]
   refine Ay [(1,30),(1000,35)] ab ⟨⟨E,E,E,E,E,E,E,E,E,E,Y⟩,?_,E,E⟩;dsimp only;rw[g1,g2,j9];exact⟨.inl E,E,.inl E,E,.inl E,E,.inl E,E,.inl E,E,Y⟩
  ·have gg:j=l.length:=qB h;subst gg;rw[yN];clear h;refine oO ?_;refine Aj 1000 E ?_;exact dN
end Go.Sy.YticmobkdaneelaaGreatDoor
namespace Go.Sy.YticmobkdaneelaaGreatDoor
open Go.Proofs Go.Proofs.Tryz
def routeI(l:List Hop):Int:=Bv (λh=>decide (h.kind=3)) l
def Qu(m:MacM)(i:Nat)(t:List EntryM):MacM:=if 60<t.length then m else (loadT m i t).1
def J0(m0:MacM)(l:List (List EntryM)):Nat→MacM
 |0=>m0
 |j+1=>Qu (J0 m0 l j) j ((l[j]?).getD [])
def A4i(l:List (List EntryM)):Prop:=∀t∈l,(∀e∈t,EntryM.In e)∧t.length≤maxLen
def Amv{t:List EntryM}(h:∀e∈t,EntryM.In e)(hl:t.length≤60):TabOK t:=by
 refine⟨by unfold An;omega,λe he=>(h e he).1,λe he=>?_⟩;have:=(h e he).2.1;simp only[wI,Lit.wf,zE,zJ,IntKind.max_i64]at this;have e2:IntKind.min .i64=-9223372036854775808:=by decide
 rw[e2]at this;unfold I64;omega
def Aom{n:Net}{m:MacM}{J D:Int}(h:MacOK n m J D)(i:Nat){t:List EntryM}(ht:∀e∈t,EntryM.In e):MacOK n (Qu m i t) J D:=by
 unfold Qu;split
 ·exact h
 ·rename_i hl;unfold loadT;split
  ·exact Akn h _ (Amv ht q_)
  ·exact h
def Afk{n:Net}{m:MacM}{J D:Int}(h:MacOK n m J D){l:List (List EntryM)}(hl:A4i l):∀j,MacOK n (J0 m l j) J D
 |0=>h
 |j+1=>by
  rw[J0];refine Aom (Afk h hl j) j ?_;by_cases hj:j<l.length
  ·rw[zT hj];exact(hl _ (zI hj)).1
  ·rw[wP q_];intro e he;cases he
attribute [local irreducible] Go.Sy.G Go.Sy.DR
set_option maxRecDepth 100000
set_option maxHeartbeats 4000000
def Wd(x:StepM):Prop:=x.up.length<100000
end Go.Sy.YticmobkdaneelaaGreatDoor
