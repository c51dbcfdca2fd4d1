/- Parts of a proof. -/
import Derived.Test.YtodbnbfjhjcanaaGreatDoorXA40
import Derived.Test.YtodbnbfjhjcanaaGreatDoorXA15
import Derived.Test.YtodbnbfjhjcanaaGreatDoorXA31
set_option maxHeartbeats 4000000
set_option linter.all false
namespace Go.Sy.Zaa
open Go.Proofs Go.Proofs.Tryz
section
set_option maxRecDepth 100000
theorem Ctx.behind{K:Nat->Prop}{a a2:Ka}{w w1 w2:World}(s:Step K a w a w1)(c:Ctx ⟨w1,a,[]⟩ a2 w2):Ctx ⟨w,a,[]⟩ a2 w2 where
 size:=wQ s.size c.size
 os:=c.os.trans s.os
 tape:=c.tape.trans s.tape
 output:=c.output.trans s.output
 M:=c.M
 old:=λb hb h=>by
  refine(c.old b (yV hb s.size) h).trans ?_;by_cases hm:a.M b
  .exact s.mkeep b hm
  .exact s.blk b hb (λ ho=>by
    rcases ho with ⟨k,hk⟩|ho
    .exact h k hk
    .exact hm ho)
 own:=λk b hk=>by
  rcases c.own k b hk with h|h
  .exact .inl (wQ s.size h)
  .exact .inr h
 nam:=c.nam
def Auw{k:Ka}{w:World}(hi:Inv k w):Step (λ_=>False) k w k w.drew/\Inv k w.drew:=by
 have g:=Grew.drew w;exact⟨⟨g.size,g.os,g.tape,g.output,E,λb _=>rfl,λb _ _=>rfl,λ_ _ _ _=>rfl,λ_ _=>rfl,λ_ h=>h.elim,λ_ h=>.inl h⟩,⟨hi.inj,hi.bnd,hi.apart,hi.mbnd⟩⟩
def Ath(n:Net)(hn:n.Fin)(up fw:List Bool):Sq 217 [.ptr 1 1,.clo (.func 191) [] [.ptr 3 0,.ptr 2 0]] (Xk n up 0 0 fw) (.tup []) (Xk n up 1 0 (Qx n up)):=by
 intro r w vs hi ay jh ar;have o1:=ar (1,.box (Ajf up 0 0 fw)) (by simp[Xk]);have o2:=ar (2,.box [.ptr 1 0]) (by simp[Xk]);have o3:=ar (3,.box (C8 n)) (by simp[Xk]);obtain ⟨b,e1,c1,c2,st1,inv1,vp⟩:=Dz (off:=2) (x:=.val (.int .i32 1)) (v:=.int .i32 1) hi o1 rfl (λ _ _=>by simp only[Rd]) rfl;obtain ⟨b2,_,_,_,e2,_⟩:=id o2;obtain ⟨b3,_,_,_,e3,_⟩:=id o3;simp only[RdL,Rd,e1,e2,e3]at jh;obtain ⟨v0,r0,rfl,rfl,v1,r1,rfl,⟨fs,cs,rfl,th,kc⟩,rfl⟩:=jh;subst th;obtain ⟨p3,q3,rfl,rfl,p2,q2,rfl,rfl,rfl⟩:=kc;have gq:=Ati n hn up fw 0 1 r (w.setCell ⟨b,2,none⟩ (.int .i32 1)) [.pointer (some ⟨b3,0,none⟩),.pointer (some ⟨b2,0,none⟩)] inv1 ay (by simp only[RdL,Rd,e2,e3];exact⟨_,_,rfl,rfl,_,_,rfl,rfl,rfl⟩) (λ p hp=>by
  simp only[Xk,yH,xP,vQ]at hp;rcases hp with rfl|rfl|rfl
  .exact vp
  .exact ObOK.step st1 (show ¬(2:Nat)=1 by decide) _ o2
  .exact ObOK.step st1 (show ¬ (3:Nat)=1 by decide) _ o3)
 obtain ⟨u1,y7,jm⟩:=c1 1 (.val (.int .u32 0)) rfl;obtain ⟨u2,ss,pf⟩:=c1 2 (.val (.int .i32 0)) rfl;rw[jm.val]at y7;rw[pf.val]at ss;have f1:=c2 1 (show 1<5 by decide);have f2:=c2 2 (show 2<5 by decide);have hl:=Ayo ⟨b,1,none⟩ 0 (w.setCell ⟨b,2,none⟩ (.int .i32 1)) ((World.cell?_setCell_other _ ⟨b,2,none⟩ ⟨b,1,none⟩ _ qq).trans y7);have hnot:∀(x:Bool) (w:World),(Op.unary .not (.bool x)).run prog w=.ok (.bool (!x)) w:=λ_ _=>rfl
 go_enter_defers func217,ntmps217
 go_wp2_with (first|(go_at_call 271;refine(At3 ⟨b,2,none⟩ _ (by assumption) (by assumption)).mono ?_;rintro e w' ⟨rfl,rfl⟩)|(go_at_call 191;refine gq.mono ?_;rintro e w' ⟨v,r2,rfl,lg,km,li,ta⟩)|(go_at_call 216;go_in))
 have p1:=ta (1,.box (Ajf up 0 1 (Qx n up))) (by simp[Xk]);have k1:r2 1=.blk b:=by
  obtain ⟨bb,_,_,_,q1,_⟩:=id p1;rcases lg.nam 1 (by rw[e1];intro h;cases h) with h|h
  .rw[h];exact e1
  .rw[h]at q1;cases q1
 obtain ⟨ba,a1,a2,a3,_,_,_⟩:=Dz (off:=1) (x:=.val (.int .u32 1)) (v:=.int .u32 1) km p1 rfl (λ_ _=>by simp only[Rd]) rfl;rw[k1]at a1;cases a1;obtain ⟨y8,vq⟩:=Auw km;have p2:=ObOK.step y8 (k:=1) (λh=>h) _ p1;obtain ⟨ba,a1,_,_,st3,vr,vu⟩:=Dz (off:=1) (x:=.val (.int .u32 1)) (v:=.int .u32 1) vq p2 rfl (λ_ _=>by simp only[Rd]) rfl;rw[k1]at a1;cases a1;have vu:ObOK r2 (w'.drew.setCell ⟨b,1,none⟩ (.int .u32 1)) 1 (.box (Ajf up 1 1 (Qx n up))):=vu;obtain ⟨ba,a1,a4,a5,st4,p6,vv⟩:=Dz (off:=2) (x:=.val (.int .i32 0)) (v:=.int .i32 0) vr vu rfl (λ_ _=>by simp only[Rd]) rfl;rw[k1]at a1;cases a1;have vv:ObOK r2 ((w'.drew.setCell ⟨b,1,none⟩ (.int .u32 1)).setCell ⟨b,2,none⟩ (.int .i32 0)) 1 (.box (Ajf up 1 0 (Qx n up))):=vv;obtain ⟨v1,uh,jm⟩:=a2 1 (.val (.int .u32 0)) rfl;rw[jm.val]at uh;obtain ⟨v2,li,pf⟩:=a4 2 (.val (.int .i32 1)) rfl;rw[pf.val]at li;refine leaves_cons (f:=273) (args:=#[.pointer (some ⟨b,1,none⟩),.bool true]) qq (by simp[go_sem]) ?_;refine(nL ⟨b,1,none⟩ (.int .u32 0) .returning _ uh (a3 1 (show 1<5 by decide))).mono ?_;rintro e u' yk ⟨rfl,rfl,rfl⟩;refine leaves_cons (f:=272) (args:=#[.pointer (some ⟨b,2,none⟩)]) (by simp[settle]) (by simp[go_sem]) ?_;refine(fV ⟨b,2,none⟩ _ _ li (a5 2 (show 2<5 by decide))).mono ?_;rintro e u' yk ⟨rfl,rfl,rfl⟩;have br:Step (·=1) r2 w' r2 ((w'.drew.setCell ⟨b,1,none⟩ (.int .u32 1)).setCell ⟨b,2,none⟩ (.int .i32 0)):=(y8.weaken (λ_ h=>h.elim)).trans (st3.trans st4);refine⟨.tuple #[],by simp[results,Tryz.results217],.tuple #[],r2,E,Ctx.behind st1 (lg.step p6 br),p6,⟨[],E,E⟩,λp hp=>?_⟩;simp only[Xk,yH,xP,vQ]at hp;rcases hp with rfl|rfl|rfl
 .exact vv
 .exact ObOK.step br (show ¬(2:Nat)=1 by decide) _ (ta (2,.box [.ptr 1 0]) (by simp[Xk]))
 .exact ObOK.step br (show ¬(3:Nat)=1 by decide) _ (ta (3,.box (C8 n)) (by simp[Xk]))
attribute [local irreducible]G DR
def bL(n:Net)(up:List Bool)(d:Bool):Obs:=[(1,.box (Jl n up d)),(2,.box [.ptr 1 0]),(3,.box (C8 n))]
def A1t(n:Net)(hn:n.Fin)(up:List Bool):Sq 137 [.ptr 1 1,.clo (.func 191) [] [.ptr 3 0,.ptr 2 0]] (bL n up false) (.tup []) (bL n up true):=cT F137 ntmps137 λF hF=>by
 have q1:Sq 216 [.ptr 1 1] (bL n up false) (Ab false) (bL n up false):=Ad1 n up [] 0 0;have q2:Sq 217 [.ptr 1 1,.clo (.func 191) [] [.ptr 3 0,.ptr 2 0]] (bL n up false) (.tup []) (bL n up true):=Ath n hn up []
 conv=>whnf
 refine Ai (Ad [] E F216 q1 E kA E kB) E E (oT ?_);refine Ai (Ad [] E F217 q2 E kA E kB) E E (oO ?_);exact A2 E .nil [] (bL n up true) (λ_ h=>h) E E kU
def A1s(n:Net)(up:List Bool):Sq 137 [.ptr 1 1,.clo (.func 191) [] [.ptr 3 0,.ptr 2 0]] (bL n up true) (.tup []) (bL n up true):=cT F137 ntmps137 λF hF=>by
 have q1:Sq 216 [.ptr 1 1] (bL n up true) (Ab true) (bL n up true):=Ad1 n up (Qx n up) 1 0
 conv=>whnf
 refine Ai (Ad [] E F216 q1 E kA E kB) E E (oF ?_);exact A2 E .nil [] (bL n up true) (λ_ h=>h) E E kU
def A1r(n:Net)(hn:n.Fin)(up:List Bool)(d:Bool):Sq 137 [.ptr 1 1,.clo (.func 191) [] [.ptr 3 0,.ptr 2 0]] (bL n up d) (.tup []) (bL n up true):=by
 cases d
 .exact A1t n hn up
 .exact A1s n up
def Asr(n:Net)(hn:n.Fin)(up:List Bool)(d:Bool):Sq 110 [.ptr 1 0,Am n] [(1,.box (Jl n up d))] (.sl 1 Ab (Qx n up)) [(1,.box (Jl n up true))]:=cT F110 ntmps110 λF hF=>by
 conv=>whnf
 refine Ai (Ad [] E F137 (A1r n hn up d) E kA E kB) E E (oO ?_);exact done E Ap [] [(1,.box (Jl n up true))] (λ_ h=>h) E E kU
end
section
def fH{n:Net}{fw:List Bool}{t:List EntryM}{dom:Int}{q:QueuedM}{now:Int}(ht:TabOK t)(hq:QueuedOK q):TabOK (bridgeT n fw t dom q now).1:=by
 unfold bridgeT;split
 .exact cZ
 split
 .split
  .exact Ww ht hq now
  .exact Ww ht hq now
 .exact Ww ht hq now
def Wc{n:Net}(_hn:n.Fin)(ax:n.Num){fw:List Bool}{t:List EntryM}{dom:Int}{q:QueuedM}{now:Int}(hq:QueuedOK q):∀o∈(bridgeT n fw t dom q now).2.1,OutOK n o:=by
 intro o ho;unfold bridgeT at ho;split at ho
 .cases ho
 rename_i h0;have hb:Ac n=true:=by
  cases hx:Ac n
  .exact zX (.inl (by unfold Ui;rw[hx];simp)) h0
  .rfl
 split at ho
 .split at ho
  .cases ho
  .rename_i h1;have h1:=Decidable.not_not.1 h1;have az:∀(d:Int),(lookT n (routerT n dom q.frame.dst).1 d).2=true->0<=(lookT n (routerT n dom q.frame.dst).1 d).1/\(lookT n (routerT n dom q.frame.dst).1 d).1.toNat<n.irbs.length:=λd h=>Vn h
   rw[zZ.1 ho];exact⟨by dsimp only;omega,by simp,λ_=>⟨A19 n ax _ _ az,Akp az h1⟩,λh=>by dsimp only at h;omega⟩
 .rcases yI.1 ho with h|h
  .obtain ⟨p,_,rfl⟩:=yS.1 h;unfold lA;exact Ajz (by dsimp only;split<;>omega) (Acr _ _ _ _ hq.frame) (Aoq _ _ _ _)
  .obtain ⟨p,_,rfl⟩:=yS.1 h;unfold oQ;exact Ajz (by dsimp only;omega) (by have:=Ago n dom p q.frame;omega) (Atu _ _ _ _)
def Wd{n:Net}(hn:n.Fin)(fw:List Bool)(t:List EntryM)(dom:Int)(q:QueuedM)(now:Int):(bridgeT n fw t dom q now).2.1.length<4294967296:=by
 unfold bridgeT;split
 .show (0:Nat)<4294967296;decide
 split
 .split
  .show (0:Nat)<4294967296;decide
  .show (1:Nat)<4294967296;decide
 .have:=Abf hn fw (learnQ t q now) dom q.from_ q.frame.dst;simp only[zU,yZ];omega
def aX(n:Net)(origin:Int):∀(a b:List OutM) (m:MacM),goesL n m origin (a++b)=((goesL n (goesL n m origin a).1 origin b).1,(goesL n m origin a).2++(goesL n (goesL n m origin a).1 origin b).2)
 |[],b,m=>by simp[goesL]
 |o::a,b,m=>by
  rw[wB,goesL,goesL,aX n origin a b];simp
def Y0(n:Net)(m:MacM)(origin:Int)(l:List OutM)(j:Nat)(hj:j<l.length):goesL n m origin (l.take (j+1))=((goesM n (goesL n m origin (l.take j)).1 l[j] origin).1,(goesL n m origin (l.take j)).2++(goesM n (goesL n m origin (l.take j)).1 l[j] origin).2):=by
 rw[yA hj,aX];simp[goesL]
def Wz(n:Net)(m:MacM)(o:OutM)(origin:Int):(goesM n m o origin).2.length<=1:=by
 unfold goesM;split
 .simp
 split
 .simp
 split
 .simp
 split<;>simp
def Sr(n:Net)(origin:Int):∀(l:List OutM) (m:MacM),(goesL n m origin l).2.length<=l.length
 |[],m=>by simp[goesL]
 |o::l,m=>by
  rw[goesL];have h1:=Sr n origin l (goesM n m o origin).1;have h2:=Wz n m o origin;simp only[zU,yL];omega
attribute [local irreducible]G DR
set_option maxRecDepth 100000
def Ai8{n:Net}{m:MacM}{J D:Int}(h:MacOK n m J D)(hD:0<=D)(dom:Int){r:List EntryM×List OutM×Int}(hr:TabOK r.1):MacOK n (pickD m dom r) J (D+1):=by
 unfold pickD;split
 .exact V7 h hD 2
 split
 .exact V7 (Af2 h dom hr) hD _
 .exact(Af2 h dom hr).mono (xN _) z_
def queL(q:QueuedM):List SV:=[Aa q.from_,Aa q.peer,Aa q.origin,Bi q.frame.dst,Bi q.frame.src,Aa q.frame.typ,.sl 1 Al q.frame.body]
def Axd(n:Net)(m:MacM)(q:QueuedM)(l:List SeenM):Obs:=[(0,.box (Qn n 1 m.now m.injected m.drops)),(1,.box (Jl n m.up true)),(2,.row 1 Hk m.tables),(3,.row 1 Me m.queues),(7,.box (queL q)),(1000,.row 3 B9 l)]
def Awn(n:Net)(hn:n.Fin)(bf:n.Num)(m:MacM)(d:Bool)(J D:Int)(ax:MacOK n m J D)(tl:0<=D)(hD:D<=900000000000)(dom at_:Int):Sq 57 [.ptr 0 0,Aa dom,Aa at_] (Dq n m d) (.sl 3 B9 (pickT n m dom at_).2) (Dq n (pickT n m dom at_).1 (if (takeM m dom at_).2.2 then true else d)):=cT F57 ntmps57 λF hF=>by
 have aa:=pickT.eq_1 n m dom at_;generalize pickT n m dom at_=res at *;have q1:=Aii n m d dom at_ (Ie ax dom);have ar:=Zj ax dom at_;have bd:(takeM m dom at_).2.2=true->0<=dom/\dom.toNat<m.queues.length:=λh=>by
  unfold takeM at h;split at h
  .cases h
  .rename_i h2;exact placeB_iff.1 (by cases hx:Af dom m.queues.length;exact zX hx h2;rfl)
 have so:(takeM m dom at_).1.tables=m.tables:=by unfold takeM;split<;>rfl
 generalize takeM m dom at_=r at *;obtain ⟨m1,q,ok⟩:=r;have htq:m.queues.length=m.tables.length:=by rw[ax.ques,ax.tabs]
 conv=>whnf
 refine Ai (Ad [] E F58 q1 E kA E kB) E E (oO ?_);cases ok
 .rw[zE rfl]at aa;subst aa
  (refine⟨λ_=>?_,λh=>False.elim (by simp at h)⟩;refine rg ?_;conv=>whnf)
  refine Ao 6 3 B9 E ?_;exact done E Ap [] (Dq n m1 d) (λ_ h=>h) E E kU
 rw[zD qq]at aa;have hd:=bd rfl;have jc:0<=dom/\dom.toNat<m1.tables.length:=by rw[so,<-htq];exact hd
 dsimp only at aa ar;have q2:=Asr n hn m1.up d;have q3:=Aln n hn bf (Qx n m1.up) (tableL m1 dom) dom q m1.now (cI ar.1 dom) ar.2;have d6:=fH (n:=n) (fw:=Qx n m1.up) (dom:=dom) (now:=m1.now) (cI ar.1 dom) ar.2;have dx:=Wc (fw:=Qx n m1.up) (t:=tableL m1 dom) (dom:=dom) (now:=m1.now) hn bf ar.2;have hb3:=Wd hn (Qx n m1.up) (tableL m1 dom) dom q m1.now;have hb4:=Alm n (Qx n m1.up) (tableL m1 dom) dom q m1.now;rw[Mf]at aa;have hz:=Ai8 ar.1 tl dom d6;generalize bridgeT n (Qx n m1.up) (tableL m1 dom) dom q m1.now=b at *;obtain ⟨t,out,e⟩:=b;have dx:∀o∈out,OutOK n o:=dx;have hb3:out.length<4294967296:=hb3;have hb4:Cd e:=hb4;have ht0:=tableL.eq_1 m1 dom;rw[aY jc.2]at ht0;generalize tableL m1 dom=t0 at *;subst ht0
 (refine⟨λh=>False.elim (by simp at h),λ_=>?_⟩;refine rg ?_;conv=>whnf)
 refine Cc (Ad [] E F110 q2 E ⟨E,q_⟩ E ⟨.inl E,q_⟩) j_ E (oD ?_);refine⟨jc.1,jc.2,?_⟩
 conv=>whnf
 refine⟨E,jc.2,?_⟩
 conv=>whnf
 refine cD q3 F109 (gM ?_);constructor<;>intro h
 .have h2:¬e=2:=by simpa using h
  clear h;refine oO ?_;refine⟨jc.1,jc.2,?_⟩
  conv=>whnf
  refine⟨E,jc.2,t,E,E,?_⟩
  conv=>whnf
  constructor<;>intro h
  .have h3:¬e=0:=by simpa using h
   clear h;have te:pickD m1 dom (t,out,e)=C1 (setT m1 dom t) e:=by
    unfold pickD;rw[zD h2,zE h3]
   rw[te]at aa hz;subst aa;have q4:=Ak7 n (setT m1 dom t) true e hb4.1 hb4.2 ⟨(ar.1.drp _).1,by have:=(ar.1.drp e.toNat).2;show m1.drops e.toNat<=1000000000000;omega⟩;refine oO ?_;refine Ai (Ad [] E F111 q4 E kA E kB) E E (oO ?_);have es:W9 (C1 (setT m1 dom t) e):=λi=>⟨(hz.drp i).1,by have:=(hz.drp i).2;omega⟩
   refine B6 12 1000 3 B9 E E ?_;refine A8 out.length (λj=>[(0,.ptr 0 0),(7,.ptr 7 0),(12,.osl 1000),(69,.sl 9 H3 out),(70,Aa out.length),(71,Aa j)]) (λj=>Axd n (goesL n (C1 (setT m1 dom t) e) q.origin (out.take j)).1 q (goesL n (C1 (setT m1 dom t) e) q.origin (out.take j)).2) [] kU ?_;intro j hj;refine gH ?_ ?_<;>intro h
   .have ab:j<out.length:=qA h;have aj:(j:Int).toNat<out.length:=kS ab;obtain ⟨o,dr⟩:=kE (out[j]);have e1:out[(j:Int).toNat]'aj=o:=dr;have hs:=Y0 n (C1 (setT m1 dom t) e) q.origin out j ab;rw[dr]at hs;have j7:=Vz hn q.origin (out.take j) hz z_ (λx hx=>dx x (wM hx));have hlen:(out.take j).length=j:=by rw[zW];omega
    rw[hlen]at j7;have m7:=Sr n q.origin (out.take j) (C1 (setT m1 dom t) e);rw[hlen]at m7;have q5:=nQ n hn (goesL n (C1 (setT m1 dom t) e) q.origin (out.take j)).1 true J _ j7 z_ o (dx o (by rw[<-dr];exact zI ab)) q.origin;have je:=Wz n (goesL n (C1 (setT m1 dom t) e) q.origin (out.take j)).1 o q.origin;clear h;refine oO ?_;refine⟨E,by omega,aj,?_⟩;rw[e1]
    conv=>whnf
    refine Ai (Ad [] E F112 q5 E kA E kB) E E (oO ?_);refine Ai (Ah Γ.toTy 81 E E E E E (.row E) .sl qq z_ z_) E E (gF ?_);have g1:(goesL n (C1 (setT m1 dom t) e) q.origin (out.take (j+1))).1=(goesM n (goesL n (C1 (setT m1 dom t) e) q.origin (out.take j)).1 o q.origin).1:=by rw[hs]
    have g2:(goesL n (C1 (setT m1 dom t) e) q.origin (out.take (j+1))).2=(goesL n (C1 (setT m1 dom t) e) q.origin (out.take j)).2++(goesM n (goesL n (C1 (setT m1 dom t) e) q.origin (out.take j)).1 o q.origin).2:=by rw[hs]
    refine Ax [(1000,81)] ab ⟨kA,?_,E,E⟩;dsimp only;rw[g1,g2];exact⟨.inl E,E,.inl E,E,.inl E,E,.inl E,E,.inl E,E,.inl E,E,q_⟩
   .have ej:j=out.length:=qB h;subst ej;rw[yM];clear h;refine oO ?_;refine Aj 1000 E ?_;exact done E Ap [] (Dq n (goesL n (C1 (setT m1 dom t) e) q.origin out).1 true) (λ_ h=>h) E E kU
  .have h3:e=0:=by simpa using h
   clear h;have te:pickD m1 dom (t,out,e)=setT m1 dom t:=by
    unfold pickD;rw[zD h2,zD (λh=>h h3)]
   rw[te]at aa hz;subst aa;refine oO ?_;have es:W9 (setT m1 dom t):=λi=>⟨(hz.drp i).1,by have:=(hz.drp i).2;omega⟩
   refine B6 12 1000 3 B9 E E ?_;refine A8 out.length (λj=>[(0,.ptr 0 0),(7,.ptr 7 0),(12,.osl 1000),(69,.sl 9 H3 out),(70,Aa out.length),(71,Aa j)]) (λj=>Axd n (goesL n (setT m1 dom t) q.origin (out.take j)).1 q (goesL n (setT m1 dom t) q.origin (out.take j)).2) [] kU ?_;intro j hj;refine gH ?_ ?_<;>intro h
   .have ab:j<out.length:=qA h;have aj:(j:Int).toNat<out.length:=kS ab;obtain ⟨o,dr⟩:=kE (out[j]);have e1:out[(j:Int).toNat]'aj=o:=dr;have hs:=Y0 n (setT m1 dom t) q.origin out j ab;rw[dr]at hs;have j7:=Vz hn q.origin (out.take j) hz z_ (λx hx=>dx x (wM hx));have hlen:(out.take j).length=j:=by rw[zW];omega
    rw[hlen]at j7;have m7:=Sr n q.origin (out.take j) (setT m1 dom t);rw[hlen]at m7;have q5:=nQ n hn (goesL n (setT m1 dom t) q.origin (out.take j)).1 true J _ j7 z_ o (dx o (by rw[<-dr];exact zI ab)) q.origin;have je:=Wz n (goesL n (setT m1 dom t) q.origin (out.take j)).1 o q.origin;clear h;refine oO ?_;refine⟨E,by omega,aj,?_⟩;rw[e1]
    conv=>whnf
    refine Ai (Ad [] E F112 q5 E kA E kB) E E (oO ?_);refine Ai (Ah Γ.toTy 81 E E E E E (.row E) .sl qq z_ z_) E E (gF ?_);have g1:(goesL n (setT m1 dom t) q.origin (out.take (j+1))).1=(goesM n (goesL n (setT m1 dom t) q.origin (out.take j)).1 o q.origin).1:=by rw[hs]
    have g2:(goesL n (setT m1 dom t) q.origin (out.take (j+1))).2=(goesL n (setT m1 dom t) q.origin (out.take j)).2++(goesM n (goesL n (setT m1 dom t) q.origin (out.take j)).1 o q.origin).2:=by rw[hs]
    refine Ax [(1000,81)] ab ⟨kA,?_,E,E⟩;dsimp only;rw[g1,g2];exact⟨.inl E,E,.inl E,E,.inl E,E,.inl E,E,.inl E,E,.inl E,E,q_⟩
   .have ej:j=out.length:=qB h;subst ej;rw[yM];clear h;refine oO ?_;refine Aj 1000 E ?_;exact done E Ap [] (Dq n (goesL n (setT m1 dom t) q.origin out).1 true) (λ_ h=>h) E E kU
 .have h2:e=2:=by simpa using h
  clear h;subst h2;have te:pickD m1 dom (t,out,2)=C1 m1 2:=by
   unfold pickD;rw[zE rfl]
  rw[te]at aa hz;subst aa;have q4:=Ak7 n m1 true 2 y_ y_ ⟨(ar.1.drp _).1,by have:=(ar.1.drp (Int.toNat 2)).2;omega⟩;refine oT ?_;refine Ai (Ad [] E F111 q4 E kA E kB) E E (oO ?_);have es:W9 (C1 m1 2):=λi=>⟨(hz.drp i).1,by have:=(hz.drp i).2;omega⟩
  refine B6 12 1000 3 B9 E E ?_;refine A8 out.length (λj=>[(0,.ptr 0 0),(7,.ptr 7 0),(12,.osl 1000),(69,.sl 9 H3 out),(70,Aa out.length),(71,Aa j)]) (λj=>Axd n (goesL n (C1 m1 2) q.origin (out.take j)).1 q (goesL n (C1 m1 2) q.origin (out.take j)).2) [] kU ?_;intro j hj;refine gH ?_ ?_<;>intro h
  .have ab:j<out.length:=qA h;have aj:(j:Int).toNat<out.length:=kS ab;obtain ⟨o,dr⟩:=kE (out[j]);have e1:out[(j:Int).toNat]'aj=o:=dr;have hs:=Y0 n (C1 m1 2) q.origin out j ab;rw[dr]at hs;have j7:=Vz hn q.origin (out.take j) hz z_ (λx hx=>dx x (wM hx));have hlen:(out.take j).length=j:=by rw[zW];omega
   rw[hlen]at j7;have m7:=Sr n q.origin (out.take j) (C1 m1 2);rw[hlen]at m7;have q5:=nQ n hn (goesL n (C1 m1 2) q.origin (out.take j)).1 true J _ j7 z_ o (dx o (by rw[<-dr];exact zI ab)) q.origin;have je:=Wz n (goesL n (C1 m1 2) q.origin (out.take j)).1 o q.origin;clear h;refine oO ?_;refine⟨E,by omega,aj,?_⟩;rw[e1]
   conv=>whnf
   refine Ai (Ad [] E F112 q5 E kA E kB) E E (oO ?_);refine Ai (Ah Γ.toTy 81 E E E E E (.row E) .sl qq z_ z_) E E (gF ?_);have g1:(goesL n (C1 m1 2) q.origin (out.take (j+1))).1=(goesM n (goesL n (C1 m1 2) q.origin (out.take j)).1 o q.origin).1:=by rw[hs]
   have g2:(goesL n (C1 m1 2) q.origin (out.take (j+1))).2=(goesL n (C1 m1 2) q.origin (out.take j)).2++(goesM n (goesL n (C1 m1 2) q.origin (out.take j)).1 o q.origin).2:=by rw[hs]
   refine Ax [(1000,81)] ab ⟨kA,?_,E,E⟩;dsimp only;rw[g1,g2];exact⟨.inl E,E,.inl E,E,.inl E,E,.inl E,E,.inl E,E,.inl E,E,q_⟩
  .have ej:j=out.length:=qB h;subst ej;rw[yM];clear h;refine oO ?_;refine Aj 1000 E ?_;exact done E Ap [] (Dq n (goesL n (C1 m1 2) q.origin out).1 true) (λ_ h=>h) E E kU
def Ar7(l:List (List EntryM))(now:Int)(j:Nat)(hj:j<l.length):((l.take j).map (λt=>ageT t now)++l.drop j).set j (ageT l[j] now)=(l.take (j+1)).map (λt=>ageT t now)++l.drop (j+1):=by
 apply tE
 .simp only[yN,zU,yZ,zW,yP];omega
 intro i h1 h2;simp only[yN,zU,yZ,zW,yP]at h1;rw[vV];by_cases hi:j=i
 .subst hi;rw[zE rfl,yT kO];simp
 .rw[zD hi];by_cases ab:i<j
  .rw[yT kO,yT kO];simp
  .rw[xR kO,xR kO];simp only[vN,yZ,zW];congr 1;omega
def Aer{P:Program}{o:Oper}{s:SS}{x y:Operand}{at_:Array TypeId}{k k':IntKind}{m n r:Int}(hr:(if n<m then n else m)=r)(h:o.op=.call ⟨.builtin .min,#[x,y],at_⟩)(hx:ev s x=.val (.int k m))(hy:ev s y=.val (.int k' n)):Good P o s ⟨.val (.int k r),[],[]⟩:=by
 have:=aQ (P:=P) h hx hy;rwa [hr]at this
def lJ(l:List (List EntryM))(now:Int)(j:Nat):List (List EntryM):=(l.take j).map (λt=>ageT t now)++l.drop j
def A0k(l:List (List EntryM))(now:Int)(j:Nat)(hj:j<l.length)(h2:j<(lJ l now j).length):(lJ l now j)[j]=l[j]:=by
 have h:(lJ l now j)[j]? = l[j]?:=by
  unfold lJ;have hm:min j l.length=j:=by omega
  rw[wE kO,List.getElem?_drop,yZ,zW,hm,tP,Nat.add_zero]
 rw[zR hj,zR h2]at h;exact Option.some.inj h
def Alx(l:List (List EntryM))(now:Int)(j:Nat):(lJ l now j).length=l.length:=by
 unfold lJ;simp only[zU,yZ,zW,yP];omega
def tickO(n:Net)(m:MacM)(d:Bool)(now:Int)(j:Nat):Obs:=[(0,.box (Qn n 1 now m.injected m.drops)),(1,.box (Jl n m.up d)),(2,.row 1 Hk (lJ m.tables now j)),(3,.row 1 Me m.queues)]
def Awl(n:Net)(m:MacM)(d:Bool)(J D:Int)(ax:MacOK n m J D)(hs:An n.domains):Sq 59 [.ptr 0 0] (Dq n m d) (.tup []) (Dq n (Q1 m) d):=cT F59 ntmps59 λF hF=>by
 unfold An at hs;have hnow:=ax.now;have so:m.tables.length<2147483648:=by rw[ax.tabs];exact hs
 have d7:=ax.tab;obtain ⟨nw,yp⟩:=kE ((if 1099511627776<m.now+1 then 1099511627776 else m.now+1));have ed:Q1 m=⟨m.up,lJ m.tables nw m.tables.length,m.queues,nw,m.injected,m.drops⟩:=by
  have:min (m.now+1) 1099511627776=nw:=by rw[<-yp];split<;>omega
  unfold Q1 lJ;rw[this,yM,wR,xG]
 rw[ed]
 conv=>whnf
 refine iW ?_;refine Ai (Aer yp E E E) E E (oO ?_);refine A8 m.tables.length (λj=>[(0,.ptr 0 0),(16,.osl 2),(17,Aa m.tables.length),(18,Aa j)]) (λj=>tickO n m d nw j) [] kU ?_;intro j hj;refine gH ?_ ?_<;>intro h
 .have ab:j<m.tables.length:=qA h;have lp:=Alx m.tables nw j;have aj:(j:Int).toNat<(lJ m.tables nw j).length:=by rw[lp];simpa using ab
  obtain ⟨t,dr⟩:=kE (m.tables[j]);have e1:(lJ m.tables nw j)[(j:Int).toNat]'aj=t:=(A0k m.tables nw j ab (by rw[lp];exact ab)).trans dr;have hs:=Ar7 m.tables nw j ab;rw[dr]at hs;have ht:=d7 t (by rw[<-dr];exact zI ab);clear h;refine oO ?_;refine⟨by omega,aj,?_⟩
  conv=>whnf
  refine⟨E,aj,?_⟩;rw[e1]
  conv=>whnf
  refine cD (A08 t nw ht.short ht.mac) F113 (oD ?_);refine⟨by omega,aj,?_⟩
  conv=>whnf
  refine⟨E,aj,ageT t nw,E,E,?_⟩
  conv=>whnf
  refine kW ?_;refine iW ?_;exact Ax [] ab ⟨kA,⟨.inl E,E,.inl E,E,.inl (zH (Ob.row 1 Hk) hs.symm),E,.inl E,E,q_⟩,E,E⟩
 .have ej:j=m.tables.length:=qB h;subst ej;clear h;refine oO ?_;exact A2 E .nil [] (Dq n ⟨m.up,lJ m.tables nw m.tables.length,m.queues,nw,m.injected,m.drops⟩ d) (λ_ h=>h) E E kU
def Aij(n:Net)(m:MacM)(d:Bool):Obs:=[(0,.box (Qn n 4 m.now m.injected m.drops)),(1,.non),(2,.row 1 Hk m.tables),(3,.row 1 Me m.queues),(4,.box (Jl n m.up d))]
def upT(m:MacM)(up:List Bool):MacM:=⟨up,m.tables,m.queues,m.now,m.injected,m.drops⟩
def doD(n:Net)(m:MacM)(d:Bool)(x:StepM):Bool :=
 if x.kind=1 then d else if x.kind=2 then (if (takeM m x.domain x.at_).2.2 then true else d) else if x.kind=3 then d else if x.kind=4 then d else if x.kind=5 then (if x.up.length=n.links.length then false else d) else d
def nR(n:Net)(hn:n.Fin)(bf:n.Num)(m:MacM)(d:Bool)(J D:Int)(ax:MacOK n m J D)(hJ:J<900000000000)(tl:0<=D)(hD:D<=900000000000)(x:StepM)(hb:x.bytes.length<100000):Sq 27 [.ptr 0 0,Ca x] (Dq n m d) (.tup [.sl 3 B9 (doT n m x).2,Aa 0]) (Aij n (doT n m x).1 (doD n m d x)):=cT F27 ntmps27 λF hF=>by
 have aa:=doT.eq_1 n m x;generalize doT n m x=res at *;have dz:=doD.eq_1 n m d x;generalize doD n m d x=dd at *
 conv=>whnf
 refine Ai (aW (d:=900) E E E) E E (oF ?_);constructor<;>intro h
 .have h1:x.kind=1:=by simpa using h
  rw[zE h1]at aa dz;subst aa;subst dz;have q1:=Am7 n hn m dd J D ax z_ z_ x.port x.bytes hb;refine oO ?_;refine Ai (Ad [] E F56 q1 E kA E kB) E E (oO ?_);refine Ao 4 3 B9 E (Lk 1 4 E E y_ ?_);exact done E (.cons .tmp Ap) [] (Aij n (injectT n m x.port x.bytes) dd) (λ_ h=>h) E E kU
 have h1:¬x.kind=1:=kS h;rw[zD h1]at aa dz;clear h;refine gH ?_ ?_<;>intro h
 .have h1:x.kind=2:=by simpa using h
  rw[zE h1]at aa dz;subst aa;have q1:=Awn n hn bf m d J D ax tl hD x.domain x.at_;rw[<-dz]at q1;refine oO ?_;refine Ai (Ad [] E F57 q1 E kA E kB) E E (oO ?_);refine Lk 1 4 E E y_ ?_;exact done E (.cons .tmp Ap) [] (Aij n (pickT n m x.domain x.at_).1 dd) (λ_ h=>h) E E kU
 have h1:¬x.kind=2:=kS h;rw[zD h1]at aa dz;clear h;refine gH ?_ ?_<;>intro h
 .have h1:x.kind=3:=by simpa using h
  rw[zE h1]at aa dz;subst aa;subst dz;have q1:=Aii n m dd x.domain x.at_ (Ie ax _);refine oO ?_;refine Ai (Ad [] E F58 q1 E kA E kB) E E (oO ?_);refine Ao 4 3 B9 E (Lk 1 4 E E y_ ?_);exact done E (.cons .tmp Ap) [] (Aij n (takeM m x.domain x.at_).1 dd) (λ_ h=>h) E E kU
 have h1:¬x.kind=3:=kS h;rw[zD h1]at aa dz;clear h;refine gH ?_ ?_<;>intro h
 .have h1:x.kind=4:=by simpa using h
  rw[zE h1]at aa dz;subst aa;subst dz;have q1:=Awl n m dd J D ax hn.domains;refine oO ?_;refine Ai (Ad [] E F59 q1 E kA E kB) E E (oO ?_);refine Ao 4 3 B9 E (Lk 1 4 E E y_ ?_);exact done E (.cons .tmp Ap) [] (Aij n (Q1 m) dd) (λ_ h=>h) E E kU
 have h1:¬x.kind=4:=kS h;rw[zD h1]at aa dz;clear h;refine gH ?_ ?_<;>intro h
 .have h1:x.kind=5:=by simpa using h
  rw[zE h1]at aa dz;clear h;refine oO ?_;refine kW ?_;constructor<;>intro h
  .have h2:x.up.length=n.links.length:=qA h;rw[zE h2]at aa dz;subst aa;subst dz;clear h;have j5:=hn.links;unfold An at j5;refine oO ?_;refine gE (Abj x.up z_) F46 ?_;refine Ao 4 3 B9 E (Ak 55 (Jl n x.up false) E vL ?_);exact done E (.cons .tmp Ap) [(4,55)] (Aij n (upT m x.up) false) (λ_ h=>h) E E kU
  .have h2:¬x.up.length=n.links.length:=qB h;rw[zD h2]at aa dz;subst aa;subst dz;clear h;refine oO ?_;refine Ao 4 3 B9 E (Lk 1 4 E E y_ ?_);exact done E (.cons .tmp Ap) [] (Aij n m dd) (λ_ h=>h) E E kU
 have h1:¬x.kind=5:=kS h;rw[zD h1]at aa dz;subst aa;subst dz;clear h;refine oO ?_;refine Ao 4 3 B9 E (Lk 1 4 E E y_ ?_);exact done E (.cons .tmp Ap) [] (Aij n m dd) (λ_ h=>h) E E kU
def Yl(n:Net)(hn:n.Fin)(hb:okB n (List.replicate n.links.length true)=false):Sp 49 [Am n] (.tup [.val (.pointer none),Aa 2]):=cT F49 ntmps49 λF hF=>by
 have j5:=hn.links;unfold An at j5;have q1:=Aqq n.links.length z_;have q2:=Aa0 n (List.replicate n.links.length true) hn hb;generalize List.replicate n.links.length true=up at *
 conv=>whnf
 refine O0 7 Ab [true] E E ?_;refine Aj 7 E (oO ?_);refine gE q1 F100 ?_;refine c0 q2 F101 (oT ?_);exact dN
def Afz(n:Net)(hn:n.Fin)(hb:okB n (List.replicate n.links.length true)=true):Sq 49 [Am n] [] (.tup [.ptr 0 0,Aa 0]) (Dq n (newT n) false):=cT F49 ntmps49 λF hF=>by
 have j5:=hn.links;have j6:=hn.domains;unfold An at j5 j6;have q1:=Aqq n.links.length z_;have q2:=Aet n (List.replicate n.links.length true) hn hb;have me:=newT.eq_1 n;generalize newT n=m at *;generalize List.replicate n.links.length true=up at *;refine fW ?_;refine O0 7 Ab [true] E E ?_;refine Aj 7 E (gN q1 F100 ?_);refine gN q2 F101 ?_;refine fU ?_;refine Cc (Ad [(0,700),(1,701),(2,702),(3,703),(4,704),(5,705),(6,706),(7,707)] E F102 (Qz n hn) E q_ E kB) j_ E (fU ?_);refine Cc (B5 Γ.toTy (d:=28) (n:=n.domains.length) (λ_:Unit=>svN) () E E E E E E E E z_ z_ E E E) j_ E (fU ?_);refine Cc (B5 Γ.toTy (d:=32) (n:=n.domains.length) (λ_:Unit=>svN) () E E E E E E E E z_ z_ E E E) j_ E (fU ?_);refine⟨j_,?_⟩;refine Aj 700 E (Aj 701 E ?_);refine Aj 702 E (Aj 703 E ?_);refine Aj 704 E (Aj 705 E ?_);refine Aj 706 E (Aj 707 E ?_);refine Al2 28 (e':=Hk) (l':=List.replicate n.domains.length []) E qq (λM w i h1 h2 v hv=>?_) ?_
 .rw[List.getElem_replicate];simp only[RdD]at hv;exact Ab4 hv
 refine Al2 32 (e':=Me) (l':=List.replicate n.domains.length []) E qq (λM w i h1 h2 v hv=>?_) ?_
 .rw[List.getElem_replicate];simp only[RdD]at hv;exact Ab4 hv
 refine Ak 24 (Jl n up false) E vL (fU ?_);subst me;exact done E (.cons .tmp Ap) [(0,34),(1,24),(2,28),(3,32)] (Dq n ⟨up,List.replicate n.domains.length [],List.replicate n.domains.length [],0,0,λ_=>0⟩ false) (λ_ h=>h) E E kU
end
section
def eA(n:Net):∀(a b:List StepM) (m:MacM),C2 n m (a++b)=((C2 n (C2 n m a).1 b).1,(C2 n m a).2++(C2 n (C2 n m a).1 b).2)
 |[],b,m=>by simp[C2]
 |o::a,b,m=>by
  rw[wB,C2,C2,eA n a b];simp
def cO(n:Net)(m:MacM)(l:List StepM)(j:Nat)(hj:j<l.length):C2 n m (l.take (j+1))=((doT n (C2 n m (l.take j)).1 l[j]).1,(C2 n m (l.take j)).2++(doT n (C2 n m (l.take j)).1 l[j]).2):=by
 rw[yA hj,eA];simp[C2]
def runF(n:Net)(s:MacM×Bool)(l:List StepM):MacM×Bool:=l.foldl (λs x=>((doT n s.1 x).1,doD n s.1 s.2 x)) s
def Ain(n:Net):∀(l:List StepM) (s:MacM×Bool),(runF n s l).1=(C2 n s.1 l).1
 |[],s=>rfl
 |x::l,s=>by
  have:=Ain n l ((doT n s.1 x).1,doD n s.1 s.2 x);rw[C2];exact this
def runD(n:Net)(m:MacM)(d:Bool)(l:List StepM):Bool:=(runF n (m,d) l).2
def cP(n:Net)(m:MacM)(d:Bool)(l:List StepM)(j:Nat)(hj:j<l.length):runD n m d (l.take (j+1))=doD n (C2 n m (l.take j)).1 (runD n m d (l.take j)) l[j]:=by
 unfold runD;rw[yA hj];have:=Ain n (l.take j) (m,d);unfold runF at this|-;rw[xO];show doD n (List.foldl _ (m,d) (l.take j)).1 _ l[j]=_;rw[this]
def Aps{n:Net}(hn:n.Fin)(bf:n.Num){m:MacM}{J D:Int}(h:MacOK n m J D)(hJ:0<=J)(hD:0<=D)(x:StepM):MacOK n (doT n m x).1 (J+1) (D+4294967298):=by
 unfold doT;split
 .exact(Ao2 hn h hJ hD _ _).mono z_ z_
 split
 .have ar:=Zj h x.domain x.at_;unfold pickT;split
  .exact ar.1.mono z_ z_
  .have hb:=Wd hn (Qx n (takeM m x.domain x.at_).1.up) (tableL (takeM m x.domain x.at_).1 x.domain) x.domain (takeM m x.domain x.at_).2.1 (takeM m x.domain x.at_).1.now;have h1:=Ai8 ar.1 hD x.domain (fH (n:=n) (fw:=Qx n (takeM m x.domain x.at_).1.up) (dom:=x.domain) (now:=(takeM m x.domain x.at_).1.now) (cI ar.1 x.domain) ar.2);have h2:=Vz hn (takeM m x.domain x.at_).2.1.origin (Mf n (takeM m x.domain x.at_).1 x.domain (takeM m x.domain x.at_).2.1).2.1 h1 z_ (Wc hn bf ar.2);refine h2.mono z_ ?_;unfold Mf;omega
 split
 .exact(Zj h x.domain x.at_).1.mono z_ z_
 split
 .have h1:=h.now;refine⟨h.up,by unfold Q1;simp only[yZ];exact h.tabs,h.ques,λt ht=>?_,h.que,?_,?_,λi=>?_⟩
  .unfold Q1 at ht;obtain ⟨t0,ht0,rfl⟩:=yS.1 ht;exact A2v (h.tab t0 ht0) _
  .unfold Q1;dsimp only;omega
  .have:=h.inj;unfold Q1;dsimp only;omega
  .have:=h.drp i;unfold Q1;dsimp only;omega
 split
 .split
  .rename_i h2;exact MacOK.mono (n:=n) (m:=⟨x.up,m.tables,m.queues,m.now,m.injected,m.drops⟩) ⟨h2,h.tabs,h.ques,h.tab,h.que,h.now,h.inj,h.drp⟩ z_ z_
  .exact h.mono z_ z_
 .exact h.mono z_ z_
def Aha{n:Net}(hn:n.Fin)(m:MacM)(x:StepM):(doT n m x).2.length<4294967296:=by
 unfold doT;split
 .show (0:Nat)<4294967296;decide
 split
 .unfold pickT;split
  .show (0:Nat)<4294967296;decide
  .have hb:=Wd hn (Qx n (takeM m x.domain x.at_).1.up) (tableL (takeM m x.domain x.at_).1 x.domain) x.domain (takeM m x.domain x.at_).2.1 (takeM m x.domain x.at_).1.now;have h2:=Sr n (takeM m x.domain x.at_).2.1.origin (Mf n (takeM m x.domain x.at_).1 x.domain (takeM m x.domain x.at_).2.1).2.1 (pickD (takeM m x.domain x.at_).1 x.domain (Mf n (takeM m x.domain x.at_).1 x.domain (takeM m x.domain x.at_).2.1));unfold Mf at h2|-;omega
 split
 .show (0:Nat)<4294967296;decide
 split
 .show (0:Nat)<4294967296;decide
 split
 .show (0:Nat)<4294967296;decide
 .show (0:Nat)<4294967296;decide
def lK{n:Net}(hn:n.Fin)(bf:n.Num):∀(l:List StepM) {m:MacM} {J D:Int},MacOK n m J D->0<=J->0<=D->MacOK n (C2 n m l).1 (J+l.length) (D+l.length*4294967298)
 |[],m,J,D,h,_,_=>by
  rw[C2];exact h.mono qq qq
 |x::l,m,J,D,h,hJ,hD=>by
  rw[C2];have:=lK hn bf l (Aps hn bf h hJ hD x) z_ z_;exact this.mono (by simp only[yL];omega) (by simp only[yL];omega)
def Zu{n:Net}(hn:n.Fin):∀(l:List StepM) (m:MacM),(C2 n m l).2.length<=l.length*4294967296
 |[],m=>by simp[C2]
 |x::l,m=>by
  rw[C2];have h1:=Zu hn l (doT n m x).1;have h2:=Aha hn m x;simp only[zU,yL];omega
def To(n:Net):MacOK n (newT n) 0 0:=by
 refine⟨by simp[newT],by simp[newT],by simp[newT],λt ht=>?_,λl hl=>?_,by simp[newT],by simp[newT],λi=>by simp[newT]⟩
 .have:t=[]:=(List.mem_replicate.1 ht).2;rw[this];exact cZ
 .have:l=[]:=(List.mem_replicate.1 hl).2;rw[this];exact eO
def Zg(n:Net):List Bool:=List.replicate n.links.length true
def runT(n:Net)(l:List StepM):List SeenM×Int:=if okB n (Zg n)=true then ((C2 n (newT n) l).2,0) else ([],2)
structure ScriptOK(l:List StepM):Prop where
 few:l.length<=200
 bytes:∀x∈l,x.bytes.length<=2000
attribute [local irreducible]G DR
set_option maxRecDepth 100000
def runO(n:Net)(m:MacM)(d:Bool)(l:List SeenM):Obs:=[(0,.box (Qn n 1 m.now m.injected m.drops)),(1,.box (Jl n m.up d)),(2,.row 1 Hk m.tables),(3,.row 1 Me m.queues),(1000,.row 3 B9 l)]
def A1c(n:Net)(hn:n.Fin)(bf:n.Num)(l:List StepM)(hl:ScriptOK l):Sp 20 [Am n,.sl 6 Ca l] (.tup [.sl 3 B9 (runT n l).1,Aa (runT n l).2]):=cT F20 ntmps20 λF hF=>by
 have aa:=runT.eq_1 n l;generalize runT n l=res at *;have hlen:=hl.few;cases ar:okB n (Zg n)
 .rw[zD (by rw[ar];simp)]at aa;subst aa;have q1:=Yl n hn ar
  conv=>whnf
  refine c0 q1 F49 (oT ?_);exact Ao 4 3 B9 E dN
 .rw[zE ar]at aa;subst aa;have q1:=Afz n hn ar;have dy:=To n;generalize newT n=m0 at *
  conv=>whnf
  refine Ai (Ad [(0,800),(1,801),(2,802),(3,803)] E F49 q1 E q_ E kB) E E (oF ?_);refine B6 8 1000 3 B9 E E ?_;refine A8 l.length (λj=>[(6,.ptr 0 0),(8,.osl 1000),(21,.sl 6 Ca l),(22,Aa l.length),(23,Aa j)]) (λj=>runO n (C2 n m0 (l.take j)).1 (runD n m0 false (l.take j)) (C2 n m0 (l.take j)).2) [(0,800),(1,801),(2,802),(3,803)] kU ?_;intro j hj;refine gH ?_ ?_<;>intro h
  .have ab:j<l.length:=qA h;have aj:(j:Int).toNat<l.length:=kS ab;obtain ⟨x,dr⟩:=kE (l[j]);have e1:l[(j:Int).toNat]'aj=x:=dr;have hs:=cO n m0 l j ab;have j6:=cP n m0 false l j ab;rw[dr]at hs j6;have uq:=hl.bytes x (by rw[<-dr];exact zI ab);have j7:=lK hn bf (l.take j) dy (xN _) (xN _);have cw:(l.take j).length=j:=by rw[zW];omega
   have hjf:=Zu hn (l.take j) m0;rw[cw]at j7 hjf;have q5:=nR n hn bf (C2 n m0 (l.take j)).1 (runD n m0 false (l.take j)) _ _ j7 z_ z_ z_ x z_;have je:=Aha hn (C2 n m0 (l.take j)).1 x;clear h;refine oO ?_;refine⟨E,by omega,aj,?_⟩;rw[e1]
   conv=>whnf
   refine Ai (Ad [(4,30)] E F27 q5 E kA E kB) E E (oO ?_);refine Ai (Ah Γ.toTy 35 E E E E E (.row E) .sl qq z_ z_) E E (gF ?_);have g1:(C2 n m0 (l.take (j+1))).1=(doT n (C2 n m0 (l.take j)).1 x).1:=by rw[hs]
   have g2:(C2 n m0 (l.take (j+1))).2=(C2 n m0 (l.take j)).2++(doT n (C2 n m0 (l.take j)).1 x).2:=by rw[hs]
   refine Ax [(1,30),(1000,35)] ab ⟨kA,?_,E,E⟩;dsimp only;rw[g1,g2,j6];exact⟨.inl E,E,.inl E,E,.inl E,E,.inl E,E,.inl E,E,q_⟩
  .have ej:j=l.length:=qB h;subst ej;rw[yM];clear h;refine oO ?_;exact Aj 1000 E dN
end
section
def Abw{P:Hop->Prop}{S:Srch}(h:∀f∈S.list,P f.hop)(d k:Int){x:Hop}(hx:P x)(a:Int):∀f∈(meetT S d k x a).list,P f.hop:=by
 rw[meetT];split
 .exact h
 .rw[Od];split<;>(intro f hf;rcases yI.1 hf with hf|hf;exact h f hf;rw[zZ]at hf;subst hf;exact hx)
def Abx{P:Hop->Prop}{k i:Int}:∀{l:List Hop} {S:Srch},(∀f∈S.list,P f.hop)->(∀h∈l,P h)->∀f∈(ext1 S k i l).list,P f.hop
 |[],S,h,_=>h
 |x::l,S,h,hl=>Abx (l:=l) (Abw h x.domain k (hl x qq) i) (λy hy=>hl y (by simp[hy]))
def Alu{P:Hop->Prop}{i:Int}:∀{l:List Lead} {S:Srch},(∀f∈S.list,P f.hop)->(∀q∈l,P ⟨3,0,q.domain,q.addr⟩)->∀f∈(ext2 S i l).list,P f.hop
 |[],S,h,_=>h
 |x::l,S,h,hl=>Alu (l:=l) (Abw h x.domain 1 (hl x qq) i) (λy hy=>hl y (by simp[hy]))
def A2r{P:Hop->Prop}{n:Net}(h1:∀d,∀x∈C4 n d,P x)(h2:∀d,∀q∈routesT n d,P ⟨3,0,q.domain,q.addr⟩){S:Srch}(h:∀f∈S.list,P f.hop)(i:Int):∀f∈(extT n S i).list,P f.hop:=by
 rw[extT];split
 .exact Alu (Abx h (h1 _)) (h2 _)
 .exact Abx h (h1 _)
def Ava{P:Hop->Prop}{n:Net}{dev:Int}(h:∀d,P ⟨0,0,d,0⟩)(l:List Int):∀f∈(Ou n dev l).list,P f.hop:=by
 suffices hs:∀(l:List Int) (S:Srch),(∀f∈S.list,P f.hop)->∀f∈(l.foldl (J3 n dev) S).list,P f.hop from hs l _ (λf hf=>by simp[Kq]at hf)
 intro l
 induction l with
 |nil=>exact λS h=>h
 |cons x l ih=>
  intro S hS;refine ih _ ?_;rw[J3];split
  .exact hS
  .exact Abw hS _ _ (h _) _
def Abv{P:Hop->Prop}{n:Net}(h1:∀d,∀x∈C4 n d,P x)(h2:∀d,∀q∈routesT n d,P ⟨3,0,q.domain,q.addr⟩){to:Int}:∀(k:Nat) (S:Srch) (i:Nat),S.OK n->Backs S.list->(∀f∈S.list,P f.hop)->i<=S.list.length->(Eh n to k S i).2=true ->
  ∀h∈(Eh n to k S i).1,P h
 |0,S,i,_,_,_,_,h=>by cases h
 |k+1,S,i,ok,bk,hk,hi,h=>by
  rw[Eh]at h|-;split at h
  .rename_i ab;rw[zE ab];split at h
   .rename_i bw;rw[zE bw];exact(fI bk hk ab).1
   .rename_i bw;rw[zD bw];have y4:=bk.ext (n:=n) (i:=i) ⟨by omega,by omega⟩;exact Abv h1 h2 k _ _ (ok.ext i) y4.1 (A2r h1 h2 hk i) z_ h
  .cases h
def A2q{P:Hop->Prop}{n:Net}(h1:∀d,∀x∈C4 n d,P x)(h2:∀d,∀q∈routesT n d,P ⟨3,0,q.domain,q.addr⟩)(h3:∀d,P ⟨0,0,d,0⟩){from_ to:Int}(h:(wayT n from_ to).2=true):∀x∈(wayT n from_ to).1,P x:=by
 rw[wayT]at h|-;split at h
 .rename_i hc;rw[zE hc];have hp:=So hc.1;have xg:(beginT n from_).OK n:=by
   rw[beginT,Ag hp.2];exact W7 λv hv h0=>Ki hc.2.2.2 hp.2 hv h0
  have xh:Backs (beginT n from_).list:=by rw[beginT];exact Ua _ _ _
  exact Abv h1 h2 _ _ _ xg xh (by rw[beginT];exact Ava h3 _) (xX _) h
 .cases h
def LinkOK(n:Net)(h:Hop):Prop:=h.kind=1->(0<=h.port/\h.port.toNat<n.ports.length)/\0<=(nth n.ports h.port).link/\(nth n.ports h.port).link.toNat<n.links.length
def Ajd{n:Net}{i:Int}(h:0<=Bv n i):(0<=i/\i.toNat<n.ports.length)/\0<=(nth n.ports i).link/\(nth n.ports i).link.toNat<n.links.length:=by
 have ht:=Eu h;unfold Bv at h;split at h
 .rename_i hc;have e1:nth n.ports i=n.ports[i.toNat]:=Ag ht.1.2;rw[e1]at hc|-;exact⟨ht.1,hc.2.1,(I2 hc.2.2 ht.1.2 hc.2.1).1⟩
 .omega
def way_links{n:Net}{from_ to:Int}(h:(wayT n from_ to).2=true):∀x∈(wayT n from_ to).1,LinkOK n x:=by
 refine A2q (λd x hx=>?_) (λd q _ e=>?_) (λd e=>?_) h
 .rw[C4]at hx;split at hx
  .rcases yI.1 hx with hx|hx
   .obtain ⟨p,_,hp⟩:=wL.1 hx;rw[linkHop]at hp;split at hp
    .rename_i hc;simp only[Option.some.injEq]at hp;subst hp;intro _;refine Ajd ?_;rw[linkDomT]at hc;split at hc
     .rename_i hd;rw[crossT]at hd;split at hd
      .rename_i lg;exact lg.1
      .cases hd
     .cases hc
    .cases hp
   .obtain ⟨p,hp,rfl⟩:=yS.1 hx;intro e;simp[Mr]at e
  .cases hx
 .simp at e
 .simp at e
def Af3:Nat:=2203318222849
def stepB(n:Net)(l:List Hop)(i:Nat)(h:Hop):Bool:=Af h.domain n.domains.length&&!(decide (h.kind=3)&&(decide (i=0)||decide ((nth n.domains (nth l ((i:Int)-1)).domain).irb<0)))
def Yo(l:List Hop):Int:=Bs (λh=>decide (h.kind=3)) l
def fP(a:Nat):PacketM:=⟨0,0,64,17,1,a,[]⟩
def irbOf(n:Net)(l:List Hop):Irb:=nth n.irbs (nth n.domains (nth l (Yo l-1)).domain).irb
def frameW(n:Net)(l:List Hop):FrameM:=if 0<Yo l then ⟨D7 (irbOf n l).addr,Af3,2048,(ipPutT (fP (nth l (Yo l)).addr.toNat)).1⟩ else ⟨281474976710655,Af3,34997,[]⟩
def wayBytes(n:Net)(l:List Hop):List UInt8×Int:=if Ac n=true/\l≠[]/\H9 (stepB n l) l=true then (Mn (frameW n l),0) else ([],2)
def injectW(n:Net)(from_:Int)(l:List Hop):StepM :=
 ⟨1,from_,0,0,if (nth n.domains (nth l 0).domain).vlan≠(nth n.ports from_).native then Mn (tagT (takeF (wayBytes n l).1).1 (nth n.domains (nth l 0).domain).vlan).1 else (wayBytes n l).1,[]⟩
structure GoM where
 m:MacM
 d:Bool
 out:List StepM
def doW(n:Net)(s:GoM)(x:StepM):GoM:=⟨(doT n s.m x).1,doD n s.m s.d x,s.out++[x]⟩
def pickX(m:MacM)(d:Int):StepM:=⟨2,0,d,if (((if Af d m.queues.length then queueL m d else []).length:Int)-1)<0 then 0 else ((if Af d m.queues.length then queueL m d else []).length:Int)-1,[],[]⟩
def oN(n:Net)(s:GoM)(d:Int):GoM:=doW n s (pickX s.m d)
def upW(n:Net)(h:Hop):List Bool:=(List.replicate n.links.length false).set (nth n.ports h.port).link.toNat true
def linkW(n:Net)(s:GoM)(h:Hop):GoM:=if h.kind=1 then doW n s ⟨5,0,0,0,[],upW n h⟩ else s
def goW(n:Net)(from_:Int)(l:List Hop):Nat->GoM
 |0=>doW n ⟨newT n,false,[]⟩ (injectW n from_ l)
 |k+1=>oN n (linkW n (goW n from_ l k) (nth l ((k+1:Nat):Int))) (nth l ((k:Nat):Int)).domain
def A2g(n:Net)(from_:Int)(l:List Hop):GoM:=oN n (goW n from_ l (l.length-1)) (nth l ((l.length:Int)-1)).domain
def wscriptT(n:Net)(from_ to:Int):List StepM×Int :=
 if Eg n from_=true/\Eg n to=true/\from_≠to/\okB n (Zg n)=true then
  (if (wayT n from_ to).2=true then ((A2g n from_ (wayT n from_ to).1).out,0) else ([],31))
 else ([],2)
attribute [local irreducible]G DR
set_option maxRecDepth 100000
def Alk(b:ByteArray):(b==b)=true:=by
 show (b.data==b.data)=true;simp
def Asq(x:SeenM):Sp 29 [B9 x,B9 x] (Ab true):=cT F29 ntmps29 λF hF=>by
 conv=>whnf
 (refine⟨λ_=>?_,λh=>False.elim (by simp at h)⟩;refine rg ?_;conv=>whnf)
 (refine⟨λ_=>?_,λh=>False.elim (by simp at h)⟩;refine rg ?_;conv=>whnf)
 refine Ai (Hv Γ.toTy (bs:=x.bytes) E E E E E E E .sl) E E (oO ?_);refine Ai (Hv Γ.toTy (bs:=x.bytes) E E E E E E E .sl) E E (oO ?_);refine Aq E Ap ?_ E;exact zH Ab (Alk _).symm
def Apg(l:List SeenM)(hl:l.length<1000000000000):Sp 28 [.sl 3 B9 l,.sl 3 B9 l,.clo (.func 29) [] []] (Ab true):=cT F28 ntmps28 λF hF=>by
 conv=>whnf
 (refine⟨λh=>False.elim (by simp at h),λ_=>?_⟩;refine rg ?_;conv=>whnf)
 refine A8 l.length (λj=>[(1,.sl 3 B9 l),(2,.clo (.func 29) [] []),(15,.sl 3 B9 l),(16,Aa l.length),(17,Aa j)]) (λ_=>[]) [] kU ?_;intro j hj;refine gH ?_ ?_<;>intro h
 .have ab:j<l.length:=qA h;have aj:(j:Int).toNat<l.length:=kS ab;obtain ⟨x,dr⟩:=kE (l[j]);have e1:l[(j:Int).toNat]'aj=x:=dr;clear h;refine oO ?_;refine⟨E,by omega,aj,?_⟩;rw[e1]
  conv=>whnf
  refine⟨E,by omega,aj,?_⟩;rw[e1]
  conv=>whnf
  refine D4 ⟨⟨_,_,F29⟩,Asq x⟩ E E E E E E ?_;refine oF ?_
  (skip)
  refine iW ?_;exact Ax [] ab kU
 .exact gJ
def Awm(l:List SeenM)(hl:l.length<1000000000000):Sp 10 [.sl 3 B9 l,.sl 3 B9 l] (Ab true):=cT F10 ntmps10 λF hF=>by
 conv=>whnf
 refine gE (Apg l hl) F28 ?_;exact dN
end
section
def Sg(m:MacM)(i:Nat)(t:List EntryM):MacM:=if 60<t.length then m else (loadT m i t).1
def Kb(m0:MacM)(l:List (List EntryM)):Nat->MacM
 |0=>m0
 |j+1=>Sg (Kb m0 l j) j ((l[j]?).getD [])
def Ahq(l:List (List EntryM)):Prop:=∀t∈l,(∀e∈t,EntryM.In e)/\t.length<=maxLen
def Aie{t:List EntryM}(h:∀e∈t,EntryM.In e)(hl:t.length<=60):TabOK t:=by
 refine⟨by unfold An;omega,λe he=>(h e he).1,λe he=>?_⟩;have:=(h e he).2.1;simp only[wI,Lit.wf,zG,zJ,IntKind.max_i64]at this;have e2:IntKind.min .i64=-9223372036854775808:=by decide
 rw[e2]at this;unfold I64;omega
def Aj1{n:Net}{m:MacM}{J D:Int}(h:MacOK n m J D)(i:Nat){t:List EntryM}(ht:∀e∈t,EntryM.In e):MacOK n (Sg m i t) J D:=by
 unfold Sg;split
 .exact h
 .rename_i hl;unfold loadT;split
  .exact Af2 h _ (Aie ht z_)
  .exact h
def Vo{n:Net}{m:MacM}{J D:Int}(h:MacOK n m J D){l:List (List EntryM)}(hl:Ahq l):∀j,MacOK n (Kb m l j) J D
 |0=>h
 |j+1=>by
  rw[Kb];refine Aj1 (Vo h hl j) j ?_;by_cases hj:j<l.length
  .rw[zR hj];exact(hl _ (zI hj)).1
  .rw[xV z_];intro e he;cases he
attribute [local irreducible]G DR
set_option maxRecDepth 100000
end
structure ReportM where
 kind:Int
 where_:Int
 row:Int
 error:Int
 from_:Int
 to:Int
 script:List StepM
def Zv(r:ReportM):SV:=.agg [Aa r.kind,Aa r.where_,Aa r.row,Aa r.error,Aa r.from_,Aa r.to,.sl 6 Ca r.script]
end Go.Sy.Zaa
