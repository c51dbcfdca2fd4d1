/- Parts of a proof. -/
import Derived.Test.YtodbnbfjhjcanaaGreatDoorXB22
import Derived.Test.YtodbnbfjhjcanaaGreatDoorXB18
set_option maxHeartbeats 8000000
set_option linter.all false
namespace Go.Sy.Zaa
open Go.Proofs Go.Proofs.Tryz
section
set_option maxRecDepth 100000
theorem Ctx.behind{K:Nat->Prop}{a a2:Ka}{w w1 w2:World}(s:Step K a w a w1)(c:Ctx ⟨w1,a,[]⟩ a2 w2):Ctx ⟨w,a,[]⟩ a2 w2 where
 size:=wT s.size c.size
 os:=c.os.trans s.os
 tape:=c.tape.trans s.tape
 output:=c.output.trans s.output
 M:=c.M
 old:=λb hb h=>by
  refine(c.old b (xA hb s.size) h).trans ?_;by_cases hm:a.M b
  .exact s.mkeep b hm
  .exact s.blk b hb (λ ho=>by
    rcases ho with ⟨k,hk⟩|ho
    .exact h k hk
    .exact hm ho)
 own:=λk b hk=>by
  rcases c.own k b hk with h|h
  .exact .inl (wT s.size h)
  .exact .inr h
 nam:=c.nam
def Axv{k:Ka}{w:World}(hi:Inv k w):Step (λ_=>False) k w k w.drew/\Inv k w.drew:=by
 have g:=Grew.drew w;exact⟨⟨g.size,g.os,g.tape,g.output,E,λb _=>rfl,λb _ _=>rfl,λ_ _ _ _=>rfl,λ_ _=>rfl,λ_ h=>h.elim,λ_ h=>.inl h⟩,⟨hi.inj,hi.bnd,hi.apart,hi.mbnd⟩⟩
def Awd(n:Net)(hn:n.Fin)(up fw:List Bool):Sq 217 [.ptr 1 1,.clo (.func 191) [] [.ptr 3 0,.ptr 2 0]] (Yn n up 0 0 fw) (.tup []) (Yn n up 1 0 (Kv n up)):=by
 intro r w vs hi az jx aq;have o1:=aq (1,.box (Alj up 0 0 fw)) (by simp[Yn]);have o2:=aq (2,.box [.ptr 1 0]) (by simp[Yn]);have o3:=aq (3,.box (Dc n)) (by simp[Yn]);obtain ⟨b,e1,c1,c2,st1,inv1,vv⟩:=Ea (off:=2) (x:=.val (.int .i32 1)) (v:=.int .i32 1) hi o1 rfl (λ _ _=>by simp only[Rd]) rfl;obtain ⟨b2,_,_,_,e2,_⟩:=id o2;obtain ⟨b3,_,_,_,e3,_⟩:=id o3;simp only[RdL,Rd,e1,e2,e3]at jx;obtain ⟨v0,r0,rfl,rfl,v1,r1,rfl,⟨fs,cs,rfl,tl,kt⟩,rfl⟩:=jx;subst tl;obtain ⟨p3,q3,rfl,rfl,p2,q2,rfl,rfl,rfl⟩:=kt;have ie:=Awe n hn up fw 0 1 r (w.setCell ⟨b,2,none⟩ (.int .i32 1)) [.pointer (some ⟨b3,0,none⟩),.pointer (some ⟨b2,0,none⟩)] inv1 az (by simp only[RdL,Rd,e2,e3];exact⟨_,_,rfl,rfl,_,_,rfl,rfl,rfl⟩) (λ p hp=>by
  simp only[Yn,yI,xH,vJ]at hp;rcases hp with rfl|rfl|rfl
  .exact vv
  .exact ObOK.step st1 (show ¬(2:Nat)=1 by decide) _ o2
  .exact ObOK.step st1 (show ¬ (3:Nat)=1 by decide) _ o3)
 obtain ⟨u1,zn,jh⟩:=c1 1 (.val (.int .u32 0)) rfl;obtain ⟨u2,td,nj⟩:=c1 2 (.val (.int .i32 0)) rfl;rw[jh.val]at zn;rw[nj.val]at td;have f1:=c2 1 (show 1<5 by decide);have f2:=c2 2 (show 2<5 by decide);have hl:=A1k ⟨b,1,none⟩ 0 (w.setCell ⟨b,2,none⟩ (.int .i32 1)) ((World.cell?_setCell_other _ ⟨b,2,none⟩ ⟨b,1,none⟩ _ y_).trans zn);have hnot:∀(x:Bool) (w:World),(Op.unary .not (.bool x)).run prog w=.ok (.bool (!x)) w:=λ_ _=>rfl
 go_enter_defers func217,ntmps217
 go_wp2_with (first|(go_at_call 271;refine(Awx ⟨b,2,none⟩ _ (by assumption) (by assumption)).mono ?_;rintro e w' ⟨rfl,rfl⟩)|(go_at_call 191;refine ie.mono ?_;rintro e w' ⟨v,r2,rfl,lr,j5,ly,uc⟩)|(go_at_call 216;go_in))
 have p1:=uc (1,.box (Alj up 0 1 (Kv n up))) (by simp[Yn]);have k1:r2 1=.blk b:=by
  obtain ⟨bb,_,_,_,q1,_⟩:=id p1;rcases lr.nam 1 (by rw[e1];intro h;cases h) with h|h
  .rw[h];exact e1
  .rw[h]at q1;cases q1
 obtain ⟨ba,a1,a2,a3,_,_,_⟩:=Ea (off:=1) (x:=.val (.int .u32 1)) (v:=.int .u32 1) j5 p1 rfl (λ_ _=>by simp only[Rd]) rfl;rw[k1]at a1;cases a1;obtain ⟨zo,wk⟩:=Axv j5;have p2:=ObOK.step zo (k:=1) (λh=>h) _ p1;obtain ⟨ba,a1,_,_,st3,wm,wo⟩:=Ea (off:=1) (x:=.val (.int .u32 1)) (v:=.int .u32 1) wk p2 rfl (λ_ _=>by simp only[Rd]) rfl;rw[k1]at a1;cases a1;have wo:ObOK r2 (w'.drew.setCell ⟨b,1,none⟩ (.int .u32 1)) 1 (.box (Alj up 1 1 (Kv n up))):=wo;obtain ⟨ba,a1,a4,a5,st4,ry,wq⟩:=Ea (off:=2) (x:=.val (.int .i32 0)) (v:=.int .i32 0) wm wo rfl (λ_ _=>by simp only[Rd]) rfl;rw[k1]at a1;cases a1;have wq:ObOK r2 ((w'.drew.setCell ⟨b,1,none⟩ (.int .u32 1)).setCell ⟨b,2,none⟩ (.int .i32 0)) 1 (.box (Alj up 1 0 (Kv n up))):=wq;obtain ⟨v1,vf,jh⟩:=a2 1 (.val (.int .u32 0)) rfl;rw[jh.val]at vf;obtain ⟨v2,ly,nj⟩:=a4 2 (.val (.int .i32 1)) rfl;rw[nj.val]at ly;refine leaves_cons (f:=273) (args:=#[.pointer (some ⟨b,1,none⟩),.bool true]) y_ (by simp[go_sem]) ?_;refine(Aa1 ⟨b,1,none⟩ (.int .u32 0) .returning _ vf (a3 1 (show 1<5 by decide))).mono ?_;rintro e u' y2 ⟨rfl,rfl,rfl⟩;refine leaves_cons (f:=272) (args:=#[.pointer (some ⟨b,2,none⟩)]) (by simp[settle]) (by simp[go_sem]) ?_;refine(oN ⟨b,2,none⟩ _ _ ly (a5 2 (show 2<5 by decide))).mono ?_;rintro e u' y2 ⟨rfl,rfl,rfl⟩;have br:Step (·=1) r2 w' r2 ((w'.drew.setCell ⟨b,1,none⟩ (.int .u32 1)).setCell ⟨b,2,none⟩ (.int .i32 0)):=(zo.weaken (λ_ h=>h.elim)).trans (st3.trans st4);refine⟨.tuple #[],by simp[results,Tryz.results217],.tuple #[],r2,E,Ctx.behind st1 (lr.step ry br),ry,⟨[],E,E⟩,λp hp=>?_⟩;simp only[Yn,yI,xH,vJ]at hp;rcases hp with rfl|rfl|rfl
 .exact wq
 .exact ObOK.step br (show ¬(2:Nat)=1 by decide) _ (uc (2,.box [.ptr 1 0]) (by simp[Yn]))
 .exact ObOK.step br (show ¬(3:Nat)=1 by decide) _ (uc (3,.box (Dc n)) (by simp[Yn]))
attribute [local irreducible]G DR
def dQ(n:Net)(up:List Bool)(d:Bool):Obs:=[(1,.box (K4 n up d)),(2,.box [.ptr 1 0]),(3,.box (Dc n))]
def A4s(n:Net)(hn:n.Fin)(up:List Bool):Sq 137 [.ptr 1 1,.clo (.func 191) [] [.ptr 3 0,.ptr 2 0]] (dQ n up false) (.tup []) (dQ n up true):=cT F137 ntmps137 λF hF=>by
 have q1:Sq 216 [.ptr 1 1] (dQ n up false) (Ab false) (dQ n up false):=Af1 n up [] 0 0;have q2:Sq 217 [.ptr 1 1,.clo (.func 191) [] [.ptr 3 0,.ptr 2 0]] (dQ n up false) (.tup []) (dQ n up true):=Awd n hn up []
 conv=>whnf
 refine Aj (Ad [] E F216 q1 E kA E kB) E E (oT ?_);refine Aj (Ad [] E F217 q2 E kA E kB) E E (oO ?_);exact A6 E .nil [] (dQ n up true) (λ_ h=>h) E E kU
def A4r(n:Net)(up:List Bool):Sq 137 [.ptr 1 1,.clo (.func 191) [] [.ptr 3 0,.ptr 2 0]] (dQ n up true) (.tup []) (dQ n up true):=cT F137 ntmps137 λF hF=>by
 have q1:Sq 216 [.ptr 1 1] (dQ n up true) (Ab true) (dQ n up true):=Af1 n up (Kv n up) 1 0
 conv=>whnf
 refine Aj (Ad [] E F216 q1 E kA E kB) E E (oF ?_);exact A6 E .nil [] (dQ n up true) (λ_ h=>h) E E kU
def A4q(n:Net)(hn:n.Fin)(up:List Bool)(d:Bool):Sq 137 [.ptr 1 1,.clo (.func 191) [] [.ptr 3 0,.ptr 2 0]] (dQ n up d) (.tup []) (dQ n up true):=by
 cases d
 .exact A4s n hn up
 .exact A4r n up
def Avg(n:Net)(hn:n.Fin)(up:List Bool)(d:Bool):Sq 110 [.ptr 1 0,Am n] [(1,.box (K4 n up d))] (.sl 1 Ab (Kv n up)) [(1,.box (K4 n up true))]:=cT F110 ntmps110 λF hF=>by
 conv=>whnf
 refine Aj (Ad [] E F137 (A4q n hn up d) E kA E kB) E E (oO ?_);exact done E Aq [] [(1,.box (K4 n up true))] (λ_ h=>h) E E kU
end
section
def nZ{n:Net}{fw:List Bool}{t:List EntryM}{dom:Int}{q:QueuedM}{now:Int}(ht:TabOK t)(hq:QueuedOK q):TabOK (bridgeT n fw t dom q now).1:=by
 unfold bridgeT;split
 .exact fI
 split
 .split
  .exact Xy ht hq now
  .exact Xy ht hq now
 .exact Xy ht hq now
def oA{n:Net}(_hn:n.Fin)(ax:n.Num){fw:List Bool}{t:List EntryM}{dom:Int}{q:QueuedM}{now:Int}(hq:QueuedOK q):∀o∈(bridgeT n fw t dom q now).2.1,OutOK n o:=by
 intro o ho;unfold bridgeT at ho;split at ho
 .cases ho
 rename_i h0;have hb:Ac n=true:=by
  cases hx:Ac n
  .exact yA (.inl (by unfold Lr;rw[hx];simp)) h0
  .rfl
 split at ho
 .split at ho
  .cases ho
  .rename_i h1;have h1:=Decidable.not_not.1 h1;have a6:∀(d:Int),(lookT n (routerT n dom q.frame.dst).1 d).2=true->0<=(lookT n (routerT n dom q.frame.dst).1 d).1/\(lookT n (routerT n dom q.frame.dst).1 d).1.toNat<n.irbs.length:=λd h=>Wj h
   rw[zX.1 ho];exact⟨by dsimp only;omega,by simp,λ_=>⟨A45 n ax _ _ a6,Am0 a6 h1⟩,λh=>by dsimp only at h;omega⟩
 .rcases yH.1 ho with h|h
  .obtain ⟨p,_,rfl⟩:=yS.1 h;unfold Si;exact Al3 (by dsimp only;split<;>omega) (Aey _ _ _ _ hq.frame) (Aq5 _ _ _ _)
  .obtain ⟨p,_,rfl⟩:=yS.1 h;unfold Vh;exact Al3 (by dsimp only;omega) (by have:=Air n dom p q.frame;omega) (Awp _ _ _ _)
def Xb{n:Net}(hn:n.Fin)(fw:List Bool)(t:List EntryM)(dom:Int)(q:QueuedM)(now:Int):(bridgeT n fw t dom q now).2.1.length<4294967296:=by
 unfold bridgeT;split
 .show (0:Nat)<4294967296;decide
 split
 .split
  .show (0:Nat)<4294967296;decide
  .show (1:Nat)<4294967296;decide
 .have:=Adq hn fw (learnQ t q now) dom q.from_ q.frame.dst;simp only[zQ,yW];omega
def cZ(n:Net)(origin:Int):∀(a b:List OutM) (m:MacM),goesL n m origin (a++b)=((goesL n (goesL n m origin a).1 origin b).1,(goesL n m origin a).2++(goesL n (goesL n m origin a).1 origin b).2)
 |[],b,m=>by simp[goesL]
 |o::a,b,m=>by
  rw[wB,goesL,goesL,cZ n origin a b];simp
def Z9(n:Net)(m:MacM)(origin:Int)(l:List OutM)(j:Nat)(hj:j<l.length):goesL n m origin (l.take (j+1))=((goesM n (goesL n m origin (l.take j)).1 l[j] origin).1,(goesL n m origin (l.take j)).2++(goesM n (goesL n m origin (l.take j)).1 l[j] origin).2):=by
 rw[yD hj,cZ];simp[goesL]
def X1(n:Net)(m:MacM)(o:OutM)(origin:Int):(goesM n m o origin).2.length<=1:=by
 unfold goesM;split
 .simp
 split
 .simp
 split
 .simp
 split<;>simp
def Th(n:Net)(origin:Int):∀(l:List OutM) (m:MacM),(goesL n m origin l).2.length<=l.length
 |[],m=>by simp[goesL]
 |o::l,m=>by
  rw[goesL];have h1:=Th n origin l (goesM n m o origin).1;have h2:=X1 n m o origin;simp only[zQ,yM];omega
attribute [local irreducible]G DR
set_option maxRecDepth 100000
def Alc{n:Net}{m:MacM}{J D:Int}(h:MacOK n m J D)(hD:0<=D)(dom:Int){r:List EntryM×List OutM×Int}(hr:TabOK r.1):MacOK n (O2 m dom r) J (D+1):=by
 unfold O2;split
 .exact W6 h hD 2
 split
 .exact W6 (Ah2 h dom hr) hD _
 .exact(Ah2 h dom hr).mono (xZ _) q_
def queL(q:QueuedM):List SV:=[Aa q.from_,Aa q.peer,Aa q.origin,Bl q.frame.dst,Bl q.frame.src,Aa q.frame.typ,.sl 1 Al q.frame.body]
def Az9(n:Net)(m:MacM)(q:QueuedM)(l:List SeenM):Obs:=[(0,.box (T1 n 1 m.now m.injected m.drops)),(1,.box (K4 n m.up true)),(2,.row 1 Hp m.tables),(3,.row 1 Q1 m.queues),(7,.box (queL q)),(1000,.row 3 En l)]
def Azj(n:Net)(hn:n.Fin)(bj:n.Num)(m:MacM)(d:Bool)(J D:Int)(ax:MacOK n m J D)(ud:0<=D)(hD:D<=900000000000)(dom at_:Int):Sq 57 [.ptr 0 0,Aa dom,Aa at_] (D1 n m d) (.sl 3 En (pickT n m dom at_).2) (D1 n (pickT n m dom at_).1 (if (takeM m dom at_).2.2 then true else d)):=cT F57 ntmps57 λF hF=>by
 have aa:=pickT.eq_1 n m dom at_;generalize pickT n m dom at_=res at *;have q1:=Ako n m d dom at_ (Jd ax dom);have aq:=Aay ax dom at_;have ay:(takeM m dom at_).2.2=true->0<=dom/\dom.toNat<m.queues.length:=λh=>by
  unfold takeM at h;split at h
  .cases h
  .rename_i h2;exact placeB_iff.1 (by cases hx:Ag dom m.queues.length;exact yA hx h2;rfl)
 have sh:(takeM m dom at_).1.tables=m.tables:=by unfold takeM;split<;>rfl
 generalize takeM m dom at_=r at *;obtain ⟨m1,q,ok⟩:=r;have htq:m.queues.length=m.tables.length:=by rw[ax.ques,ax.tabs]
 conv=>whnf
 refine Aj (Ad [] E F58 q1 E kA E kB) E E (oO ?_);cases ok
 .rw[zE rfl]at aa;subst aa
  (refine⟨λ_=>?_,λh=>False.elim (by simp at h)⟩;refine rg ?_;conv=>whnf)
  refine Ao 6 3 En E ?_;exact done E Aq [] (D1 n m1 d) (λ_ h=>h) E E kU
 rw[zD y_]at aa;have hd:=ay rfl;have jf:0<=dom/\dom.toNat<m1.tables.length:=by rw[sh,<-htq];exact hd
 dsimp only at aa aq;have q2:=Avg n hn m1.up d;have q3:=An1 n hn bj (Kv n m1.up) (tableL m1 dom) dom q m1.now (eO aq.1 dom) aq.2;have fx:=nZ (n:=n) (fw:=Kv n m1.up) (dom:=dom) (now:=m1.now) (eO aq.1 dom) aq.2;have dy:=oA (fw:=Kv n m1.up) (t:=tableL m1 dom) (dom:=dom) (now:=m1.now) hn bj aq.2;have hb3:=Xb hn (Kv n m1.up) (tableL m1 dom) dom q m1.now;have hb4:=An0 n (Kv n m1.up) (tableL m1 dom) dom q m1.now;rw[Wc]at aa;have hz:=Alc aq.1 ud dom fx;generalize bridgeT n (Kv n m1.up) (tableL m1 dom) dom q m1.now=b at *;obtain ⟨t,out,e⟩:=b;have dy:∀o∈out,OutOK n o:=dy;have hb3:out.length<4294967296:=hb3;have hb4:Cf e:=hb4;have wu:=tableL.eq_1 m1 dom;rw[dA jf.2]at wu;generalize tableL m1 dom=t0 at *;subst wu
 (refine⟨λh=>False.elim (by simp at h),λ_=>?_⟩;refine rg ?_;conv=>whnf)
 refine Ce (Ad [] E F110 q2 E ⟨E,Y⟩ E ⟨.inl E,Y⟩) z_ E (oD ?_);refine⟨jf.1,jf.2,?_⟩
 conv=>whnf
 refine⟨E,jf.2,?_⟩
 conv=>whnf
 refine cD q3 F109 (gL ?_);constructor<;>intro h
 .have h2:¬e=2:=by simpa using h
  clear h;refine oO ?_;refine⟨jf.1,jf.2,?_⟩
  conv=>whnf
  refine⟨E,jf.2,t,E,E,?_⟩
  conv=>whnf
  constructor<;>intro h
  .have h3:¬e=0:=by simpa using h
   clear h;have tu:O2 m1 dom (t,out,e)=De (Ez m1 dom t) e:=by
    unfold O2;rw[zD h2,zE h3]
   rw[tu]at aa hz;subst aa;have q4:=Anj n (Ez m1 dom t) true e hb4.1 hb4.2 ⟨(aq.1.drp _).1,by have:=(aq.1.drp e.toNat).2;show m1.drops e.toNat<=1000000000000;omega⟩;refine oO ?_;refine Aj (Ad [] E F111 q4 E kA E kB) E E (oO ?_);have fh:Ya (De (Ez m1 dom t) e):=λi=>⟨(hz.drp i).1,by have:=(hz.drp i).2;omega⟩
   refine Ca 12 1000 3 En E E ?_;refine Bg out.length (λj=>[(0,.ptr 0 0),(7,.ptr 7 0),(12,.osl 1000),(69,.sl 9 If out),(70,Aa out.length),(71,Aa j)]) (λj=>Az9 n (goesL n (De (Ez m1 dom t) e) q.origin (out.take j)).1 q (goesL n (De (Ez m1 dom t) e) q.origin (out.take j)).2) [] kU ?_;intro j hj;refine gH ?_ ?_<;>intro h
   .have ab:j<out.length:=qA h;have ai:(j:Int).toNat<out.length:=kS ab;obtain ⟨o,dx⟩:=kE (out[j]);have e1:out[(j:Int).toNat]'ai=o:=dx;have hs:=Z9 n (De (Ez m1 dom t) e) q.origin out j ab;rw[dx]at hs;have rz:=Wu hn q.origin (out.take j) hz q_ (λx hx=>dy x (wV hx));have hlen:(out.take j).length=j:=by rw[zY];omega
    rw[hlen]at rz;have oc:=Th n q.origin (out.take j) (De (Ez m1 dom t) e);rw[hlen]at oc;have q5:=Aa6 n hn (goesL n (De (Ez m1 dom t) e) q.origin (out.take j)).1 true J _ rz q_ o (dy o (by rw[<-dx];exact zI ab)) q.origin;have gd:=X1 n (goesL n (De (Ez m1 dom t) e) q.origin (out.take j)).1 o q.origin;clear h;refine oO ?_;refine⟨E,by omega,ai,?_⟩;rw[e1]
    conv=>whnf
    refine Aj (Ad [] E F112 q5 E kA E kB) E E (oO ?_);refine Aj (Ah Γ.toTy 81 E E E E E (.row E) .sl y_ q_ q_) E E (gF ?_);have g1:(goesL n (De (Ez m1 dom t) e) q.origin (out.take (j+1))).1=(goesM n (goesL n (De (Ez m1 dom t) e) q.origin (out.take j)).1 o q.origin).1:=by rw[hs]
    have g2:(goesL n (De (Ez m1 dom t) e) q.origin (out.take (j+1))).2=(goesL n (De (Ez m1 dom t) e) q.origin (out.take j)).2++(goesM n (goesL n (De (Ez m1 dom t) e) q.origin (out.take j)).1 o q.origin).2:=by rw[hs]
    refine Az [(1000,81)] ab ⟨kA,?_,E,E⟩;dsimp only;rw[g1,g2];exact⟨.inl E,E,.inl E,E,.inl E,E,.inl E,E,.inl E,E,.inl E,E,Y⟩
   .have gl:j=out.length:=qB h;subst gl;rw[yN];clear h;refine oO ?_;refine Ai 1000 E ?_;exact done E Aq [] (D1 n (goesL n (De (Ez m1 dom t) e) q.origin out).1 true) (λ_ h=>h) E E kU
  .have h3:e=0:=by simpa using h
   clear h;have tu:O2 m1 dom (t,out,e)=Ez m1 dom t:=by
    unfold O2;rw[zD h2,zD (λh=>h h3)]
   rw[tu]at aa hz;subst aa;refine oO ?_;have fh:Ya (Ez m1 dom t):=λi=>⟨(hz.drp i).1,by have:=(hz.drp i).2;omega⟩
   refine Ca 12 1000 3 En E E ?_;refine Bg out.length (λj=>[(0,.ptr 0 0),(7,.ptr 7 0),(12,.osl 1000),(69,.sl 9 If out),(70,Aa out.length),(71,Aa j)]) (λj=>Az9 n (goesL n (Ez m1 dom t) q.origin (out.take j)).1 q (goesL n (Ez m1 dom t) q.origin (out.take j)).2) [] kU ?_;intro j hj;refine gH ?_ ?_<;>intro h
   .have ab:j<out.length:=qA h;have ai:(j:Int).toNat<out.length:=kS ab;obtain ⟨o,dx⟩:=kE (out[j]);have e1:out[(j:Int).toNat]'ai=o:=dx;have hs:=Z9 n (Ez m1 dom t) q.origin out j ab;rw[dx]at hs;have rz:=Wu hn q.origin (out.take j) hz q_ (λx hx=>dy x (wV hx));have hlen:(out.take j).length=j:=by rw[zY];omega
    rw[hlen]at rz;have oc:=Th n q.origin (out.take j) (Ez m1 dom t);rw[hlen]at oc;have q5:=Aa6 n hn (goesL n (Ez m1 dom t) q.origin (out.take j)).1 true J _ rz q_ o (dy o (by rw[<-dx];exact zI ab)) q.origin;have gd:=X1 n (goesL n (Ez m1 dom t) q.origin (out.take j)).1 o q.origin;clear h;refine oO ?_;refine⟨E,by omega,ai,?_⟩;rw[e1]
    conv=>whnf
    refine Aj (Ad [] E F112 q5 E kA E kB) E E (oO ?_);refine Aj (Ah Γ.toTy 81 E E E E E (.row E) .sl y_ q_ q_) E E (gF ?_);have g1:(goesL n (Ez m1 dom t) q.origin (out.take (j+1))).1=(goesM n (goesL n (Ez m1 dom t) q.origin (out.take j)).1 o q.origin).1:=by rw[hs]
    have g2:(goesL n (Ez m1 dom t) q.origin (out.take (j+1))).2=(goesL n (Ez m1 dom t) q.origin (out.take j)).2++(goesM n (goesL n (Ez m1 dom t) q.origin (out.take j)).1 o q.origin).2:=by rw[hs]
    refine Az [(1000,81)] ab ⟨kA,?_,E,E⟩;dsimp only;rw[g1,g2];exact⟨.inl E,E,.inl E,E,.inl E,E,.inl E,E,.inl E,E,.inl E,E,Y⟩
   .have gl:j=out.length:=qB h;subst gl;rw[yN];clear h;refine oO ?_;refine Ai 1000 E ?_;exact done E Aq [] (D1 n (goesL n (Ez m1 dom t) q.origin out).1 true) (λ_ h=>h) E E kU
 .have h2:e=2:=by simpa using h
  clear h;subst h2;have tu:O2 m1 dom (t,out,2)=De m1 2:=by
   unfold O2;rw[zE rfl]
  rw[tu]at aa hz;subst aa;have q4:=Anj n m1 true 2 j_ j_ ⟨(aq.1.drp _).1,by have:=(aq.1.drp (Int.toNat 2)).2;omega⟩;refine oT ?_;refine Aj (Ad [] E F111 q4 E kA E kB) E E (oO ?_);have fh:Ya (De m1 2):=λi=>⟨(hz.drp i).1,by have:=(hz.drp i).2;omega⟩
  refine Ca 12 1000 3 En E E ?_;refine Bg out.length (λj=>[(0,.ptr 0 0),(7,.ptr 7 0),(12,.osl 1000),(69,.sl 9 If out),(70,Aa out.length),(71,Aa j)]) (λj=>Az9 n (goesL n (De m1 2) q.origin (out.take j)).1 q (goesL n (De m1 2) q.origin (out.take j)).2) [] kU ?_;intro j hj;refine gH ?_ ?_<;>intro h
  .have ab:j<out.length:=qA h;have ai:(j:Int).toNat<out.length:=kS ab;obtain ⟨o,dx⟩:=kE (out[j]);have e1:out[(j:Int).toNat]'ai=o:=dx;have hs:=Z9 n (De m1 2) q.origin out j ab;rw[dx]at hs;have rz:=Wu hn q.origin (out.take j) hz q_ (λx hx=>dy x (wV hx));have hlen:(out.take j).length=j:=by rw[zY];omega
   rw[hlen]at rz;have oc:=Th n q.origin (out.take j) (De m1 2);rw[hlen]at oc;have q5:=Aa6 n hn (goesL n (De m1 2) q.origin (out.take j)).1 true J _ rz q_ o (dy o (by rw[<-dx];exact zI ab)) q.origin;have gd:=X1 n (goesL n (De m1 2) q.origin (out.take j)).1 o q.origin;clear h;refine oO ?_;refine⟨E,by omega,ai,?_⟩;rw[e1]
   conv=>whnf
   refine Aj (Ad [] E F112 q5 E kA E kB) E E (oO ?_);refine Aj (Ah Γ.toTy 81 E E E E E (.row E) .sl y_ q_ q_) E E (gF ?_);have g1:(goesL n (De m1 2) q.origin (out.take (j+1))).1=(goesM n (goesL n (De m1 2) q.origin (out.take j)).1 o q.origin).1:=by rw[hs]
   have g2:(goesL n (De m1 2) q.origin (out.take (j+1))).2=(goesL n (De m1 2) q.origin (out.take j)).2++(goesM n (goesL n (De m1 2) q.origin (out.take j)).1 o q.origin).2:=by rw[hs]
   refine Az [(1000,81)] ab ⟨kA,?_,E,E⟩;dsimp only;rw[g1,g2];exact⟨.inl E,E,.inl E,E,.inl E,E,.inl E,E,.inl E,E,.inl E,E,Y⟩
  .have gl:j=out.length:=qB h;subst gl;rw[yN];clear h;refine oO ?_;refine Ai 1000 E ?_;exact done E Aq [] (D1 n (goesL n (De m1 2) q.origin out).1 true) (λ_ h=>h) E E kU
def Auu(l:List (List EntryM))(now:Int)(j:Nat)(hj:j<l.length):((l.take j).map (λt=>ageT t now)++l.drop j).set j (ageT l[j] now)=(l.take (j+1)).map (λt=>ageT t now)++l.drop (j+1):=by
 apply tO
 .simp only[yQ,zQ,yW,zY,yP];omega
 intro i h1 h2;simp only[yQ,zQ,yW,zY,yP]at h1;rw[vR];by_cases hi:j=i
 .subst hi;rw[zE rfl,yZ kO];simp
 .rw[zD hi];by_cases ab:i<j
  .rw[yZ kO,yZ kO];simp
  .rw[xQ kO,xQ kO];simp only[vW,yW,zY];congr 1;omega
def Axg{P:Program}{o:Oper}{s:SS}{x y:Operand}{at_:Array TypeId}{k k':IntKind}{m n r:Int}(hr:(if n<m then n else m)=r)(h:o.op=.call ⟨.builtin .min,#[x,y],at_⟩)(hx:ev s x=.val (.int k m))(hy:ev s y=.val (.int k' n)):Good P o s ⟨.val (.int k r),[],[]⟩:=by
 have:=cU (P:=P) h hx hy;rwa [hr]at this
def Aac(l:List (List EntryM))(now:Int)(j:Nat):List (List EntryM):=(l.take j).map (λt=>ageT t now)++l.drop j
def A3h(l:List (List EntryM))(now:Int)(j:Nat)(hj:j<l.length)(h2:j<(Aac l now j).length):(Aac l now j)[j]=l[j]:=by
 have h:(Aac l now j)[j]? = l[j]?:=by
  unfold Aac;have hm:min j l.length=j:=by omega
  rw[wH kO,List.getElem?_drop,yW,zY,hm,tX,Nat.add_zero]
 rw[zR hj,zR h2]at h;exact Option.some.inj h
def Aoc(l:List (List EntryM))(now:Int)(j:Nat):(Aac l now j).length=l.length:=by
 unfold Aac;simp only[zQ,yW,zY,yP];omega
def tickO(n:Net)(m:MacM)(d:Bool)(now:Int)(j:Nat):Obs:=[(0,.box (T1 n 1 now m.injected m.drops)),(1,.box (K4 n m.up d)),(2,.row 1 Hp (Aac m.tables now j)),(3,.row 1 Q1 m.queues)]
def Azi(n:Net)(m:MacM)(d:Bool)(J D:Int)(ax:MacOK n m J D)(hs:An n.domains):Sq 59 [.ptr 0 0] (D1 n m d) (.tup []) (D1 n (Yr m) d):=cT F59 ntmps59 λF hF=>by
 unfold An at hs;have hnow:=ax.now;have sh:m.tables.length<2147483648:=by rw[ax.tabs];exact hs
 have dr:=ax.tab;obtain ⟨nw,zf⟩:=kE ((if 1099511627776<m.now+1 then 1099511627776 else m.now+1));have ep:Yr m=⟨m.up,Aac m.tables nw m.tables.length,m.queues,nw,m.injected,m.drops⟩:=by
  have:min (m.now+1) 1099511627776=nw:=by rw[<-zf];split<;>omega
  unfold Yr Aac;rw[this,yN,wU,xD]
 rw[ep]
 conv=>whnf
 refine iW ?_;refine Aj (Axg zf E E E) E E (oO ?_);refine Bg m.tables.length (λj=>[(0,.ptr 0 0),(16,.osl 2),(17,Aa m.tables.length),(18,Aa j)]) (λj=>tickO n m d nw j) [] kU ?_;intro j hj;refine gH ?_ ?_<;>intro h
 .have ab:j<m.tables.length:=qA h;have mh:=Aoc m.tables nw j;have ai:(j:Int).toNat<(Aac m.tables nw j).length:=by rw[mh];simpa using ab
  obtain ⟨t,dx⟩:=kE (m.tables[j]);have e1:(Aac m.tables nw j)[(j:Int).toNat]'ai=t:=(A3h m.tables nw j ab (by rw[mh];exact ab)).trans dx;have hs:=Auu m.tables nw j ab;rw[dx]at hs;have ht:=dr t (by rw[<-dx];exact zI ab);clear h;refine oO ?_;refine⟨by omega,ai,?_⟩
  conv=>whnf
  refine⟨E,ai,?_⟩;rw[e1]
  conv=>whnf
  refine cD (A33 t nw ht.short ht.mac) F113 (oD ?_);refine⟨by omega,ai,?_⟩
  conv=>whnf
  refine⟨E,ai,ageT t nw,E,E,?_⟩
  conv=>whnf
  refine kW ?_;refine iW ?_;exact Az [] ab ⟨kA,⟨.inl E,E,.inl E,E,.inl (zH (Ob.row 1 Hp) hs.symm),E,.inl E,E,Y⟩,E,E⟩
 .have gl:j=m.tables.length:=qB h;subst gl;clear h;refine oO ?_;exact A6 E .nil [] (D1 n ⟨m.up,Aac m.tables nw m.tables.length,m.queues,nw,m.injected,m.drops⟩ d) (λ_ h=>h) E E kU
def Akp(n:Net)(m:MacM)(d:Bool):Obs:=[(0,.box (T1 n 4 m.now m.injected m.drops)),(1,.non),(2,.row 1 Hp m.tables),(3,.row 1 Q1 m.queues),(4,.box (K4 n m.up d))]
def upT(m:MacM)(up:List Bool):MacM:=⟨up,m.tables,m.queues,m.now,m.injected,m.drops⟩
def doD(n:Net)(m:MacM)(d:Bool)(x:StepM):Bool :=
 if x.kind=1 then d else if x.kind=2 then (if (takeM m x.domain x.at_).2.2 then true else d) else if x.kind=3 then d else if x.kind=4 then d else if x.kind=5 then (if x.up.length=n.links.length then false else d) else d
def Aps(n:Net)(hn:n.Fin)(bj:n.Num)(m:MacM)(d:Bool)(J D:Int)(ax:MacOK n m J D)(hJ:J<900000000000)(ud:0<=D)(hD:D<=900000000000)(x:StepM)(hb:x.bytes.length<100000):Sq 27 [.ptr 0 0,Bp x] (D1 n m d) (.tup [.sl 3 En (doT n m x).2,Aa 0]) (Akp n (doT n m x).1 (doD n m d x)):=cT F27 ntmps27 λF hF=>by
 have aa:=doT.eq_1 n m x;generalize doT n m x=res at *;have dz:=doD.eq_1 n m d x;generalize doD n m d x=dd at *
 conv=>whnf
 refine Aj (cY (d:=900) E E E) E E (oF ?_);constructor<;>intro h
 .have h1:x.kind=1:=by simpa using h
  rw[zE h1]at aa dz;subst aa;subst dz;have q1:=Apr n hn m dd J D ax q_ q_ x.port x.bytes hb;refine oO ?_;refine Aj (Ad [] E F56 q1 E kA E kB) E E (oO ?_);refine Ao 4 3 En E (L2 1 4 E E j_ ?_);exact done E (.cons .tmp Aq) [] (Akp n (injectT n m x.port x.bytes) dd) (λ_ h=>h) E E kU
 have h1:¬x.kind=1:=kS h;rw[zD h1]at aa dz;clear h;refine gH ?_ ?_<;>intro h
 .have h1:x.kind=2:=by simpa using h
  rw[zE h1]at aa dz;subst aa;have q1:=Azj n hn bj m d J D ax ud hD x.domain x.at_;rw[<-dz]at q1;refine oO ?_;refine Aj (Ad [] E F57 q1 E kA E kB) E E (oO ?_);refine L2 1 4 E E j_ ?_;exact done E (.cons .tmp Aq) [] (Akp n (pickT n m x.domain x.at_).1 dd) (λ_ h=>h) E E kU
 have h1:¬x.kind=2:=kS h;rw[zD h1]at aa dz;clear h;refine gH ?_ ?_<;>intro h
 .have h1:x.kind=3:=by simpa using h
  rw[zE h1]at aa dz;subst aa;subst dz;have q1:=Ako n m dd x.domain x.at_ (Jd ax _);refine oO ?_;refine Aj (Ad [] E F58 q1 E kA E kB) E E (oO ?_);refine Ao 4 3 En E (L2 1 4 E E j_ ?_);exact done E (.cons .tmp Aq) [] (Akp n (takeM m x.domain x.at_).1 dd) (λ_ h=>h) E E kU
 have h1:¬x.kind=3:=kS h;rw[zD h1]at aa dz;clear h;refine gH ?_ ?_<;>intro h
 .have h1:x.kind=4:=by simpa using h
  rw[zE h1]at aa dz;subst aa;subst dz;have q1:=Azi n m dd J D ax hn.domains;refine oO ?_;refine Aj (Ad [] E F59 q1 E kA E kB) E E (oO ?_);refine Ao 4 3 En E (L2 1 4 E E j_ ?_);exact done E (.cons .tmp Aq) [] (Akp n (Yr m) dd) (λ_ h=>h) E E kU
 have h1:¬x.kind=4:=kS h;rw[zD h1]at aa dz;clear h;refine gH ?_ ?_<;>intro h
 .have h1:x.kind=5:=by simpa using h
  rw[zE h1]at aa dz;clear h;refine oO ?_;refine kW ?_;constructor<;>intro h
  .have h2:x.up.length=n.links.length:=qA h;rw[zE h2]at aa dz;subst aa;subst dz;clear h;have kl:=hn.links;unfold An at kl;refine oO ?_;refine gE (Adu x.up q_) F46 ?_;refine Ao 4 3 En E (Ak 55 (K4 n x.up false) E vL ?_);exact done E (.cons .tmp Aq) [(4,55)] (Akp n (upT m x.up) false) (λ_ h=>h) E E kU
  .have h2:¬x.up.length=n.links.length:=qB h;rw[zD h2]at aa dz;subst aa;subst dz;clear h;refine oO ?_;refine Ao 4 3 En E (L2 1 4 E E j_ ?_);exact done E (.cons .tmp Aq) [] (Akp n m dd) (λ_ h=>h) E E kU
 have h1:¬x.kind=5:=kS h;rw[zD h1]at aa dz;subst aa;subst dz;clear h;refine oO ?_;refine Ao 4 3 En E (L2 1 4 E E j_ ?_);exact done E (.cons .tmp Aq) [] (Akp n m dd) (λ_ h=>h) E E kU
def Aa5(n:Net)(hn:n.Fin)(hb:okB n (List.replicate n.links.length true)=false):Sp 49 [Am n] (.tup [.val (.pointer none),Aa 2]):=cT F49 ntmps49 λF hF=>by
 have kl:=hn.links;unfold An at kl;have q1:=Atc n.links.length q_;have q2:=Ac6 n (List.replicate n.links.length true) hn hb;generalize List.replicate n.links.length true=up at *
 conv=>whnf
 refine Jb 7 Ab [true] E E ?_;refine Ai 7 E (oO ?_);refine gE q1 F100 ?_;refine c0 q2 F101 (oT ?_);exact dN
def As6(n:Net)(hn:n.Fin)(hb:okB n (List.replicate n.links.length true)=true):Sq 49 [Am n] [] (.tup [.ptr 0 0,Aa 0]) (D1 n (newT n) false):=cT F49 ntmps49 λF hF=>by
 have kl:=hn.links;have tx:=hn.domains;unfold An at kl tx;have q1:=Atc n.links.length q_;have q2:=Agu n (List.replicate n.links.length true) hn hb;have mi:=newT.eq_1 n;generalize newT n=m at *;generalize List.replicate n.links.length true=up at *;refine fW ?_;refine Jb 7 Ab [true] E E ?_;refine Ai 7 E (gM q1 F100 ?_);refine gM q2 F101 ?_;refine fU ?_;refine Ce (Ad [(0,700),(1,701),(2,702),(3,703),(4,704),(5,705),(6,706),(7,707)] E F102 (Ss n hn) E Y E kB) z_ E (fU ?_);refine Ce (B4 Γ.toTy (d:=28) (n:=n.domains.length) (λ_:Unit=>svN) () E E E E E E E E q_ q_ E E E) z_ E (fU ?_);refine Ce (B4 Γ.toTy (d:=32) (n:=n.domains.length) (λ_:Unit=>svN) () E E E E E E E E q_ q_ E E E) z_ E (fU ?_);refine⟨z_,?_⟩;refine Ai 700 E (Ai 701 E ?_);refine Ai 702 E (Ai 703 E ?_);refine Ai 704 E (Ai 705 E ?_);refine Ai 706 E (Ai 707 E ?_);refine Aoi 28 (e':=Hp) (l':=List.replicate n.domains.length []) E y_ (λM w i h1 h2 v hv=>?_) ?_
 .rw[tR];simp only[RdD]at hv;exact Aed hv
 refine Aoi 32 (e':=Q1) (l':=List.replicate n.domains.length []) E y_ (λM w i h1 h2 v hv=>?_) ?_
 .rw[tR];simp only[RdD]at hv;exact Aed hv
 refine Ak 24 (K4 n up false) E vL (fU ?_);subst mi;exact done E (.cons .tmp Aq) [(0,34),(1,24),(2,28),(3,32)] (D1 n ⟨up,List.replicate n.domains.length [],List.replicate n.domains.length [],0,0,λ_=>0⟩ false) (λ_ h=>h) E E kU
end
section
def lR(n:Net):∀(a b:List StepM) (m:MacM),Dn n m (a++b)=((Dn n (Dn n m a).1 b).1,(Dn n m a).2++(Dn n (Dn n m a).1 b).2)
 |[],b,m=>by simp[Dn]
 |o::a,b,m=>by
  rw[wB,Dn,Dn,lR n a b];simp
def Avn(n:Net)(m:MacM)(l:List StepM)(j:Nat)(hj:j<l.length):Dn n m (l.take (j+1))=((doT n (Dn n m (l.take j)).1 l[j]).1,(Dn n m (l.take j)).2++(doT n (Dn n m (l.take j)).1 l[j]).2):=by
 rw[yD hj,lR];simp[Dn]
def runF(n:Net)(s:MacM×Bool)(l:List StepM):MacM×Bool:=l.foldl (λs x=>((doT n s.1 x).1,doD n s.1 s.2 x)) s
def Aku(n:Net):∀(l:List StepM) (s:MacM×Bool),(runF n s l).1=(Dn n s.1 l).1
 |[],s=>rfl
 |x::l,s=>by
  have:=Aku n l ((doT n s.1 x).1,doD n s.1 s.2 x);rw[Dn];exact this
def runD(n:Net)(m:MacM)(d:Bool)(l:List StepM):Bool:=(runF n (m,d) l).2
def Avo(n:Net)(m:MacM)(d:Bool)(l:List StepM)(j:Nat)(hj:j<l.length):runD n m d (l.take (j+1))=doD n (Dn n m (l.take j)).1 (runD n m d (l.take j)) l[j]:=by
 unfold runD;rw[yD hj];have:=Aku n (l.take j) (m,d);unfold runF at this|-;rw[xP];show doD n (List.foldl _ (m,d) (l.take j)).1 _ l[j]=_;rw[this]
def A2u{n:Net}(hn:n.Fin)(bj:n.Num){m:MacM}{J D:Int}(h:MacOK n m J D)(hJ:0<=J)(hD:0<=D)(x:StepM):MacOK n (doT n m x).1 (J+1) (D+4294967298):=by
 unfold doT;split
 .exact(Arl hn h hJ hD _ _).mono q_ q_
 split
 .have aq:=Aay h x.domain x.at_;unfold pickT;split
  .exact aq.1.mono q_ q_
  .have hb:=Xb hn (Kv n (takeM m x.domain x.at_).1.up) (tableL (takeM m x.domain x.at_).1 x.domain) x.domain (takeM m x.domain x.at_).2.1 (takeM m x.domain x.at_).1.now;have h1:=Alc aq.1 hD x.domain (nZ (n:=n) (fw:=Kv n (takeM m x.domain x.at_).1.up) (dom:=x.domain) (now:=(takeM m x.domain x.at_).1.now) (eO aq.1 x.domain) aq.2);have h2:=Wu hn (takeM m x.domain x.at_).2.1.origin (Wc n (takeM m x.domain x.at_).1 x.domain (takeM m x.domain x.at_).2.1).2.1 h1 q_ (oA hn bj aq.2);refine h2.mono q_ ?_;unfold Wc;omega
 split
 .exact(Aay h x.domain x.at_).1.mono q_ q_
 split
 .have h1:=h.now;refine⟨h.up,by unfold Yr;simp only[yW];exact h.tabs,h.ques,λt ht=>?_,h.que,?_,?_,λi=>?_⟩
  .unfold Yr at ht;obtain ⟨t0,wu,rfl⟩:=yS.1 ht;exact A5r (h.tab t0 wu) _
  .unfold Yr;dsimp only;omega
  .have:=h.inj;unfold Yr;dsimp only;omega
  .have:=h.drp i;unfold Yr;dsimp only;omega
 split
 .split
  .rename_i h2;exact MacOK.mono (n:=n) (m:=⟨x.up,m.tables,m.queues,m.now,m.injected,m.drops⟩) ⟨h2,h.tabs,h.ques,h.tab,h.que,h.now,h.inj,h.drp⟩ q_ q_
  .exact h.mono q_ q_
 .exact h.mono q_ q_
def At6{n:Net}(hn:n.Fin)(m:MacM)(x:StepM):(doT n m x).2.length<4294967296:=by
 unfold doT;split
 .show (0:Nat)<4294967296;decide
 split
 .unfold pickT;split
  .show (0:Nat)<4294967296;decide
  .have hb:=Xb hn (Kv n (takeM m x.domain x.at_).1.up) (tableL (takeM m x.domain x.at_).1 x.domain) x.domain (takeM m x.domain x.at_).2.1 (takeM m x.domain x.at_).1.now;have h2:=Th n (takeM m x.domain x.at_).2.1.origin (Wc n (takeM m x.domain x.at_).1 x.domain (takeM m x.domain x.at_).2.1).2.1 (O2 (takeM m x.domain x.at_).1 x.domain (Wc n (takeM m x.domain x.at_).1 x.domain (takeM m x.domain x.at_).2.1));unfold Wc at h2|-;omega
 split
 .show (0:Nat)<4294967296;decide
 split
 .show (0:Nat)<4294967296;decide
 split
 .show (0:Nat)<4294967296;decide
 .show (0:Nat)<4294967296;decide
def Ata{n:Net}(hn:n.Fin)(bj:n.Num):∀(l:List StepM) {m:MacM} {J D:Int},MacOK n m J D->0<=J->0<=D->MacOK n (Dn n m l).1 (J+l.length) (D+l.length*4294967298)
 |[],m,J,D,h,_,_=>by
  rw[Dn];exact h.mono y_ y_
 |x::l,m,J,D,h,hJ,hD=>by
  rw[Dn];have:=Ata hn bj l (A2u hn bj h hJ hD x) q_ q_;exact this.mono (by simp only[yM];omega) (by simp only[yM];omega)
def Abe{n:Net}(hn:n.Fin):∀(l:List StepM) (m:MacM),(Dn n m l).2.length<=l.length*4294967296
 |[],m=>by simp[Dn]
 |x::l,m=>by
  rw[Dn];have h1:=Abe hn l (doT n m x).1;have h2:=At6 hn m x;simp only[zQ,yM];omega
def Aah(n:Net):MacOK n (newT n) 0 0:=by
 refine⟨by simp[newT],by simp[newT],by simp[newT],λt ht=>?_,λl hl=>?_,by simp[newT],by simp[newT],λi=>by simp[newT]⟩
 .have:t=[]:=(List.mem_replicate.1 ht).2;rw[this];exact fI
 .have:l=[]:=(List.mem_replicate.1 hl).2;rw[this];exact nD
def Aat(n:Net):List Bool:=List.replicate n.links.length true
structure ScriptOK(l:List StepM):Prop where
 few:l.length<=200
 bytes:∀x∈l,x.bytes.length<=2000
attribute [local irreducible]G DR
set_option maxRecDepth 100000
def runO(n:Net)(m:MacM)(d:Bool)(l:List SeenM):Obs:=[(0,.box (T1 n 1 m.now m.injected m.drops)),(1,.box (K4 n m.up d)),(2,.row 1 Hp m.tables),(3,.row 1 Q1 m.queues),(1000,.row 3 En l)]
end
section
def Ad5{P:Hop->Prop}{S:Srch}(h:∀f∈S.list,P f.hop)(d k:Int){x:Hop}(hx:P x)(a:Int):∀f∈(meetT S d k x a).list,P f.hop:=by
 rw[meetT];split
 .exact h
 .rw[O6];split<;>(intro f hf;rcases yH.1 hf with hf|hf;exact h f hf;rw[zX]at hf;subst hf;exact hx)
def Ad6{P:Hop->Prop}{k i:Int}:∀{l:List Hop} {S:Srch},(∀f∈S.list,P f.hop)->(∀h∈l,P h)->∀f∈(ext1 S k i l).list,P f.hop
 |[],S,h,_=>h
 |x::l,S,h,hl=>Ad6 (l:=l) (Ad5 h x.domain k (hl x y_) i) (λy hy=>hl y (by simp[hy]))
def An8{P:Hop->Prop}{i:Int}:∀{l:List Lead} {S:Srch},(∀f∈S.list,P f.hop)->(∀q∈l,P ⟨3,0,q.domain,q.addr⟩)->∀f∈(ext2 S i l).list,P f.hop
 |[],S,h,_=>h
 |x::l,S,h,hl=>An8 (l:=l) (Ad5 h x.domain 1 (hl x y_) i) (λy hy=>hl y (by simp[hy]))
def A5n{P:Hop->Prop}{n:Net}(h1:∀d,∀x∈Dg n d,P x)(h2:∀d,∀q∈routesT n d,P ⟨3,0,q.domain,q.addr⟩){S:Srch}(h:∀f∈S.list,P f.hop)(i:Int):∀f∈(extT n S i).list,P f.hop:=by
 rw[extT];split
 .exact An8 (Ad6 h (h1 _)) (h2 _)
 .exact Ad6 h (h1 _)
def Ax9{P:Hop->Prop}{n:Net}{dev:Int}(h:∀d,P ⟨0,0,d,0⟩)(l:List Int):∀f∈(Qn n dev l).list,P f.hop:=by
 suffices hs:∀(l:List Int) (S:Srch),(∀f∈S.list,P f.hop)->∀f∈(l.foldl (Kf n dev) S).list,P f.hop from hs l _ (λf hf=>by simp[Kz]at hf)
 intro l
 induction l with
 |nil=>exact λS h=>h
 |cons x l ih=>
  intro S hS;refine ih _ ?_;rw[Kf];split
  .exact hS
  .exact Ad5 hS _ _ (h _) _
def Ad4{P:Hop->Prop}{n:Net}(h1:∀d,∀x∈Dg n d,P x)(h2:∀d,∀q∈routesT n d,P ⟨3,0,q.domain,q.addr⟩){to:Int}:∀(k:Nat) (S:Srch) (i:Nat),S.OK n->Backs S.list->(∀f∈S.list,P f.hop)->i<=S.list.length->(Ew n to k S i).2=true ->
  ∀h∈(Ew n to k S i).1,P h
 |0,S,i,_,_,_,_,h=>by cases h
 |k+1,S,i,ok,bk,hk,hi,h=>by
  rw[Ew]at h|-;split at h
  .rename_i ab;rw[zE ab];split at h
   .rename_i cd;rw[zE cd];exact(oB bk hk ab).1
   .rename_i cd;rw[zD cd];have y0:=bk.ext (n:=n) (i:=i) ⟨by omega,by omega⟩;exact Ad4 h1 h2 k _ _ (ok.ext i) y0.1 (A5n h1 h2 hk i) q_ h
  .cases h
def A5m{P:Hop->Prop}{n:Net}(h1:∀d,∀x∈Dg n d,P x)(h2:∀d,∀q∈routesT n d,P ⟨3,0,q.domain,q.addr⟩)(h3:∀d,P ⟨0,0,d,0⟩){from_ to:Int}(h:(wayT n from_ to).2=true):∀x∈(wayT n from_ to).1,P x:=by
 rw[wayT]at h|-;split at h
 .rename_i hc;rw[zE hc];have hp:=Le hc.1;have xz:(beginT n from_).OK n:=by
   rw[beginT,Ae hp.2];exact X7 λv hv h0=>Ks hc.2.2.2 hp.2 hv h0
  have x4:Backs (beginT n from_).list:=by rw[beginT];exact U1 _ _ _
  exact Ad4 h1 h2 _ _ _ xz x4 (by rw[beginT];exact Ax9 h3 _) (xN _) h
 .cases h
def LinkOK(n:Net)(h:Hop):Prop:=h.kind=1->(0<=h.port/\h.port.toNat<n.ports.length)/\0<=(nth n.ports h.port).link/\(nth n.ports h.port).link.toNat<n.links.length
def Alh{n:Net}{i:Int}(h:0<=A4 n i):(0<=i/\i.toNat<n.ports.length)/\0<=(nth n.ports i).link/\(nth n.ports i).link.toNat<n.links.length:=by
 have ht:=D2 h;unfold A4 at h;split at h
 .rename_i hc;have e1:nth n.ports i=n.ports[i.toNat]:=Ae ht.1.2;rw[e1]at hc|-;exact⟨ht.1,hc.2.1,(Ha hc.2.2 ht.1.2 hc.2.1).1⟩
 .omega
def way_links{n:Net}{from_ to:Int}(h:(wayT n from_ to).2=true):∀x∈(wayT n from_ to).1,LinkOK n x:=by
 refine A5m (λd x hx=>?_) (λd q _ e=>?_) (λd e=>?_) h
 .rw[Dg]at hx;split at hx
  .rcases yH.1 hx with hx|hx
   .obtain ⟨p,_,hp⟩:=wA.1 hx;rw[linkHop]at hp;split at hp
    .rename_i hc;simp only[Option.some.injEq]at hp;subst hp;intro _;refine Alh ?_;rw[linkDomT]at hc;split at hc
     .rename_i hd;rw[crossT]at hd;split at hd
      .rename_i lr;exact lr.1
      .cases hd
     .cases hc
    .cases hp
   .obtain ⟨p,hp,rfl⟩:=yS.1 hx;intro e;simp[K8]at e
  .cases hx
 .simp at e
 .simp at e
def M8:Nat:=2203318222849
def stepB(n:Net)(l:List Hop)(i:Nat)(h:Hop):Bool:=Ag h.domain n.domains.length&&!(decide (h.kind=3)&&(decide (i=0)||decide ((nth n.domains (nth l ((i:Int)-1)).domain).irb<0)))
def Zv(l:List Hop):Int:=Bs (λh=>decide (h.kind=3)) l
def M5(a:Nat):PacketM:=⟨0,0,64,17,1,a,[]⟩
def irbOf(n:Net)(l:List Hop):Irb:=nth n.irbs (nth n.domains (nth l (Zv l-1)).domain).irb
def frameW(n:Net)(l:List Hop):FrameM:=if 0<Zv l then ⟨hostN (irbOf n l).addr,M8,2048,(ipPutT (M5 (nth l (Zv l)).addr.toNat)).1⟩ else ⟨281474976710655,M8,34997,[]⟩
def wayBytes(n:Net)(l:List Hop):List UInt8×Int:=if Ac n=true/\l≠[]/\Ik (stepB n l) l=true then (Mb (frameW n l),0) else ([],2)
def injectW(n:Net)(from_:Int)(l:List Hop):StepM :=
 ⟨1,from_,0,0,if (nth n.domains (nth l 0).domain).vlan≠(nth n.ports from_).native then Mb (tagT (takeF (wayBytes n l).1).1 (nth n.domains (nth l 0).domain).vlan).1 else (wayBytes n l).1,[]⟩
structure GoM where
 m:MacM
 d:Bool
 out:List StepM
def doW(n:Net)(s:GoM)(x:StepM):GoM:=⟨(doT n s.m x).1,doD n s.m s.d x,s.out++[x]⟩
def pickX(m:MacM)(d:Int):StepM:=⟨2,0,d,if (((if Ag d m.queues.length then queueL m d else []).length:Int)-1)<0 then 0 else ((if Ag d m.queues.length then queueL m d else []).length:Int)-1,[],[]⟩
def S2(n:Net)(s:GoM)(d:Int):GoM:=doW n s (pickX s.m d)
def upW(n:Net)(h:Hop):List Bool:=(List.replicate n.links.length false).set (nth n.ports h.port).link.toNat true
def linkW(n:Net)(s:GoM)(h:Hop):GoM:=if h.kind=1 then doW n s ⟨5,0,0,0,[],upW n h⟩ else s
def goW(n:Net)(from_:Int)(l:List Hop):Nat->GoM
 |0=>doW n ⟨newT n,false,[]⟩ (injectW n from_ l)
 |k+1=>S2 n (linkW n (goW n from_ l k) (nth l ((k+1:Nat):Int))) (nth l ((k:Nat):Int)).domain
def Ar2(n:Net)(from_:Int)(l:List Hop):GoM:=S2 n (goW n from_ l (l.length-1)) (nth l ((l.length:Int)-1)).domain
def wscriptT(n:Net)(from_ to:Int):List StepM×Int :=
 if J1 n from_=true/\J1 n to=true/\from_≠to/\okB n (Aat n)=true then
  (if (wayT n from_ to).2=true then ((Ar2 n from_ (wayT n from_ to).1).out,0) else ([],31))
 else ([],2)
structure ReportM where
 kind:Int
 where_:Int
 row:Int
 error:Int
 from_:Int
 to:Int
 script:List StepM
def bJ(r:ReportM):SV:=.agg [Aa r.kind,Aa r.where_,Aa r.row,Aa r.error,Aa r.from_,Aa r.to,.sl 6 Bp r.script]
attribute [local irreducible]G DR
set_option maxRecDepth 100000
def netW33:Net:=⟨[⟨0,0,⟨#[97]⟩,0,0⟩],[⟨0,0,10,1,-1,⟨#[112]⟩,[]⟩,⟨0,0,10,1,-1,⟨#[113]⟩,[]⟩],[],[⟨0,10,0,-1,0,[]⟩],[],[],[],[]⟩
def A2j:netW33.Fin:=by
 constructor<;>first|(unfold An;decide)|(intro x hx;unfold An;simp only[netW33,yI,xH,vJ]at hx;first|(subst hx;decide)|(rcases hx with rfl|rfl<;>decide)|exact hx.elim)
def A0p:netW33.Num:=by
 refine⟨λx hx=>?_,λx hx=>?_⟩
 .simp only[netW33,yI,xH,vJ]at hx;subst hx;decide
 .cases hx
end
section
def S8(m:MacM)(i:Nat)(t:List EntryM):MacM:=if 60<t.length then m else (loadT m i t).1
def Kl(m0:MacM)(l:List (List EntryM)):Nat->MacM
 |0=>m0
 |j+1=>S8 (Kl m0 l j) j ((l[j]?).getD [])
def Asv(l:List (List EntryM)):Prop:=∀t∈l,(∀e∈t,EntryM.In e)/\t.length<=maxLen
def Akj{t:List EntryM}(h:∀e∈t,EntryM.In e)(hl:t.length<=60):TabOK t:=by
 refine⟨by unfold An;omega,λe he=>(h e he).1,λe he=>?_⟩;have:=(h e he).2.1;simp only[wI,Lit.wf,zG,zJ,IntKind.max_i64]at this;have e2:IntKind.min .i64=-9223372036854775808:=by decide
 rw[e2]at this;unfold I64;omega
def Al5{n:Net}{m:MacM}{J D:Int}(h:MacOK n m J D)(i:Nat){t:List EntryM}(ht:∀e∈t,EntryM.In e):MacOK n (S8 m i t) J D:=by
 unfold S8;split
 .exact h
 .rename_i hl;unfold loadT;split
  .exact Ah2 h _ (Akj ht q_)
  .exact h
def Aca{n:Net}{m:MacM}{J D:Int}(h:MacOK n m J D){l:List (List EntryM)}(hl:Asv l):∀j,MacOK n (Kl m l j) J D
 |0=>h
 |j+1=>by
  rw[Kl];refine Al5 (Aca h hl j) j ?_;by_cases hj:j<l.length
  .rw[zR hj];exact(hl _ (zI hj)).1
  .rw[wK q_];intro e he;cases he
attribute [local irreducible]G DR
set_option maxRecDepth 100000
def Acw(l:List Hop)(p:Hop->Bool)(f:FuncId)(first cap:List SV)(hc:(SV.clo (.func f) first cap).inn []=true)(hf:∀x∈l,Hg prog f (first++[Dh x]++cap) (Ab (p x)))(hl:An l):Sp 201 [.sl 4 Dh l,.clo (.func f) first cap] (Aa (Bs p l)):=cT F201 ntmps201 λF hF=>by
 unfold An at hl;have a6:∀x:Hop,B7 [] (first++[Dh x]++cap)=true:=λx=>Db hc rfl
 refine fW ?_;refine Ba l.length (λj=>El (λ_ x=>!(p x)) l j) (λj=>[(0,.sl 4 Dh l),(1,.clo (.func f) first cap),(7,Aa l.length),(8,Aa j)]) (λ_=>[]) [] (Bi _ _) ⟨⟨E,E,Bh _,hc,E,E,E,E,Y⟩,Y,E,E⟩ ?_;intro j hj hI;refine gJ ?_ ?_<;>intro h
 .have h:=zO h;have cn:j<l.length:=by omega
  refine fU ?_;refine⟨E,by omega,by omega,?_⟩;refine fW ?_;refine Ek (hf l[j] (zI cn)) E E E (by simp only[a6];rfl) E E ?_;refine fU ?_;constructor<;>intro h2
  .refine fU ?_;refine Ar E Aq (zH Aa ?_) E;exact Co cn (λi hi bu=>kS (hI i hi bu)) h2
  .refine gG ?_;exact A8 [] hI cn (Bd hI cn (by simp[h2])) ⟨⟨E,E,Bh _,hc,E,E,E,E,Y⟩,Y,E,E⟩
 .have h:=zT h;refine fU ?_;refine Ar E Aq (zH Aa ?_) E;exact Dk λi hi=>kS (hI i hi q_)
def Apx(h:Hop):Sp 202 [Dh h] (Ab (decide (h.kind=3))):=cT F202 ntmps202 λF hF=>by
 exact gA
def A44{a:Type}{p:a->Bool}{l:List a}{i:Int}(h:Bs p l=i)(h0:0<=i):∃hi:i.toNat<l.length,p l[i.toNat]=true:=by
 rcases Qe p l with ⟨h1,_⟩|⟨k,hk,h1,h2,_⟩
 .omega
 .have e:i.toNat=k:=by omega
  subst e;exact⟨hk,h2⟩
def A3j(a:Nat)(h:a<4294967296):PacketOK (M5 a):=⟨by show 0<=255;decide,by show 0<=65535;decide,by show 64<=255;decide,by show 17<=255;decide,by show 1<4294967296;decide,h⟩
def Ayf(a:Nat):(ipPutT (M5 a)).1.length=20:=by
 rw[ipPutT,zD (by show ¬1480<0;decide)];show (Ht (M5 a) _++[]).length=20;rw[xD];rfl
def Alr{n:Net}(hu:C7 n)(d:Int):0<=(nth n.irbs d).addr/\(nth n.irbs d).addr<4294967296:=by
 rw[nth];cases h:n.irbs[d.toNat]? with
 |none=>exact⟨by decide,by decide⟩
 |some x=>exact hu x (List.mem_of_getElem? h)
def Agt{n:Net}(hu:C7 n)(l:List Hop):FrameOK (frameW n l):=by
 unfold frameW;split
 .have:=Alr hu (nth n.domains (nth l (Zv l-1)).domain).irb;refine⟨?_,by show 2203318222849<281474976710656;decide,by show 2048<=65535;decide,?_⟩
  .show 2199023255552+(irbOf n l).addr.toNat<281474976710656;unfold irbOf;omega
  .show (ipPutT _).1.length<=1504;rw[Ayf];decide
 .exact⟨by decide,by decide,by decide,by decide⟩
def Aul(n:Net)(hn:n.Fin)(hu:C7 n)(l:List Hop)(hl:An l)(d5:∀h∈l,0<=h.addr/\h.addr<4294967296):Sp 119 [Am n,.sl 4 Dh l] (.tup [.sl 1 Al (wayBytes n l).1,Aa (wayBytes n l).2]):=cT F119 ntmps119 λF hF=>by
 have aa:=wayBytes.eq_1 n l;generalize wayBytes n l=res at *;have hr:=A2 n hn;have gz:=hl;unfold An at gz;refine fW ?_;constructor<;>intro h
 .have h0:l=[]:=yC (qA h);rw[zD (λx=>x.2.1 h0)]at aa;subst aa;refine T ?_;exact Ao 4 1 Al E D
 have h0:0<l.length:=qB h;clear h;have af:l≠[]:=λe=>by rw[e]at h0;simp at h0
 refine Bf 2 8 (Am n) E E E (gC hr F39 ?_);cases hb:Ac n
 .rw[zD (λx=>by rw[hb]at x;cases x.1)]at aa;subst aa;refine T ?_;exact Ao 4 1 Al E D
 refine T ?_;refine Ba l.length (λj=>El (stepB n l) l j) (λj=>[(1,.sl 4 Dh l),(2,.ref 8 (Am n) 0),(6,.ptr 6 0),(22,.sl 4 Dh l),(23,Aa l.length),(24,Aa j)]) (λ_=>[(6,.box [Bl 281474976710655,Bl 2203318222849,Aa 34997,svN])]) [] (Bi _ _) U ?_;intro j hj hI;refine gN ?_ ?_<;>intro h
 .have ab:j<l.length:=qA h;have ai:(j:Int).toNat<l.length:=kS ab;obtain ⟨x,dx⟩:=kE (l[j]);have e1:l[(j:Int).toNat]'ai=x:=dx;have br:=stepB.eq_1 n l j x;have eu:stepB n l j x=false->res=([],2):=λh2=>by
   rw[zD (λy=>by have:=allB_iff.1 y.2.2 j ab;rw[dx,h2]at this;cases this)]at aa;exact aa
  clear h;refine S ?_;refine⟨E,by omega,ai,?_⟩;rw[e1];by_cases mr:x.domain<0
  .have aa:=eu (by rw[br,Of q_,yF]);subst aa;refine T ?_;exact Ao 4 1 Al E D
  by_cases jf:(n.domains.length:Int)<=x.domain
  .have aa:=eu (by rw[br,Of q_,yF]);subst aa;refine T ?_;exact Ao 4 1 Al E D
  have ay:=Mc (n:=n.domains.length) (i:=x.domain) q_;rw[ay,yG]at br;by_cases hk:x.kind=3;rotate_left
  .rw[zK hk,yF]at br;refine T ?_;exact A8 [] hI ab (Bd hI ab (by rw[dx];exact br)) U
  rw[zL hk,yG]at br;by_cases mq:j=0
  .have aa:=eu (by rw[br,zL mq];rfl);subst aa;refine T ?_;exact Ao 4 1 Al E D
  rw[zK mq,vQ]at br;have cy:((j:Int)-1).toNat<l.length:=by omega
  have sw:=hI (j-1) q_ q_;have wv:Ag (l[((j:Int)-1).toNat]'cy).domain n.domains.length=true:=by
   have e:((j:Int)-1).toNat=j-1:=by omega
   simp only[e];unfold stepB at sw;simp only[zG]at sw;exact sw.1
  have km:=placeB_iff.1 wv;rw[Ae cy,Ae km.2]at br;by_cases nu:(n.domains[(l[((j:Int)-1).toNat]'cy).domain.toNat]'km.2).irb<0
  .have aa:=eu (by rw[br,zL nu];rfl);subst aa;refine T ?_;refine⟨λ_=>?_,λh=>yA nu (zT h)⟩;refine T ?_;exact Ao 4 1 Al E D
  rw[zK nu]at br;refine T ?_;refine⟨λh=>yA (zO h) nu,λ_=>?_⟩;refine T ?_;exact A8 [] hI ab (Bd hI ab (by rw[dx];exact br)) U
 .have gl:j=l.length:=qB h;subst gl;clear h;have dp:Ik (stepB n l) l=true:=allB_iff.2 λi hi=>hI i hi hi
  rw[zE ⟨hb,af,dp⟩]at aa;subst aa;have qi:=Acw l (λh=>decide (h.kind=3)) 202 [] [] rfl (λx hx=>⟨⟨_,_,F202⟩,Apx x⟩) hl;have hri:Bs (λh=>decide (h.kind=3)) l=Zv l:=rfl;rw[hri]at qi;have ab:=Iw (λh:Hop=>decide (h.kind=3)) l;have his:=λh0=>A44 hri h0
  rw[hri]at ab;have q7:=On (frameW n l) (Agt hu l);have gd:=frameW.eq_1 n l;have r6:=irbOf.eq_1 n l;generalize irbOf n l=ib at *;generalize Zv l=r at *;refine gC qi F201 ?_;constructor<;>intro h
  .have h1:0<r:=zO h;rw[zE h1]at gd;obtain ⟨ju,hr3⟩:=his q_;have br:=allB_iff.1 dp r.toNat ju;have cy:(r-1).toNat<l.length:=by omega
   have wv:Ag (l[(r-1).toNat]'cy).domain n.domains.length=true:=by
    have sw:=allB_iff.1 dp (r-1).toNat cy;unfold stepB at sw;simp only[zG]at sw;exact sw.1
   have km:=placeB_iff.1 wv;unfold stepB at br;rw[hr3,show ((r.toNat:Int)-1)=r-1 by omega,Ae cy,Ae km.2]at br;simp only[zG,yG,yU,xX,yB]at br;have a6:=(Axu hb km.2).resolve_left q_;have lm:0<=(n.domains[(l[(r-1).toNat]'cy).domain.toNat]'km.2).irb/\(n.domains[(l[(r-1).toNat]'cy).domain.toNat]'km.2).irb.toNat<n.irbs.length:=by unfold InIrbs at a6;omega
   rw[Ae cy,Ae km.2,Ae lm.2]at r6;rw[Ae ju]at gd;have ha:=d5 _ (zI ju);have vu:=yR ha.1;have hxa:=hu _ (zI lm.2);have kv:=yR hxa.1;have q5:Sp 203 [.agg [Aa 0,Aa 0,Aa 64,Aa 17,Be 1,Be ((l[r.toNat]'ju).addr.toNat:Nat),.sl 1 Al []]] (.tup [.sl 1 Al (ipPutT (M5 (l[r.toNat]'ju).addr.toNat)).1,Aa (ipPutT (M5 (l[r.toNat]'ju).addr.toNat)).2]):=Aiy (M5 (l[r.toNat]'ju).addr.toNat) (A3j _ q_) (by show 0<100000;decide);rw[vu]at q5;have q6:=Agk (n.irbs[(n.domains[(l[(r-1).toNat]'cy).domain.toNat]'km.2).irb.toNat]'lm.2).addr.toNat q_;rw[kv]at q6;subst r6;rw[gd]at q7|-;clear gd;generalize (ipPutT (M5 (l[r.toNat]'ju).addr.toNat)).1=bo at *;refine T ?_;refine A5u 74 (.agg [Aa 0,Aa 0,Aa 64,Aa 17,Be 1,Be (l[r.toNat]'ju).addr,.sl 1 Al []]) (.agg vL) (gK q5 F203 q6 F204 ?_);exact Aj (Ad [(0,999)] E F19 q7 E Y E ⟨.inr E,Y⟩) E E (Ai 999 E gA)
  .have h1:¬0<r:=zT h;rw[zD h1]at gd;rw[gd]at q7|-;clear gd;refine T ?_;refine A5u 99 (.agg [Bl 281474976710655,Bl M8,Aa 34997,.sl 1 Al []]) (.agg vL) ?_;exact Aj (Ad [(0,999)] E F19 q7 E Y E ⟨.inr E,Y⟩) E E (Ai 999 E gA)
def Afk(b:List UInt8):FrameOK (takeF b).1:=by
 by_cases h:(takeF b).2=0
 .exact Vn h
 .rw[Aux h];exact Eu
def Akg{f:FrameM}(hf:FrameOK f)(v:Nat)(hv:v<=4094):FrameOK (tagT f v).1:=by
 by_cases h:(tagT f v).2=0
 .exact Ay8 hf v hv h
 .unfold tagT at h|-;split
  .exact Eu
  .rename_i h1;rw[zD h1]at h;split
   .exact Eu
   .rename_i h2;rw[zD h2]at h;exact yA E h
def aR{n:Net}(hu:C7 n)(l:List Hop):(wayBytes n l).1.length<=1518:=by
 unfold wayBytes;split
 .show (Mb _).length<=1518;rw[D9];have:=(Agt hu l).body;omega
 .show 0<=1518;decide
def Aon(n:Net)(hn:n.Fin)(hu:C7 n)(hb:Ac n=true)(port:Int)(hp:0<=port/\port.toNat<n.ports.length)(l:List Hop)(hl:An l)(d5:∀h∈l,eE n h)(h0:0<l.length):Sp 64 [Am n,Aa port,.sl 4 Dh l] (Bp (injectW n port l)):=cT F64 ntmps64 λF hF=>by
 have bd:(0:Int).toNat<l.length:=h0;have hd:=d5 _ (zI bd);have q1:=Aul n hn hu l hl (λh hh=>(d5 h hh).2);have iz:=aR (n:=n) hu l;have hv:=aC hb hd.1.2;have aa:=injectW.eq_1 n port l;rw[Ae bd,Ae hd.1.2,Ae hp.2]at aa;generalize injectW n port l=res at *;obtain ⟨ve,tc⟩:∃v:Nat,(n.domains[(l[(0:Int).toNat]'bd).domain.toNat]'hd.1.2).vlan=v:=⟨_,(yR q_).symm⟩
 have mr:0<=(l[(0:Int).toNat]'bd).domain/\(l[(0:Int).toNat]'bd).domain.toNat<n.domains.length:=hd.1;have q3:=λf hf=>Akh f ve hf q_
 have ho:=λf hf=>Akg (f:=f) hf ve q_
 rw[<-tc]at q3 ho;clear tc;generalize wayBytes n l=bb at *;have q2:=Uu bb.1 q_;have hf:=Afk bb.1;generalize takeF bb.1=tk at *;have q3:=q3 _ hf;have q4:=On _ (ho _ hf);clear ho;refine fW ?_;refine Bf 3 8 (Am n) E E E (gC q1 F119 ?_);constructor<;>intro h
 .have ly:(n.domains[(l[(0:Int).toNat]'bd).domain.toNat]'hd.1.2).vlan≠(n.ports[port.toNat]'hp.2).native:=by simpa using h
  rw[zE ly]at aa;clear h hv ly;generalize tagT tk.1 (n.domains[(l[(0:Int).toNat]'bd).domain.toNat]'hd.1.2).vlan=tg at *;subst aa;refine gB q2 F120 q3 F121 ?_;refine Aj (Ad [(0,55)] E F19 q4 E Y E ⟨.inr E,Y⟩) E E ?_;refine Ai 55 E (T ?_);exact Ak 6 [Aa 1,Aa port,Aa 0,Aa 0,.sl 1 Al (Mb tg.1),.sl 1 Ab []] E vL D
 .have ly:¬(n.domains[(l[(0:Int).toNat]'bd).domain.toNat]'hd.1.2).vlan≠(n.ports[port.toNat]'hp.2).native:=by simpa using h
  rw[zD ly]at aa;subst aa;refine T ?_;exact Ak 6 [Aa 1,Aa port,Aa 0,Aa 0,.sl 1 Al bb.1,.sl 1 Ab []] E vL D
abbrev stO(n:Net)(s:GoM):Obs:=[(0,.box (T1 n 1 s.m.now s.m.injected s.m.drops)),(1,.box (K4 n s.m.up s.d)),(2,.row 1 Hp s.m.tables),(3,.row 1 Q1 s.m.queues),(5,.box [.ptr 0 0]),(6,.box [.osl 7]),(7,.row 6 Bp s.out)]
abbrev stN(n:Net)(s:GoM):Obs:=[(0,.box (T1 n 4 s.m.now s.m.injected s.m.drops)),(1,.non),(2,.row 1 Hp s.m.tables),(3,.row 1 Q1 s.m.queues),(4,.box (K4 n s.m.up s.d)),(5,.box [.ptr 0 0]),(6,.box [.osl 8]),(7,.non),(8,.row 6 Bp s.out)]
abbrev doSV:SV:=.clo (.func 62) [] [.ptr 5 0,.ptr 6 0]
abbrev pkO(n:Net)(s:GoM):Obs:=[(0,.box (T1 n 1 s.m.now s.m.injected s.m.drops)),(1,.box (K4 n s.m.up s.d)),(2,.row 1 Hp s.m.tables),(3,.row 1 Q1 s.m.queues),(5,.box [.ptr 0 0]),(6,.box [.osl 7]),(7,.row 6 Bp s.out),(9,.box [doSV])]
abbrev pkN(n:Net)(s:GoM):Obs:=[(0,.box (T1 n 4 s.m.now s.m.injected s.m.drops)),(1,.non),(2,.row 1 Hp s.m.tables),(3,.row 1 Q1 s.m.queues),(4,.box (K4 n s.m.up s.d)),(5,.box [.ptr 0 0]),(6,.box [.osl 8]),(7,.non),(8,.row 6 Bp s.out),(9,.box [doSV])]
def Ayn(n:Net)(hn:n.Fin)(bj:n.Num)(s:GoM)(J D:Int)(ax:MacOK n s.m J D)(hJ:J<900000000000)(ud:0<=D)(hD:D<=900000000000)(hlen:s.out.length<1000000)(x:StepM)(hb:x.bytes.length<100000):Sq 62 [Bp x,.ptr 5 0,.ptr 6 0] (stO n s) (.tup []) (stN n (doW n s x)):=cT F62 ntmps62 λF hF=>by
 have q1:=Aps n hn bj s.m s.d J D ax hJ ud hD x hb;have aa:=doW.eq_1 n s x;generalize doT n s.m x=r at *;generalize doD n s.m s.d x=dd at *;generalize doW n s x=res at *;subst aa;refine fW ?_;refine X (cY (d:=900) E E E) ?_;refine X (Ad [] E F27 q1 E W E V) ?_;refine X (Ah Γ.toTy 8 E E E E E (.row E) (.lit (e:=Bp) (l:=[x]) E E) y_ kO kO) ?_;exact A6 E .nil [] (stN n ⟨r.1,dd,s.out++[x]⟩) (λ_ h=>h) E E U
def A3p(n:Net)(hn:n.Fin)(bj:n.Num)(m:MacM)(d:Bool)(J D:Int)(ax:MacOK n m J D)(hJ:J<900000000000)(ud:0<=D)(hD:D<=900000000000)(x:StepM)(hb:x.bytes.length<100000):Sq 62 [Bp x,.ptr 5 0,.ptr 6 0] [(0,.box (T1 n 1 m.now m.injected m.drops)),(1,.box (K4 n m.up d)),(2,.row 1 Hp m.tables),(3,.row 1 Q1 m.queues),(5,.box [.ptr 0 0]),(6,.box [svN])] (.tup [])
   [(0,.box (T1 n 4 (doW n ⟨m,d,[]⟩ x).m.now (doW n ⟨m,d,[]⟩ x).m.injected (doW n ⟨m,d,[]⟩ x).m.drops)),(1,.non),(2,.row 1 Hp (doW n ⟨m,d,[]⟩ x).m.tables),(3,.row 1 Q1 (doW n ⟨m,d,[]⟩ x).m.queues),(4,.box (K4 n (doW n ⟨m,d,[]⟩ x).m.up (doW n ⟨m,d,[]⟩ x).d)),(5,.box [.ptr 0 0]),(6,.box [.osl 8]),(8,.row 6 Bp (doW n ⟨m,d,[]⟩ x).out)]:=cT F62 ntmps62 λF hF=>by
 have q1:=Aps n hn bj m d J D ax hJ ud hD x hb;have aa:=doW.eq_1 n ⟨m,d,[]⟩ x;dsimp only at aa;generalize doT n m x=r at *;generalize doD n m d x=dd at *;generalize doW n ⟨m,d,[]⟩ x=res at *;subst aa;refine fW ?_;refine X (cY (d:=900) E E E) ?_;refine X (Ad [] E F27 q1 E W E V) ?_;refine X (Ah Γ.toTy 8 E E E E E .nil (.lit (e:=Bp) (l:=[x]) E E) y_ y_ y_) ?_;exact A6 E .nil [] [(0,.box (T1 n 4 r.1.now r.1.injected r.1.drops)),(1,.non),(2,.row 1 Hp r.1.tables),(3,.row 1 Q1 r.1.queues),(4,.box (K4 n r.1.up dd)),(5,.box [.ptr 0 0]),(6,.box [.osl 8]),(8,.row 6 Bp ([]++[x]))] (λ_ h=>h) E E U
def Axh{P:Program}{o:Oper}{s:SS}{x y:Operand}{at_:Array TypeId}{k k':IntKind}{m n r:Int}(hr:(if m<n then n else m)=r)(h:o.op=.call ⟨.builtin .max,#[x,y],at_⟩)(hx:ev s x=.val (.int k m))(hy:ev s y=.val (.int k' n)):Good P o s ⟨.val (.int k r),[],[]⟩:=by
 subst hr;exact Good.pure λb a w _ hr ho=>by
  have h1:=hr x (by simp[h,Op.operands,Call.operands]);have h2:=hr y (by simp[h,Op.operands,Call.operands]);rw[hx]at h1;rw[hy]at h2;refine⟨.int k (if m<n then n else m),?_,by simp[Rd]⟩;simp[execOp,h,resolve,invoke,builtin,Builtin.max_,Builtin.max2,h1.val,h2.val]
def Aaq(n:Net)(hn:n.Fin)(bj:n.Num)(s:GoM)(J D:Int)(ax:MacOK n s.m J D)(hJ:J<900000000000)(ud:0<=D)(hD:D<=900000000000)(hlen:s.out.length<1000000)(dom:Int):Sq 63 [Aa dom,.ptr 9 0,.ptr 5 0] (pkO n s) (.tup []) (pkN n (S2 n s dom)):=cT F63 ntmps63 λF hF=>by
 have hqo:=Jd ax dom;have q1:=Avf n s.m s.d dom hqo;have q2:=Ayn n hn bj s J D ax hJ ud hD hlen (pickX s.m dom) (by show 0<100000;decide);rw[S2];generalize doW n s (pickX s.m dom)=res at *;have su:=pickX.eq_1 s.m dom;have hql:(if Ag dom s.m.queues.length=true then queueL s.m dom else []).length<1000000:=by
  have:=hqo.1;split
  .omega
  .simp
 generalize (if Ag dom s.m.queues.length=true then queueL s.m dom else [])=qs at *;obtain ⟨v,hv⟩:∃v:Int,(if (qs.length:Int)-1<0 then 0 else (qs.length:Int)-1)=v:=⟨_,rfl⟩
 rw[hv]at su;generalize pickX s.m dom=px at *;subst su;refine T ?_;refine Xe (Ad [] E F52 q1 E W E V) ?_;refine Xd (Axh hv E E E) ?_;refine Xd (Mm [] [] (Aw E E F62) q2 (.cons (.agg vL) (.cons (.refl _) (.cons (.refl _) .nil))) W E V E) ?_;exact A6 E .nil [] (pkN n res) (λ_ h=>h) E E U
end
section
def Ajf{n:Net}(hn:n.Fin)(bj:n.Num){s:GoM}{J D:Int}(h:MacOK n s.m J D)(hJ:0<=J)(hD:0<=D)(x:StepM):MacOK n (doW n s x).m (J+1) (D+4294967298)/\(doW n s x).out.length=s.out.length+1 :=
 ⟨A2u hn bj h hJ hD x,by simp[doW]⟩
def A1n{n:Net}(hn:n.Fin)(bj:n.Num){s:GoM}{J D:Int}(h:MacOK n s.m J D)(hJ:0<=J)(hD:0<=D)(x:Hop):MacOK n (linkW n s x).m (J+1) (D+4294967298)/\(linkW n s x).out.length<=s.out.length+1:=by
 unfold linkW;split
 .have:=Ajf hn bj h hJ hD ⟨5,0,0,0,[],upW n x⟩;exact⟨this.1,by omega⟩
 .exact⟨h.mono q_ q_,by omega⟩
def A2g{n:Net}(hn:n.Fin)(bj:n.Num)(from_:Int)(l:List Hop):∀k:Nat,MacOK n (goW n from_ l k).m (1+2*k) ((1+2*k)*4294967298)/\(goW n from_ l k).out.length<=1+2*k
 |0=>by
  have:=Ajf hn bj (s:=⟨newT n,false,[]⟩) (Aah n) (xZ _) (xZ _) (injectW n from_ l);rw[goW];exact⟨this.1.mono q_ q_,by rw[this.2];simp⟩
 |k+1=>by
  obtain ⟨h1,h2⟩:=A2g hn bj from_ l k;rw[goW];have h3:=A1n hn bj h1 q_ q_ (nth l ((k+1:Nat):Int));have h4:=Ajf hn bj h3.1 q_ q_ (pickX (linkW n (goW n from_ l k) (nth l ((k+1:Nat):Int))).m (nth l ((k:Nat):Int)).domain);refine⟨h4.1.mono q_ q_,?_⟩;have h5:=h4.2;unfold S2;omega
def Amp{n:Net}(hu:C7 n)(hb:Ac n=true)(from_:Int){l:List Hop}(h0:0<l.length)(d5:∀h∈l,eE n h):(injectW n from_ l).bytes.length<100000:=by
 have bd:(0:Int).toNat<l.length:=h0;have hd:=d5 _ (zI bd);have hv:=aC hb hd.1.2;show (if _ then _ else _:List UInt8).length<100000;rw[Ae bd,Ae hd.1.2];obtain ⟨ve,tc⟩:∃v:Nat,(n.domains[(l[(0:Int).toNat]'bd).domain.toNat]'hd.1.2).vlan=v:=⟨_,(yR q_).symm⟩
 rw[tc];split
 .rw[D9];have:=(Akg (Afk (wayBytes n l).1) ve q_).body;omega
 .have:=aR (n:=n) hu l;omega
attribute [local irreducible]G DR
set_option maxRecDepth 100000
def Aom(n:Net)(hn:n.Fin)(bj:n.Num)(hu:C7 n)(from_ to:Int):Sp 33 [Am n,Aa from_,Aa to] (.tup [.sl 6 Bp (wscriptT n from_ to).1,Aa (wscriptT n from_ to).2]):=cT F33 ntmps33 λF hF=>by
 have ak:=wscriptT.eq_1 n from_ to;generalize wscriptT n from_ to=res at *;have h1:=aQ n from_;have h2:=aQ n to;have kl:=hn.links;unfold An at kl;refine fW ?_;refine Bf 3 8 (Am n) E E E (gC h1 F61 ?_);cases hf:J1 n from_
 .rw[zD (λx=>by rw[hf]at x;cases x.1)]at ak;subst ak;refine T ?_;exact Ao 6 6 Bp E D
 refine gC h2 F61 ?_;cases ht:J1 n to
 .rw[zD (λx=>by rw[ht]at x;cases x.2.1)]at ak;subst ak;refine T ?_;exact Ao 6 6 Bp E D
 refine gN ?_ ?_<;>intro h
 .rw[zD (λx=>x.2.2.1 (kS h))]at ak;subst ak;refine T ?_;exact Ao 6 6 Bp E D
 have af:from_≠to:=kS h;clear h;refine T ?_;cases aq:okB n (Aat n)
 .rw[zD (λx=>by rw[aq]at x;cases x.2.2.2)]at ak;subst ak;refine C (Aa5 n hn aq) F49 ?_;exact Ao 6 6 Bp E D
 rw[zE ⟨hf,ht,af,aq⟩]at ak;refine X (Ad [(0,800),(1,801),(2,802),(3,803)] E F49 (As6 n hn aq) E Y E V) ?_;have q2:=wayS n hn hu from_ to;have zp:=@Aoo n hu from_ to;have zq:=@way_links n from_ to;have lz:An (wayT n from_ to).1\/True:=.inr trivial;generalize wayT n from_ to=wr at *;obtain ⟨l,ok⟩:=wr;cases ok
 .rw[zD y_]at ak;subst ak;refine C q2 F60 ?_;exact Ao 6 6 Bp E D
 rw[zE rfl]at ak;obtain ⟨d5,hlen,hlne,hb⟩:=zp rfl;have hlk2:=zq rfl;clear zp zq lz;dsimp only at *;have cz:=Adi hb;have h0:0<l.length:=xS.2 hlne;have oc:An l:=by unfold An;omega
 have hp:=Le hf;have q3:=Aon n hn hu hb from_ hp l oc d5 h0;have q4:=A3p n hn bj (newT n) false 0 0 (Aah n) q_ q_ q_ (injectW n from_ l) (Amp hu hb from_ h0 d5);rw[show doW n ⟨newT n,false,[]⟩ (injectW n from_ l)=goW n from_ l 0 from rfl]at q4;refine gK q2 F60 q3 F64 ?_;refine Xd (Av [(0,800),(1,801),(2,802),(3,803),(4,804),(5,8),(6,12),(8,805)] (Aw E E F62) q4 E W E V) ?_;have gh:(l.drop 1).length=l.length-1:=by simp
 refine X (J2 (lo:=1) (hi:=l.length) Γ.toTy (l.drop 1) E E E E (.inr ⟨_,_,E,E⟩) (.inl ⟨E,E⟩) q_ (yE _) (by rw[yN])) ?_;clear q2 q3 q4;refine Bg (l.drop 1).length (λj=>[(3,.ref 8 (Am n) 0),(10,.sl 4 Dh l),(12,.ptr 6 0),(13,.ptr 9 0),(14,.clo (.func 63) [] [.ptr 9 0,.ptr 5 0]),(58,.sl 4 Dh (l.drop 1)),(59,Aa (l.drop 1).length),(60,Aa j)]) (λj=>pkO n (goW n from_ l j))
  [(0,800),(1,804),(2,802),(3,803),(5,8),(6,12),(7,805),(9,13)] U ?_
 intro j hj;obtain ⟨ax,lq⟩:=A2g hn bj from_ l j;refine gN ?_ ?_<;>intro h
 .have ab:j<(l.drop 1).length:=qA h;have ai:(j:Int).toNat<(l.drop 1).length:=kS ab;have cy:((j+1:Nat):Int).toNat<l.length:=by omega
  have bd:(j:Int).toNat<l.length:=by omega
  have wb:goW n from_ l (j+1)=S2 n (linkW n (goW n from_ l j) (l[((j+1:Nat):Int).toNat]'cy)) (l[(j:Int).toNat]'bd).domain:=by rw[goW,Ae cy,Ae bd]
  have e1:(l.drop 1)[(j:Int).toNat]'ai=l[((j+1:Nat):Int).toNat]'cy:=by
   rw[vW];congr 1;omega
  have hxl:=hlk2 _ (zI cy);generalize l[((j+1:Nat):Int).toNat]'cy=x at *;generalize goW n from_ l j=s at *;have ww:=linkW.eq_1 n s x;clear h;refine S ?_;refine⟨E,by omega,ai,?_⟩;rw[e1];refine gN ?_ ?_<;>intro h
  .have hk:x.kind=1:=by simpa using h
   rw[zE hk]at ww;obtain ⟨gb,x6,vg⟩:=hxl hk;have mo:=upW.eq_1 n x;rw[Ae gb.2]at x6 vg mo;have q6:=Ayn n hn bj s _ _ ax q_ q_ q_ q_ ⟨5,0,0,0,[],upW n x⟩ (by show 0<100000;decide);obtain ⟨cd,hol2⟩:=Ajf hn bj ax q_ q_ ⟨5,0,0,0,[],upW n x⟩;rw[<-ww]at q6 cd hol2;rw[mo]at q6;clear ww mo;generalize linkW n s x=s1 at *;have q7:=Aaq n hn bj s1 _ _ cd q_ q_ q_ q_ (l[(j:Int).toNat]'bd).domain;rw[<-wb]at q7;clear h;refine T ?_;refine X (B4 Γ.toTy (d:=71) (n:=n.links.length) Ab false E E E E E E E E q_ q_ E E E) ?_;refine⟨by rw[xU];exact vg,?_⟩;refine fW ?_;refine⟨E,(by rw[xU];exact vg),true,E,E,?_⟩;refine T ?_;refine Ai 71 E (X (Mm [(4,40),(8,41)] [] (Aw E E F62) q6 (.cons (.agg vL) (.cons (.refl _) (.cons (.refl _) .nil))) W E V E) ?_);refine X (Av [(1,40),(7,41),(4,42),(8,43)] (Aw E E F63) q7 E W E V) ?_;exact Az [(1,42),(7,43)] ab U
  .have hk:¬x.kind=1:=by simpa using h
   rw[zD hk]at ww;rw[ww]at wb;have q7:=Aaq n hn bj s _ _ ax q_ q_ q_ q_ (l[(j:Int).toNat]'bd).domain;rw[<-wb]at q7;clear h;refine T ?_;refine X (Av [(4,42),(8,43)] (Aw E E F63) q7 E W E V) ?_;exact Az [(1,42),(7,43)] ab U
 .have gl:j=(l.drop 1).length:=qB h;subst gl;have p7:((l.length:Int)-1).toNat<l.length:=by omega
  have kf:Ar2 n from_ l=S2 n (goW n from_ l (l.drop 1).length) (l[((l.length:Int)-1).toNat]'p7).domain:=by rw[Ar2,Ae p7,gh]
  have q7:=Aaq n hn bj _ _ _ ax q_ q_ q_ q_ (l[((l.length:Int)-1).toNat]'p7).domain;rw[<-kf]at q7;clear kf;generalize Ar2 n from_ l=s2 at *;generalize goW n from_ l (l.drop 1).length=s at *;subst ak;clear h;refine T ?_;refine X (Av [(4,42),(8,43)] (Aw E E F63) q7 E W E V) ?_;exact Ai 43 E D
end
end Go.Sy.Zaa
