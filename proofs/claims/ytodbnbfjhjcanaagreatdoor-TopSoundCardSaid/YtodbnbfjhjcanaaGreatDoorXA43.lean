/- Parts of a proof. -/
import Derived.Test.YtodbnbfjhjcanaaGreatDoorXA41
set_option maxHeartbeats 4000000
set_option linter.all false
namespace Go.Sy.Zaa
open Go.Proofs Go.Proofs.Tryz
def Ik(n:Net)(tabs:List (List EntryM)):MacM:=Kb (newT n) tabs tabs.length
def runTabsT(n:Net)(tabs:List (List EntryM))(l:List StepM):List SeenM×Int:=if okB n (Zg n)=true then ((C2 n (Ik n tabs) l).2,0) else ([],2)
def ownerI(of:List Int)(port:Int):Int:=if Af port of.length=true then nth of port else -1
def noteL(of by_:List Int)(port:Int):List Int:=if 0<=ownerI of port then by_++[ownerI of port] else by_
def ownB(by_:List Int)(af origin:Int):Bool:=Af (origin-1) by_.length&&decide (nth by_ (origin-1)=af)
def Ue(l:List QueuedM)(by_:List Int)(af at_:Int):Int:=((l.take at_.toNat).countP λq=>ownB by_ af q.origin:Nat)
def Le(m:MacM)(dom:Int):List QueuedM:=if Af dom m.queues.length=true then queueL m dom else []
def Ow(x:StepM)(at_:Int):StepM:=⟨x.kind,x.port,x.domain,at_,x.bytes,x.up⟩
def keepT(of by_:List Int)(af:Int)(m:MacM)(x:StepM):StepM×Bool :=
 if x.kind=1 then (x,decide (ownerI of x.port=af)&&decide (0<=af))
 else if x.kind=2\/x.kind=3 then
  (if Af x.at_ (Le m x.domain).length&&ownB by_ af (((Le m x.domain)[x.at_.toNat]?).getD noQ).origin then (Ow x (Ue (Le m x.domain) by_ af x.at_),true) else (x,false))
 else (x,true)
def Aal(of by_:List Int)(af:Int)(m:MacM)(x:StepM):List StepM:=if (keepT of by_ af m x).2=true then [(keepT of by_ af m x).1] else []
def byStep(of by_:List Int)(x:StepM):List Int:=if x.kind=1 then noteL of by_ x.port else by_
def byL(of:List Int):List Int->List StepM->List Int
 |by_,[]=>by_
 |by_,x::l=>byL of (byStep of by_ x) l
def Sb(n:Net)(of:List Int)(af:Int):MacM->List Int->List StepM->List StepM
 |_,_,[]=>[]
 |m,by_,x::l=>Aal of by_ af m x++Sb n of af (doT n m x).1 (byStep of by_ x) l
def Hb(n:Net)(of:List Int):Bool :=
 decide (of.length=n.ports.length)&&Ac n&&(List.range of.length).all λi=>if (nth n.ports (i:Int)).link<0 then decide (0<=nth of (i:Int))&&decide (nth of (i:Int)<=9) else decide (nth of (i:Int)=-1)
def reduceT(n:Net)(of:List Int)(tabs:List (List EntryM))(l:List StepM)(af:Int):List StepM×Int :=
 if okB n (Zg n)=true/\Hb n of=true then (Sb n of af (Ik n tabs) [] l,0) else ([],2)
def Ed(l:List SeenM)(of:List Int)(af:Int):List SeenM:=(l.filter λx=>Af x.port of.length&&decide (nth of x.port=af)).map λx=>⟨x.port,0,x.bytes⟩
def Abo(of:List Int):∀(a b:List StepM) (by_:List Int),byL of by_ (a++b)=byL of (byL of by_ a) b
 |[],b,by_=>rfl
 |x::a,b,by_=>by
  rw[wB,byL,byL,Abo of a b]
def Az5(of by_:List Int)(l:List StepM)(j:Nat)(hj:j<l.length):byL of by_ (l.take (j+1))=byStep of (byL of by_ (l.take j)) l[j]:=by
 rw[yA hj,Abo];rfl
def eD(n:Net)(of:List Int)(af:Int):∀(a b:List StepM) (m:MacM) (by_:List Int),Sb n of af m by_ (a++b)=Sb n of af m by_ a++Sb n of af (C2 n m a).1 (byL of by_ a) b
 |[],b,m,by_=>rfl
 |x::a,b,m,by_=>by
  rw[wB,Sb,Sb,eD n of af a b,C2,byL,xF]
def As2(n:Net)(of:List Int)(af:Int)(m:MacM)(by_:List Int)(l:List StepM)(j:Nat)(hj:j<l.length):Sb n of af m by_ (l.take (j+1))=Sb n of af m by_ (l.take j)++Aal of (byL of by_ (l.take j)) af (C2 n m (l.take j)).1 l[j]:=by
 rw[yA hj,eD,Sb,Sb,xG]
def Aue(of by_:List Int)(af:Int)(m:MacM)(x:StepM):(Aal of by_ af m x).length<=1:=by
 unfold Aal;split<;>simp
def oC(n:Net)(of:List Int)(af:Int):∀(l:List StepM) (m:MacM) (by_:List Int),(Sb n of af m by_ l).length<=l.length
 |[],m,by_=>by simp[Sb]
 |x::l,m,by_=>by
  rw[Sb];have h1:=oC n of af l (doT n m x).1 (byStep of by_ x);have h2:=Aue of by_ af m x;simp only[zU,yL];omega
def Apz(of by_:List Int)(x:StepM):(byStep of by_ x).length<=by_.length+1:=by
 unfold byStep noteL;split
 .split
  .simp
  .omega
 .omega
def Arm(of:List Int):∀(l:List StepM) (by_:List Int),(byL of by_ l).length<=by_.length+l.length
 |[],by_=>by simp[byL]
 |x::l,by_=>by
  rw[byL];have h1:=Arm of l (byStep of by_ x);have h2:=Apz of by_ x;simp only[yL];omega
def Hj(m:MacM):Prop:=0<=m.injected/\∀l∈m.queues,∀q∈l,1<=q.origin/\q.origin<=m.injected
def Oa{m:MacM}(h:Hj m)(dom:Int):∀q∈queueL m dom,1<=q.origin/\q.origin<=m.injected:=by
 intro q hq;unfold queueL at hq;by_cases hd:dom.toNat<m.queues.length
 .exact h.2 _ (Om hd) q hq
 .rw[xV z_]at hq;cases hq
def Aje{m:MacM}(h:Hj m)(dom:Int){l:List QueuedM}(hl:∀q∈l,1<=q.origin/\q.origin<=m.injected):Hj (setQ m dom l):=by
 refine⟨h.1,λx hx=>?_⟩;rcases aE hx with rfl|hx
 .exact hl
 .exact h.2 x hx
def oR{m:MacM}(h:Hj m)(dom at_:Int):Hj (takeM m dom at_).1/\(takeM m dom at_).1.injected=m.injected/\((takeM m dom at_).2.2=true->1<=(takeM m dom at_).2.1.origin/\(takeM m dom at_).2.1.origin<=m.injected):=by
 have hq:=Oa h dom;unfold takeM;split
 .exact⟨h,rfl,λh=>by cases h⟩
 .refine⟨Aje h dom λq hm=>?_,E,λht=>?_⟩
  .unfold takeT at hm;split at hm
   .exact hq q hm
   .exact hq q (uK hm)
  .dsimp only at ht|-;unfold takeT at ht|-;split at ht
   .cases ht
   .rename_i hc;rw[zD hc];exact hq _ (Om z_)
def Z8{m:MacM}(h:Hj m)(dom:Int){q:QueuedM}(hq:1<=q.origin/\q.origin<=m.injected)(e:Int):Hj (comeM m dom q e)/\(comeM m dom q e).injected=m.injected:=by
 unfold comeM;split
 .exact⟨h,E⟩
 split
 .refine⟨Aje h dom λx hx=>?_,E⟩;unfold pushT at hx;split at hx
  .exact Oa h dom x hx
  .rcases yI.1 hx with hx|hx
   .exact Oa h dom x hx
   .rw[zZ.1 hx];exact hq
 .exact⟨h,E⟩
def Axl{n:Net}{m:MacM}(h:Hj m)(o:OutM){org:Int}(ho:1<=org/\org<=m.injected):Hj (goesM n m o org).1/\(goesM n m o org).1.injected=m.injected:=by
 unfold goesM;split
 .exact⟨h,E⟩
 split
 .exact Z8 h _ ho _
 split
 .exact Z8 h _ ho _
 split
 .exact Z8 h _ ho _
 .exact⟨h,E⟩
def Adz{n:Net}{org:Int}:∀(l:List OutM) {m:MacM},Hj m->(1<=org/\org<=m.injected)->Hj (goesL n m org l).1/\(goesL n m org l).1.injected=m.injected
 |[],m,h,_=>⟨h,rfl⟩
 |o::l,m,h,ho=>by
  rw[goesL];have h1:=Axl (n:=n) h o ho;have h2:=Adz (n:=n) (org:=org) l h1.1 (by rw[h1.2];exact ho);exact⟨h2.1,by rw[h2.2,h1.2]⟩
def Ate{m:MacM}(h:Hj m)(dom:Int)(r:List EntryM×List OutM×Int):Hj (pickD m dom r)/\(pickD m dom r).injected=m.injected:=by
 unfold pickD;split
 .exact⟨h,E⟩
 split
 .exact⟨h,E⟩
 .exact⟨h,E⟩
def Axk{n:Net}{m:MacM}(h:Hj m)(dom at_:Int):Hj (pickT n m dom at_).1/\(pickT n m dom at_).1.injected=m.injected:=by
 have h1:=oR h dom at_;unfold pickT;split
 .exact⟨h1.1,h1.2.1⟩
 .rename_i hc;have h2:=Ate h1.1 dom (Mf n (takeM m dom at_).1 dom (takeM m dom at_).2.1);have ht:=h1.2.2 (kS hc);have h3:=Adz (n:=n) (org:=(takeM m dom at_).2.1.origin) (Mf n (takeM m dom at_).1 dom (takeM m dom at_).2.1).2.1 h2.1 (by rw[h2.2,h1.2.1];exact ht);exact⟨h3.1,by rw[h3.2,h2.2,h1.2.1]⟩
def An5{n:Net}{m:MacM}(h:Hj m)(port:Int)(b:List UInt8)(hp:Af port n.ports.length=true)(hl:(nth n.ports port).link<0):Hj (injectT n m port b)/\(injectT n m port b).injected=m.injected+1:=by
 unfold injectT;rw[zD (by rw[hp];simp;exact hl)];have h0:Hj ⟨m.up,m.tables,m.queues,m.now,m.injected+1,m.drops⟩:=⟨by have:=h.1;dsimp only;omega,λl hl q hq=>by have:=h.2 l hl q hq;dsimp only;omega⟩
 exact Z8 h0 _ ⟨by have:=h.1;dsimp only;omega,xN _⟩ _
def lB{n:Net}{m:MacM}(port:Int)(b:List UInt8)(hp:¬(Af port n.ports.length=true/\(nth n.ports port).link<0)):injectT n m port b=m:=by
 unfold injectT;rw[zE];by_cases h:Af port n.ports.length=true
 .exact .inr (Int.not_lt.1 λx=>hp ⟨h,x⟩)
 .exact .inl (kS h)
def Mt(n:Net)(x:StepM):Int:=if x.kind=1/\Af x.port n.ports.length=true/\(nth n.ports x.port).link<0 then 1 else 0
def Arg{n:Net}{m:MacM}(h:Hj m)(x:StepM):Hj (doT n m x).1/\(doT n m x).1.injected=m.injected+Mt n x:=by
 unfold doT;by_cases hk:x.kind=1
 .rw[zE hk];unfold Mt;by_cases hc:Af x.port n.ports.length=true/\(nth n.ports x.port).link<0
  .rw[zE ⟨hk,hc⟩];exact An5 h _ _ hc.1 hc.2
  .rw[zD (λh=>hc h.2),lB _ _ hc];exact⟨h,by simp⟩
 rw[zD hk];have h0:Mt n x=0:=by unfold Mt;rw[zD (λh=>hk h.1)]
 rw[h0,Int.add_zero];split
 .exact Axk h _ _
 split
 .have:=oR h x.domain x.at_;exact⟨this.1,this.2.1⟩
 split
 .exact⟨h,E⟩
 split
 .split
  .exact⟨h,E⟩
  .exact⟨h,E⟩
 .exact⟨h,E⟩
def cX{n:Net}{of:List Int}(h:Hb n of=true):of.length=n.ports.length/\Ac n=true/\∀p,Af p of.length=true->(if (nth n.ports p).link<0 then 0<=nth of p/\nth of p<=9 else nth of p=-1):=by
 unfold Hb at h;simp only[zG,zJ,yU,xA]at h;refine⟨h.1.1,h.1.2,λp hp=>?_⟩;have hp:=B3 hp;have:=h.2 p.toNat z_;rw[show ((p.toNat:Nat):Int)=p by omega]at this;split at this
 .rename_i hc;rw[zE hc];simpa using this
 .rename_i hc;rw[zD hc];simpa using this
def Aix(n:Net)(of:List Int)(af:Int):∀(l:List StepM) (m:MacM) (by_:List Int),∀y∈Sb n of af m by_ l,∃x∈l,y.bytes=x.bytes/\y.up=x.up
 |[],m,by_,y,hy=>by cases hy
 |x::l,m,by_,y,hy=>by
  rw[Sb]at hy;rcases yI.1 hy with hy|hy
  .refine⟨x,by simp,?_⟩;unfold Aal at hy;split at hy
   .rw[zZ.1 hy];unfold keepT;split
    .exact⟨E,E⟩
    split
    .split
     .exact⟨E,E⟩
     .exact⟨E,E⟩
    .exact⟨E,E⟩
   .cases hy
  .obtain ⟨z,hz,h⟩:=Aix n of af l _ _ y hy;exact⟨z,by simp[hz],h⟩
def Ax0(n:Net):Hj (newT n):=by
 refine⟨by simp[newT],λl hl q hq=>?_⟩;have:l=[]:=(List.mem_replicate.1 hl).2;rw[this]at hq;cases hq
def Ad6{m:MacM}(h:Hj m)(tabs:List (List EntryM)):∀j,Hj (Kb m tabs j)/\(Kb m tabs j).injected=m.injected
 |0=>⟨h,rfl⟩
 |j+1=>by
  have ih:=Ad6 h tabs j;rw[Kb];unfold Sg;split
  .exact ih
  .unfold loadT;split
   .exact ih
   .exact ih
def SeenOK(n:Net)(k:Int)(x:SeenM):Prop:=Af x.port n.ports.length=true/\(nth n.ports x.port).link<0/\1<=x.origin/\x.origin<=k
theorem SeenOK.mono{n:Net}{k k':Int}{x:SeenM}(h:SeenOK n k x)(hk:k<=k'):SeenOK n k' x:=⟨h.1,h.2.1,h.2.2.1,by have:=h.2.2.2;omega⟩
def A16(of:List Int)(x:StepM):Bool:=decide (x.kind=1)&&(Af x.port of.length&&decide (0<=nth of x.port))
def Aol(n:Net)(tabs:List (List EntryM)):Hj (Ik n tabs)/\(Ik n tabs).injected=0:=by
 have h:=Ad6 (Ax0 n) tabs tabs.length;exact⟨h.1,h.2⟩
def Awu(x y:StepM):Prop:=y.kind=x.kind/\y.port=x.port/\y.domain=x.domain/\y.bytes=x.bytes/\y.up.length=x.up.length
instance (x y:StepM):Decidable (Awu x y):=by unfold Awu;infer_instance
def A25(l:List StepM)(x:StepM)(k:Nat):Prop:=∃h:k<l.length,Awu x l[k]/\0<=l[k].at_/\l[k].at_<=x.at_
instance (l:List StepM)(x:StepM)(k:Nat):Decidable (A25 l x k):=by unfold A25;infer_instance
attribute [local irreducible]G DR
set_option maxRecDepth 100000
def A11(of:List Int)(af:Int):List SV:=[.sl 1 Aa of,Aa af,.osl 11]
def Aop(of by_:List Int)(af:Int):Obs:=[(10,.box (A11 of af)),(11,.row 1 Aa by_)]
def ledN(of by_:List Int)(af:Int):Obs:=[(10,.box [.sl 1 Aa of,Aa af,.osl 12]),(11,.non),(12,.row 1 Aa by_)]
def Aea(of by_:List Int)(af port:Int):Sq 51 [.ptr 10 0,Aa port] (Aop of by_ af) (Aa (ownerI of port)) (Aop of by_ af):=cT F51 ntmps51 λF hF=>by
 have aa:=ownerI.eq_1 of port;generalize ownerI of port=res at *;refine gL ?_ ?_<;>intro h
 .rw[zD (by rw[Db (qA h)];simp)]at aa;subst aa;refine T ?_;exact E0
 refine T ?_;constructor<;>intro h2
 .rw[zD (by rw[Db (by have:=zO h2;omega)];simp)]at aa;subst aa;refine T ?_;exact E0
 have h0:=zQ h;have h1:=zQ h2;have hk:port.toNat<of.length:=by omega
 rw[zE (Et z_),Ag hk]at aa;subst aa;refine T ?_;exact E0
def Ayv(of by_:List Int)(af port:Int)(hl:by_.length<1000000):Sq 26 [.ptr 10 0,Aa port] (Aop of by_ af) (.tup []) (ledN of (noteL of by_ port) af):=cT F26 ntmps26 λF hF=>by
 have aa:=noteL.eq_1 of by_ port;generalize noteL of by_ port=res at *;have q:=Aea of by_ af port;generalize ownerI of port=w at *;refine T ?_;refine X (Ad [] E F51 q E W E V) ?_;constructor<;>intro h
 .rw[zE (qA h)]at aa;subst aa;refine T ?_;refine Xe (Ad [] E F51 q E W E V) ?_;refine Xd (Ah Γ.toTy 17 rfl rfl rfl rfl rfl (.row rfl) (.lit (e:=Aa) (l:=[w]) rfl rfl) (λj hj=>by cases hj;decide) kO kO) ?_;exact A2 E .nil [(12,17)] (ledN of (by_++[w]) af) (λ_ h=>h) E E U
 .rw[zD (qB h)]at aa;subst aa;refine T ?_;exact S3 11 12 E E y_ E0
def A10(of by_:List Int)(af origin:Int)(hl:by_.length<1000000):Sq 53 [.ptr 10 0,Aa origin] (Aop of by_ af) (Ab (ownB by_ af origin)) (Aop of by_ af):=cT F53 ntmps53 λF hF=>by
 have aa:=ownB.eq_1 by_ af origin;generalize ownB by_ af origin=res at *;refine gL ?_ ?_<;>intro h
 .have h0:=zO h;refine T ?_;constructor<;>intro h2
  .have h1:=zO h2;have hk:(origin-1).toNat<by_.length:=by omega
   rw[Et z_,yD,Ag hk]at aa;subst aa;refine T ?_;exact E0
  .rw[Db (by have:=zQ h2;omega),yC]at aa;subst aa;refine T ?_;exact E0
 .rw[Db (qB h),yC]at aa;subst aa;refine T ?_;exact E0
def Ayf{k a:Type}(f:k->a)(l:List k)(j:Nat)(hj:j<l.length):(l.take (j+1)).map f=(l.take j).map f++[f l[j]]:=by
 rw[yA hj,xY];rfl
def Alc{k:Type}(f:k->Bool)(l:List k)(j:Nat)(hj:j<l.length):(l.take (j+1)).countP f=(l.take j).countP f+(if f l[j] then 1 else 0):=by
 rw[yA hj,List.countP_append];simp[List.countP_cons]
def Ayw(of by_:List Int)(af:Int)(hl:by_.length<1000000):Sq 55 [.ptr 10 0] (Aop of by_ af) (.sl 1 Ab (by_.map λt=>t==af)) (Aop of by_ af):=cT F55 ntmps55 λF hF=>by
 refine T ?_;refine B6 3 1000 1 Ab E E ?_;refine A8 by_.length (λj=>[(0,.ptr 10 0),(3,.osl 1000),(9,.osl 11),(10,Aa by_.length),(11,Aa j)]) (λj=>[(10,.box (A11 of af)),(11,.row 1 Aa by_),(1000,.row 1 Ab ((by_.take j).map λt=>t==af))]) [] U ?_;intro j hj;refine gL ?_ ?_<;>intro h
 .have ab:j<by_.length:=qA h;have hs:=Ayf (λt=>t==af) by_ j ab;refine T ?_;refine X (Ah Γ.toTy 23 E E E E E (.row E) (.lit (e:=Ab) (l:=[by_[(j:Int).toNat]'z_==af]) E E) qq kO kO) ?_;exact Ax [(1000,23)] ab ⟨kA,⟨.inl E,E,.inl E,E,.inl (zH (Ob.row 1 Ab) hs),E,q_⟩,E,E⟩
 .have ej:j=by_.length:=qB h;subst ej;rw[yM];refine T ?_;exact Aj 1000 E E0
def Ai2(l:List QueuedM)(by_:List Int)(af at_:Int)(hl:l.length<1000000)(hb:by_.length<1000000):Sp 54 [.sl 7 Bz l,Aa at_,.sl 1 Ab (by_.map λt=>t==af)] (Aa (Ue l by_ af at_)):=cT F54 ntmps54 λF hF=>by
 obtain ⟨v,hv⟩:∃v:Int,(if (l.length:Int)<at_ then (l.length:Int) else at_)=v:=⟨_,rfl⟩
 have lc:v.toNat<=l.length:=by split at hv<;>omega
 have aa:Ue l by_ af at_=((l.take v.toNat).countP λq=>ownB by_ af q.origin:Nat):=by
  unfold Ue;split at hv
  .subst hv;rw[yE,yM,xD z_]
  .rw[hv]
 generalize Ue l by_ af at_=res at *;generalize hk:v.toNat=k at *;refine T ?_;refine A8 k (λj=>[(0,.sl 7 Bz l),(1,Aa at_),(2,.sl 1 Ab (by_.map λt=>t==af)),(7,Aa ((l.take j).countP λq=>ownB by_ af q.origin:Nat)),(8,Aa j)]) (λ_=>[]) [] U ?_;intro j hj;refine T ?_;refine X (Aer hv E E E) ?_;constructor<;>intro h
 .have ab:j<l.length:=qA h;have ak:j<k:=qA h;have hs:=Alc (λq=>ownB by_ af q.origin) l j ab;obtain ⟨q,hq⟩:=kE (l[(j:Int).toNat]'z_);have hq':l[j]=q:=hq;rw[hq']at hs;have hc:=List.countP_le_length (p:=λq=>ownB by_ af q.origin) (l:=l.take j);rw[zW]at hc;have fp:=ownB.eq_1 by_ af q.origin;generalize ownB by_ af q.origin=w at *;refine S ?_;refine⟨E,by omega,by omega,?_⟩;rw[hq];refine T ?_;constructor<;>intro h1
  .refine T ?_;constructor<;>intro h2
   .have h1:=zO h1;have h2:=zO h2;rw[yZ]at h2;have hk:(q.origin-1).toNat<by_.length:=by omega
    rw[Et z_,yD,Ag hk]at fp;have hm:(q.origin-1).toNat<(by_.map λt=>t==af).length:=by rw[yZ];omega
    have he:(by_.map λt=>t==af)[(q.origin-1).toNat]'hm=w:=by rw[List.getElem_map,fp];rfl
    refine T ?_;rw[he];cases w
    .refine T ?_;exact Ax [] ak ⟨⟨E,E,E,E,E,E,zH (λz:Nat=>Aa z) hs,E,E,E,q_⟩,q_,E,E⟩
    .refine T ?_;exact Ax [] ak ⟨⟨E,E,E,E,E,E,zH (λz:Nat=>Aa z) hs,E,E,E,q_⟩,q_,E,E⟩
   .have h1:=zO h1;have h2:=zQ h2;rw[yZ]at h2;rw[Db z_,yC]at fp;subst fp;refine T ?_;exact Ax [] ak ⟨⟨E,E,E,E,E,E,zH (λz:Nat=>Aa z) hs,E,E,E,q_⟩,q_,E,E⟩
  .rw[Db (by have:=zQ h1;omega),yC]at fp;subst fp;refine T ?_;exact Ax [] ak ⟨⟨E,E,E,E,E,E,zH (λz:Nat=>Aa z) hs,E,E,E,q_⟩,q_,E,E⟩
 .have ej:j=k:=qB h;subst ej;subst aa;exact gA
def Awp(n:Net)(m:MacM)(d:Bool)(of by_:List Int)(af:Int):Obs:=[(0,.box (Qn n 1 m.now m.injected m.drops)),(1,.box (Jl n m.up d)),(2,.row 1 Hk m.tables),(3,.row 1 Me m.queues),(10,.box (A11 of af)),(11,.row 1 Aa by_)]
def Ayx(n:Net)(m:MacM)(d:Bool)(of by_:List Int)(af:Int)(x:StepM)(hq:∀dom,Jb (queueL m dom))(hb:by_.length<1000000)(hx1:x.bytes.length<100000)(x5:x.up.length<100000):Sq 25 [.ptr 10 0,.ptr 0 0,Ca x] (Awp n m d of by_ af) (.tup [Ca (keepT of by_ af m x).1,Ab (keepT of by_ af m x).2]) (Awp n m d of by_ af):=cT F25 ntmps25 λF hF=>by
 have aa:=keepT.eq_1 of by_ af m x;generalize keepT of by_ af m x=res at *;refine gB (Li x.bytes z_) F30 (Abj x.up z_) F46 ?_;constructor<;>intro h
 .have h1:x.kind=1:=by simpa using h
  rw[zE h1]at aa;subst aa;have q:=Aea of by_ af x.port;generalize ownerI of x.port=w at *;refine T ?_;refine Xe (Ad [] E F51 q E W E V) ?_;by_cases hw:w=af
  .rw[zK hw,yD];refine⟨λh2=>?_,λh2=>zX (hw:w=af) (kS h2)⟩;refine T ?_;exact E0
  .rw[zL hw,yC];refine⟨λh2=>zX (kS h2) hw,λh2=>?_⟩;refine T ?_;exact E0
 have h1:¬x.kind=1:=kS h;rw[zD h1]at aa;clear h;by_cases h23:x.kind=2\/x.kind=3
 .rw[zE h23]at aa;have zg:=hq x.domain;have q1:Sq 52 [.ptr 0 0,Aa x.domain] (Dq n m d) (.sl 7 Bz (Le m x.domain)) (Dq n m d):=Ads n m d x.domain zg;have hql:(Le m x.domain).length<=64:=by
   unfold Le;split
   .exact zg.1
   .exact xX _
  generalize Le m x.domain=l at *;have q4:=Ayw of by_ af hb;have q5:=Ai2 l by_ af x.at_ z_ hb;refine gL ?_ ?_<;>intro h
  rotate_left;have h2:¬x.kind=2:=kS h;clear h;refine T ?_;rotate_left
  all_goals
   refine T ?_;refine X (Ad [] E F52 q1 E W E V) ?_;constructor<;>intro h
   .have h0:=zO h;rw[Db z_,yC,zD qq]at aa;subst aa;refine T ?_;exact E0
   have h0:=zQ h;refine gL ?_ ?_<;>intro h
   .have h1:=zO h;rw[Db z_,yC,zD qq]at aa;subst aa;refine T ?_;exact E0
   have h1:=zQ h;have ab:x.at_.toNat<l.length:=by omega
   rw[Et z_,yD,zR ab,Option.getD_some]at aa;obtain ⟨q,hqq⟩:=kE (l[x.at_.toNat]'ab);rw[hqq]at aa;have q3:=A10 of by_ af q.origin hb;generalize ownB by_ af q.origin=w at *;refine S ?_;refine⟨E,by omega,ab,?_⟩;rw[hqq];refine T ?_;refine X (Av [] (Aw E E F53) q3 E W E V) ?_;cases w
   .rw[zD qq]at aa;subst aa;refine T ?_;exact E0
   rw[zE rfl]at aa;subst aa;refine T ?_;refine Xe (Ad [] E F55 q4 E W E V) ?_;refine C q5 F54 ?_;exact E0
 .rw[zD h23]at aa;subst aa;refine T ?_;exact E0
structure TabsOK(tabs:List (List EntryM)):Prop where
 few:tabs.length<=60
 tab:∀t∈tabs,t.length<=60
 ok:Ahq tabs
def Aom{tabs:List (List EntryM)}(h:TabsOK tabs)(m:MacM)(j:Nat)(hj:j<tabs.length):Kb m tabs (j+1)=(loadT (Kb m tabs j) j tabs[j]).1:=by
 rw[Kb,aY hj,Sg,zD (by have:=h.tab _ (zI hj);omega)]
def At4{m:MacM}{j:Nat}{t:List EntryM}(h:¬j<m.queues.length):(loadT m j t).1=m:=by
 unfold loadT;rw[zD];intro hc;have:=(placeB_iff.1 hc.1).2;omega
def Uh(n:Net)(hn:n.Fin)(tabs:List (List EntryM))(ar:okB n (Zg n)=false):Sp 23 [Am n,.sl 1 Hk tabs] (.tup [.val (.pointer none),Aa 2]):=cT F23 ntmps23 λF hF=>by
 refine gC (Yl n hn ar) F49 ?_;exact D
def Zo(n:Net)(hn:n.Fin)(tabs:List (List EntryM))(ht:TabsOK tabs)(ar:okB n (Zg n)=true):Sq 23 [Am n,.sl 1 Hk tabs] [] (.tup [.ptr 0 0,Aa 0]) (Dq n (Ik n tabs) false):=cT F23 ntmps23 λF hF=>by
 have q1:=Afz n hn ar;have dy:=To n;unfold Ik;generalize newT n=m0 at *;have so:=ht.few;have j6:=hn.domains;unfold An at j6;refine T ?_;refine X (Ad [(0,800),(1,801),(2,802),(3,803)] E F49 q1 E W E V) ?_;refine Lk 2 902 E E y_ ?_;refine A8 tabs.length (λj=>[(2,.ptr 902 0),(6,.ptr 0 0),(18,.sl 1 Hk tabs),(19,Aa tabs.length),(20,Aa j)]) (λj=>[(0,.box (Qn n 1 (Kb m0 tabs j).now (Kb m0 tabs j).injected (Kb m0 tabs j).drops)),(1,.box (Jl n (Kb m0 tabs j).up false)),(2,.row 1 Hk (Kb m0 tabs j).tables),(3,.row 1 Me (Kb m0 tabs j).queues),(902,.box (C8 n))]) [(0,800),(1,801),(2,802),(3,803)] U ?_;intro j hj;have v8:=Vo dy ht.ok j;refine gL ?_ ?_<;>intro h
 .have ab:j<tabs.length:=qA h;have aj:(j:Int).toNat<tabs.length:=kS ab;obtain ⟨t,dr⟩:=kE (tabs[j]);have e1:tabs[(j:Int).toNat]'aj=t:=dr;have hs:=Aom ht m0 j ab;rw[dr]at hs;have ed:=ht.ok t (by rw[<-dr];exact zI ab);have htt:=ht.tab t (by rw[<-dr];exact zI ab);have d7:=Aie ed.1 htt;have r9:=v8.ques;have q2:=Awo n (Kb m0 tabs j) false j t (by rw[v8.tabs,v8.ques]) d7.short d7.mac;have kq:=At4 (m:=Kb m0 tabs j) (j:=j) (t:=t);rw[<-hs]at q2 kq;clear h;refine S ?_;refine⟨E,by omega,aj,?_⟩;rw[e1];refine gL ?_ ?_<;>intro h
  .refine T ?_;refine X (Ad [] E F50 q2 E W E V) ?_;exact Ax [] ab U
  .have hm:=kq (qB h);refine T ?_;refine Ax [] ab ⟨kA,?_,E,E⟩;dsimp only;rw[hm];exact Uo
 .have ej:j=tabs.length:=qB h;subst ej;refine T ?_;exact E0
def Adq(n:Net)(hn:n.Fin)(bf:n.Num)(tabs:List (List EntryM))(ht:TabsOK tabs)(l:List StepM)(hl:ScriptOK l):Sp 9 [Am n,.sl 1 Hk tabs,.sl 6 Ca l] (.tup [.sl 3 B9 (runTabsT n tabs l).1,Aa (runTabsT n tabs l).2]):=cT F9 ntmps9 λF hF=>by
 have aa:=runTabsT.eq_1 n tabs l;generalize runTabsT n tabs l=res at *;have hlen:=hl.few;cases ar:okB n (Zg n)
 .rw[zD (by rw[ar];simp)]at aa;subst aa;refine gC (Uh n hn tabs ar) F23 ?_;exact Ao 6 3 B9 E D
 .rw[zE ar]at aa;subst aa;have q1:=Zo n hn tabs ht ar;have dy:MacOK n (Ik n tabs) 0 0:=Vo (To n) ht.ok _;generalize Ik n tabs=m0 at *;refine T ?_;refine X (Ad [(0,800),(1,801),(2,802),(3,803)] E F23 q1 E W E V) ?_;refine B6 10 1000 3 B9 E E ?_;refine A8 l.length (λj=>[(8,.ptr 0 0),(10,.osl 1000),(24,.sl 6 Ca l),(25,Aa l.length),(26,Aa j)]) (λj=>runO n (C2 n m0 (l.take j)).1 (runD n m0 false (l.take j)) (C2 n m0 (l.take j)).2) [(0,800),(1,801),(2,802),(3,803)] U ?_;intro j hj;refine gL ?_ ?_<;>intro h
  .have ab:j<l.length:=qA h;have aj:(j:Int).toNat<l.length:=kS ab;obtain ⟨x,dr⟩:=kE (l[j]);have e1:l[(j:Int).toNat]'aj=x:=dr;have hs:=cO n m0 l j ab;have j6:=cP n m0 false l j ab;rw[dr]at hs j6;have uq:=hl.bytes x (by rw[<-dr];exact zI ab);have j7:=lK hn bf (l.take j) dy (xN _) (xN _);have cw:(l.take j).length=j:=by rw[zW];omega
   have hjf:=Zu hn (l.take j) m0;rw[cw]at j7 hjf;have q5:=nR n hn bf (C2 n m0 (l.take j)).1 (runD n m0 false (l.take j)) _ _ j7 z_ z_ z_ x z_;have je:=Aha hn (C2 n m0 (l.take j)).1 x;have g1:(C2 n m0 (l.take (j+1))).1=(doT n (C2 n m0 (l.take j)).1 x).1:=by rw[hs]
   have g2:(C2 n m0 (l.take (j+1))).2=(C2 n m0 (l.take j)).2++(doT n (C2 n m0 (l.take j)).1 x).2:=by rw[hs]
   clear h;refine S ?_;refine⟨E,by omega,aj,?_⟩;rw[e1];refine T ?_;refine X (Ad [(4,33)] E F27 q5 E W E V) ?_;refine X (Ah Γ.toTy 38 E E E E E (.row E) .sl qq z_ z_) ?_;refine Ax [(1,33),(1000,38)] ab ⟨kA,?_,E,E⟩;dsimp only;rw[g1,g2,j6];exact Uo
  .have ej:j=l.length:=qB h;subst ej;rw[yM];clear h;refine T ?_;exact Aj 1000 E D
def ownAt(n:Net)(of:List Int)(i:Nat):Bool:=if (nth n.ports (i:Int)).link<0 then decide (0<=nth of (i:Int))&&decide (nth of (i:Int)<=9) else decide (nth of (i:Int)=-1)
def An0(n:Net)(of:List Int):Hb n of=(decide (of.length=n.ports.length)&&Ac n&&(List.range of.length).all (ownAt n of)):=rfl
def As4{k:Nat}{p:Nat->Bool}(h:∀i,i<k->p i=true):(List.range k).all p=true:=by
 rw[yU];intro i hi;exact h i (xA.1 hi)
def As3{k j:Nat}{p:Nat->Bool}(hj:j<k)(h:p j=false):(List.range k).all p=false:=by
 rw[Bool.eq_false_iff];intro ha;have:=yU.1 ha j (xA.2 hj);rw[h]at this;cases this
def Z6(n:Net)(hn:n.Fin)(of:List Int):Sp 24 [Am n,.sl 1 Aa of] (Ab (Hb n of)):=cT F24 ntmps24 λF hF=>by
 have aa:=An0 n of;generalize Hb n of=res at *;have qr:=A0 n hn;have nh:=hn.ports;unfold An at nh;generalize Ac n=nr at *;refine gL ?_ ?_<;>intro h
 .rw[zL (show ¬of.length=n.ports.length by simp at h;omega),yC,yC]at aa;subst aa;exact gA
 have hlen:of.length=n.ports.length:=by simp at h;omega
 rw[zK hlen,yD]at aa;refine gC qr F39 ?_;cases nr
 .rw[yC]at aa;subst aa;exact gA
 rw[yD]at aa;refine T ?_;refine A7 of.length (λj=>∀i,i<j->ownAt n of i=true) (λj=>[(2,.ptr 2 0),(19,.sl 1 Aa of),(20,Aa of.length),(21,Aa j)]) (λ_=>[(2,.box (C8 n))]) [] (λi hi=>zX hi (Nat.not_lt_zero i)) U ?_;intro j hj hI;refine gL ?_ ?_<;>intro h
 .have ab:j<of.length:=qA h;have aj:(j:Int).toNat<of.length:=kS ab;have mf:(j:Int).toNat<n.ports.length:=by rw[<-hlen];exact aj
  have gh:=ownAt.eq_1 n of j;rw[Ag mf,Ag aj]at gh;obtain ⟨w,hw⟩:=kE (of[(j:Int).toNat]'aj);obtain ⟨p,hp⟩:=kE (n.ports[(j:Int).toNat]'mf);rw[hw,hp]at gh;have bad:ownAt n of j=false->res=false:=λhb=>by rw[aa];exact As3 ab hb
  have good:ownAt n of j=true->∀i,i<j+1->ownAt n of i=true:=λhb i hi=>by
   by_cases he:i=j
   .subst he;exact hb
   .exact hI i z_
  generalize ownAt n of j=g at *;clear h;refine S ?_;refine⟨E,by omega,aj,?_⟩;rw[hw];refine S ?_;refine⟨E,by omega,mf,?_⟩;rw[hp];refine T ?_;constructor<;>intro h1
  .have hl:=zO h1;rw[zD z_]at gh;refine T ?_;constructor<;>intro h2
   .have hr:=bad (by rw[gh];simp at h2;simp;omega);subst hr;exact gA
   .have hx:=good (by rw[gh];simp at h2;simp;omega);refine T ?_;refine A6 [] hI ab hx ?_;exact U
  .have hl:=zQ h1;rw[zE z_,<-Bool.decide_and]at gh;refine T ?_;constructor<;>intro h2
   .have hr:=bad (by rw[gh];exact zL (by have:=zO h2;omega));subst hr;exact gA
   refine T ?_;constructor<;>intro h3
   .have hr:=bad (by rw[gh];exact zL (by have:=zO h3;omega));subst hr;exact gA
   have hx:=good (by rw[gh];exact zK (by have:=zQ h2;have:=zQ h3;omega));refine T ?_;refine A6 [] hI ab hx ?_;exact U
 .have ej:j=of.length:=qB h;subst ej;have hr:res=true:=by rw[aa];exact As4 hI
  subst hr;exact gA
def redO(n:Net)(of:List Int)(af:Int)(m:MacM)(d:Bool)(by_:List Int)(out:List StepM):Obs :=
 [(0,.box (Qn n 1 m.now m.injected m.drops)),(1,.box (Jl n m.up d)),(2,.row 1 Hk m.tables),(3,.row 1 Me m.queues),(10,.box (A11 of af)),(11,.row 1 Aa by_),(1000,.row 6 Ca out)]
def Afw(n:Net)(hn:n.Fin)(bf:n.Num)(of:List Int)(tabs:List (List EntryM))(ht:TabsOK tabs)(l:List StepM)(hl:ScriptOK l)(hu:∀x∈l,x.up.length<100000)(af:Int):Sp 8 [Am n,.sl 1 Aa of,.sl 1 Hk tabs,.sl 6 Ca l,Aa af] (.tup [.sl 6 Ca (reduceT n of tabs l af).1,Aa (reduceT n of tabs l af).2]):=cT F8 ntmps8 λF hF=>by
 have aa:=reduceT.eq_1 n of tabs l af;generalize reduceT n of tabs l af=res at *;have hlen:=hl.few;cases ar:okB n (Zg n)
 .rw[zD (by rw[ar];simp)]at aa;subst aa;refine gC (Uh n hn tabs ar) F23 ?_;exact Ao 10 6 Ca E D
 have q1:=Zo n hn tabs ht ar;have q2:=Z6 n hn of;have dy:MacOK n (Ik n tabs) 0 0:=Vo (To n) ht.ok _;generalize Ik n tabs=m0 at *;refine T ?_;refine X (Ad [(0,800),(1,801),(2,802),(3,803)] E F23 q1 E W E V) ?_;refine C q2 F24 ?_;cases how:Hb n of
 .rw[zD (by rw[how];simp)]at aa;subst aa;refine T ?_;exact Ao 10 6 Ca E D
 rw[zE ⟨ar,how⟩]at aa;subst aa;refine T ?_;refine B6 15 1000 6 Ca E E (O1 37 2 1001 1 Aa E E E E ?_);refine A8 l.length (λj=>[(12,.ptr 0 0),(14,.ptr 10 0),(15,.osl 1000),(38,.sl 6 Ca l),(39,Aa l.length),(40,Aa j)]) (λj=>redO n of af (C2 n m0 (l.take j)).1 (runD n m0 false (l.take j)) (byL of [] (l.take j)) (Sb n of af m0 [] (l.take j))) [(0,800),(1,801),(2,802),(3,803),(10,37),(11,1001)] U ?_;intro j hj;refine gL ?_ ?_<;>intro h
 .have ab:j<l.length:=qA h;have aj:(j:Int).toNat<l.length:=kS ab;obtain ⟨x,dr⟩:=kE (l[j]);have e1:l[(j:Int).toNat]'aj=x:=dr;have hs:=cO n m0 l j ab;have j6:=cP n m0 false l j ab;have vj:=Az5 of [] l j ab;have ov:=As2 n of af m0 [] l j ab;rw[dr]at hs j6 vj ov;have uq:=hl.bytes x (by rw[<-dr];exact zI ab);have hxu:=hu x (by rw[<-dr];exact zI ab);have j7:=lK hn bf (l.take j) dy (xN _) (xN _);have cw:(l.take j).length=j:=by rw[zW];omega
  have j4:=Arm of (l.take j) [];have tu:=oC n of af (l.take j) m0 [];rw[cw]at j7 j4 tu;rw[xK]at j4;have q5:=nR n hn bf (C2 n m0 (l.take j)).1 (runD n m0 false (l.take j)) _ _ j7 z_ z_ z_ x z_;have g1:(C2 n m0 (l.take (j+1))).1=(doT n (C2 n m0 (l.take j)).1 x).1:=by rw[hs]
  have q3:=Ayx n (C2 n m0 (l.take j)).1 (runD n m0 false (l.take j)) of (byL of [] (l.take j)) af x (λdom=>Ie j7 dom) z_ z_ hxu;have q4:=Ayv of (byL of [] (l.take j)) af x.port z_;have lc:Aal of (byL of [] (l.take j)) af (C2 n m0 (l.take j)).1 x=if (keepT of (byL of [] (l.take j)) af (C2 n m0 (l.take j)).1 x).2=true then [(keepT of (byL of [] (l.take j)) af (C2 n m0 (l.take j)).1 x).1] else []:=rfl
  generalize keepT of (byL of [] (l.take j)) af (C2 n m0 (l.take j)).1 x=yb at *;obtain ⟨y,b⟩:=yb;have d6:=byStep.eq_1 of (byL of [] (l.take j)) x;clear h hs;refine S ?_;refine⟨E,by omega,aj,?_⟩;rw[e1];refine T ?_;refine X (Ad [] E F25 q3 E W E V) ?_;cases b
  .rw[lc,zD qq,xG]at ov;refine gL ?_ ?_<;>intro h
   .rw[zE (kS h)]at d6;refine T ?_;refine X (Ad [(12,62)] E F26 q4 E W E V) ?_;refine X (Ad [(4,65)] E F27 q5 E W E V) ?_;refine Ax [(1,65),(11,62)] ab ⟨kA,?_,E,E⟩;dsimp only;rw[g1,j6,vj,ov,d6];exact Uo
   .rw[zD (kS h)]at d6;refine T ?_;refine X (Ad [(4,65)] E F27 q5 E W E V) ?_;refine Ax [(1,65)] ab ⟨kA,?_,E,E⟩;dsimp only;rw[g1,j6,vj,ov,d6];exact Uo
  .rw[lc,zE rfl]at ov;refine T ?_;refine X (Ah Γ.toTy 55 rfl rfl rfl rfl rfl (.row rfl) (.lit (e:=Ca) (l:=[y]) rfl rfl) (λj hj=>by cases hj;decide) kO kO) ?_;constructor<;>intro h
   .rw[zE (kS h)]at d6;refine T ?_;refine X (Ad [(12,62)] E F26 q4 E W E V) ?_;refine X (Ad [(4,65)] E F27 q5 E W E V) ?_;refine Ax [(1,65),(11,62),(1000,55)] ab ⟨kA,?_,E,E⟩;dsimp only;rw[g1,j6,vj,ov,d6];exact Uo
   .rw[zD (kS h)]at d6;refine T ?_;refine X (Ad [(4,65)] E F27 q5 E W E V) ?_;refine Ax [(1,65),(1000,55)] ab ⟨kA,?_,E,E⟩;dsimp only;rw[g1,j6,vj,ov,d6];exact Uo
 .have ej:j=l.length:=qB h;subst ej;rw[yM];refine T ?_;exact Aj 1000 E D
structure SeensOK(l:List SeenM):Prop where
 few:l.length<=1000000000000
 bytes:∀x∈l,x.bytes.length<=2000
def viewX(of:List Int)(af:Int)(x:SeenM):List SeenM:=if (Af x.port of.length&&decide (nth of x.port=af))=true then [⟨x.port,0,x.bytes⟩] else []
def Ama(of:List Int)(af:Int)(l:List SeenM)(j:Nat)(hj:j<l.length):Ed (l.take (j+1)) of af=Ed (l.take j) of af++viewX of af l[j]:=by
 unfold Ed viewX;rw[yA hj,List.filter_append,xY];congr 1;by_cases h:(Af l[j].port of.length&&decide (nth of l[j].port=af))=true
 .rw[zE h,tF (p:=λx:SeenM=>Af x.port of.length&&decide (nth of x.port=af)) h];rfl
 .rw[zD h,tG (p:=λx:SeenM=>Af x.port of.length&&decide (nth of x.port=af)) h];rfl
def Ade(of:List Int)(af:Int)(l:List SeenM):(Ed l of af).length<=l.length:=by
 unfold Ed;rw[yZ];exact tR _ _
def nP(l:List SeenM)(hl:SeensOK l)(of:List Int)(af:Int):Sp 11 [.sl 3 B9 l,.sl 1 Aa of,Aa af] (.sl 3 B9 (Ed l of af)):=cT F11 ntmps11 λF hF=>by
 have hlen:=hl.few;refine T ?_;refine B6 7 1000 3 B9 E E ?_;refine A8 l.length (λj=>[(1,.sl 1 Aa of),(2,Aa af),(7,.osl 1000),(10,.sl 3 B9 l),(11,Aa l.length),(12,Aa j)]) (λj=>[(1000,.row 3 B9 (Ed (l.take j) of af))]) [] U ?_;intro j hj;refine gL ?_ ?_<;>intro h
 .have ab:j<l.length:=qA h;have aj:(j:Int).toNat<l.length:=kS ab;obtain ⟨x,dr⟩:=kE (l[j]);have e1:l[(j:Int).toNat]'aj=x:=dr;have hs:=Ama of af l j ab;have gl:=Ade of af (l.take j);rw[zW]at gl;have uq:=hl.bytes x (by rw[<-dr];exact zI ab);rw[dr]at hs;have hv:=viewX.eq_1 of af x;generalize viewX of af x=v at *;clear h;refine S ?_;refine⟨E,by omega,aj,?_⟩;rw[e1];refine T ?_;constructor<;>intro h1
  .have h1:=zO h1;refine T ?_;constructor<;>intro h2
   .have h2:=zO h2;have hk:x.port.toNat<of.length:=by omega
    rw[Et z_,yD,Ag hk]at hv;refine T ?_;constructor<;>intro h3
    .rw[zE (zK (kS h3))]at hv;subst hv;refine gC (Li x.bytes z_) F30 ?_;refine Xd (Ah Γ.toTy 43 rfl rfl rfl rfl rfl (.row rfl) (.lit (e:=B9) (l:=[⟨x.port,0,x.bytes⟩]) rfl rfl) (λj hj=>by cases hj;decide) kO kO) ?_;refine Ax [(1000,43)] ab ⟨kA,⟨.inl (zH (Ob.row 3 B9) hs),E,q_⟩,E,E⟩
    .rw[zD (kS h3),]at hv;subst hv;rw[xG]at hs;refine T ?_;refine Ax [] ab ⟨kA,⟨.inl (zH (Ob.row 3 B9) hs),E,q_⟩,E,E⟩
   .rw[Db (by have:=zQ h2;omega),yC,zD qq]at hv;subst hv;rw[xG]at hs;refine T ?_;refine Ax [] ab ⟨kA,⟨.inl (zH (Ob.row 3 B9) hs),E,q_⟩,E,E⟩
  .rw[Db (by have:=zQ h1;omega),yC,zD qq]at hv;subst hv;rw[xG]at hs;refine T ?_;refine Ax [] ab ⟨kA,⟨.inl (zH (Ob.row 3 B9) hs),E,q_⟩,E,E⟩
 .have ej:j=l.length:=qB h;subst ej;rw[yM];refine T ?_;exact Aj 1000 E D
def great34B(n:Net)(tabs:List (List EntryM))(l:List StepM):Bool:=K1 n||great33B l||decide (60<tabs.length)||tabs.any λt=>decide (60<t.length)
def Acv{n:Net}{tabs:List (List EntryM)}{l:List StepM}(h:great34B n tabs l=false):K1 n=false/\great33B l=false/\tabs.length<=60/\∀t∈tabs,t.length<=60:=by
 unfold great34B at h;simp only[wG,zY,wK,zJ]at h;exact⟨h.1.1.1,h.1.1.2,by omega,λt ht=>by have:=h.2 t ht;omega⟩
def Azc(n:Net)(tabs:List (List EntryM))(l:List StepM):Sp 6 [Am n,.sl 1 Hk tabs,.sl 6 Ca l] (Ab (great34B n tabs l)):=cT F6 ntmps6 λF hF=>by
 have aa:=great34B.eq_1 n tabs l;generalize great34B n tabs l=res at *;have q1:=greatS n;have q2:=Azd l;generalize K1 n=a at *;generalize great33B l=b at *;refine gC q1 F21 ?_;cases a;rotate_left
 .simp only[vG]at aa;subst aa;exact gA
 refine gC q2 F22 ?_;cases b;rotate_left
 .simp only[vG,Bool.or_true]at aa;subst aa;exact gA
 simp only[vY]at aa;refine gL ?_ ?_<;>intro h
 .rw[zK (qA h),vG]at aa;subst aa;exact gA
 have h1:=zQ h;rw[zL z_,vY]at aa;refine T ?_;refine A7 tabs.length (λj=>Ek (λ_ t=>!(decide (60<t.length))) tabs j) (λj=>[(1,.sl 1 Hk tabs),(7,Aa j)]) (λ_=>[]) [] (Bh _ _) U ?_;intro j hj hI;refine gL ?_ ?_<;>intro h
 .have ab:j<tabs.length:=qA h;have aj:(j:Int).toNat<tabs.length:=kS ab;have gh:=λh=>@any_at3 _ (λt:List EntryM=>decide (60<t.length)) tabs j ab h
  have eo:=λh=>Bc (p:=λ_ (t:List EntryM)=>!(decide (60<t.length))) hI ab h
  obtain ⟨x,hx⟩:=kE (tabs[(j:Int).toNat]'aj);have uz:tabs[j]=x:=hx;rw[uz]at gh eo;refine S ?_;refine⟨E,by omega,aj,?_⟩;rw[hx];refine gL ?_ ?_<;>intro h
  .rw[gh (zK (qA h))]at aa;subst aa;exact gA
  .have hn:=eo (by rw[zL (qB h)];rfl);refine T ?_;refine A6 [] hI ab hn ?_;exact U
 .rw[Aff hI (qB h)]at aa;subst aa;exact gA
def Ail{l l2:List StepM}(h:ScriptOK l)(hu:∀x∈l,x.up.length<100000)(hl:l2.length<=l.length)(hm:∀y∈l2,∃x∈l,y.bytes=x.bytes/\y.up=x.up):ScriptOK l2/\∀x∈l2,x.up.length<100000:=by
 refine⟨⟨by have:=h.few;omega,λy hy=>?_⟩,λy hy=>?_⟩
 .obtain ⟨x,hx,e1,_⟩:=hm y hy;rw[e1];exact h.bytes x hx
 .obtain ⟨x,hx,_,e2⟩:=hm y hy;rw[e2];exact hu x hx
end Go.Sy.Zaa
