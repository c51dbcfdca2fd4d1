/- Parts of a proof. -/
import Derived.Test.YtodbnbfjhjcanaaGreatDoorXB23
set_option maxHeartbeats 4000000
set_option linter.all false
namespace Go.Sy.Zaa
open Go.Proofs Go.Proofs.Tryz
section
def Jf(n:Net)(tabs:List (List EntryM)):MacM:=Kl (newT n) tabs tabs.length
def runTabsT(n:Net)(tabs:List (List EntryM))(l:List StepM):List SeenM×Int:=if okB n (Aat n)=true then ((Dn n (Jf n tabs) l).2,0) else ([],2)
def Ey(n:Net)(of:List Int):Bool :=
 decide (of.length=n.ports.length)&&Ac n&&(List.range of.length).all λi=>if (nth n.ports (i:Int)).link<0 then decide (0<=nth of (i:Int))&&decide (nth of (i:Int)<=9) else decide (nth of (i:Int)=-1)
def Hu(m:MacM):Prop:=0<=m.injected/\∀l∈m.queues,∀q∈l,1<=q.origin/\q.origin<=m.injected
def Zy{m:MacM}(h:Hu m)(dom:Int):∀q∈queueL m dom,1<=q.origin/\q.origin<=m.injected:=by
 intro q hq;unfold queueL at hq;by_cases hd:dom.toNat<m.queues.length
 .exact h.2 _ (Ti hd) q hq
 .rw[wK q_]at hq;cases hq
def Ali{m:MacM}(h:Hu m)(dom:Int){l:List QueuedM}(hl:∀q∈l,1<=q.origin/\q.origin<=m.injected):Hu (setQ m dom l):=by
 refine⟨h.1,λx hx=>?_⟩;rcases cF hx with rfl|hx
 .exact hl
 .exact h.2 x hx
def Abz{m:MacM}(h:Hu m)(dom at_:Int):Hu (takeM m dom at_).1/\(takeM m dom at_).1.injected=m.injected/\((takeM m dom at_).2.2=true->1<=(takeM m dom at_).2.1.origin/\(takeM m dom at_).2.1.origin<=m.injected):=by
 have hq:=Zy h dom;unfold takeM;split
 .exact⟨h,rfl,λh=>by cases h⟩
 .refine⟨Ali h dom λq hm=>?_,E,λht=>?_⟩
  .unfold takeT at hm;split at hm
   .exact hq q hm
   .exact hq q (uT hm)
  .dsimp only at ht|-;unfold takeT at ht|-;split at ht
   .cases ht
   .rename_i hc;rw[zD hc];exact hq _ (Ti q_)
def bX{m:MacM}(h:Hu m)(dom:Int){q:QueuedM}(hq:1<=q.origin/\q.origin<=m.injected)(e:Int):Hu (comeM m dom q e)/\(comeM m dom q e).injected=m.injected:=by
 unfold comeM;split
 .exact⟨h,E⟩
 split
 .refine⟨Ali h dom λx hx=>?_,E⟩;unfold pushT at hx;split at hx
  .exact Zy h dom x hx
  .rcases yH.1 hx with hx|hx
   .exact Zy h dom x hx
   .rw[zX.1 hx];exact hq
 .exact⟨h,E⟩
def A0h{n:Net}{m:MacM}(h:Hu m)(o:OutM){org:Int}(ho:1<=org/\org<=m.injected):Hu (goesM n m o org).1/\(goesM n m o org).1.injected=m.injected:=by
 unfold goesM;split
 .exact⟨h,E⟩
 split
 .exact bX h _ ho _
 split
 .exact bX h _ ho _
 split
 .exact bX h _ ho _
 .exact⟨h,E⟩
def Afz{n:Net}{org:Int}:∀(l:List OutM) {m:MacM},Hu m->(1<=org/\org<=m.injected)->Hu (goesL n m org l).1/\(goesL n m org l).1.injected=m.injected
 |[],m,h,_=>⟨h,rfl⟩
 |o::l,m,h,ho=>by
  rw[goesL];have h1:=A0h (n:=n) h o ho;have h2:=Afz (n:=n) (org:=org) l h1.1 (by rw[h1.2];exact ho);exact⟨h2.1,by rw[h2.2,h1.2]⟩
def Awa{m:MacM}(h:Hu m)(dom:Int)(r:List EntryM×List OutM×Int):Hu (O2 m dom r)/\(O2 m dom r).injected=m.injected:=by
 unfold O2;split
 .exact⟨h,E⟩
 split
 .exact⟨h,E⟩
 .exact⟨h,E⟩
def A0g{n:Net}{m:MacM}(h:Hu m)(dom at_:Int):Hu (pickT n m dom at_).1/\(pickT n m dom at_).1.injected=m.injected:=by
 have h1:=Abz h dom at_;unfold pickT;split
 .exact⟨h1.1,h1.2.1⟩
 .rename_i hc;have h2:=Awa h1.1 dom (Wc n (takeM m dom at_).1 dom (takeM m dom at_).2.1);have ht:=h1.2.2 (kS hc);have h3:=Afz (n:=n) (org:=(takeM m dom at_).2.1.origin) (Wc n (takeM m dom at_).1 dom (takeM m dom at_).2.1).2.1 h2.1 (by rw[h2.2,h1.2.1];exact ht);exact⟨h3.1,by rw[h3.2,h2.2,h1.2.1]⟩
def Aqm{n:Net}{m:MacM}(h:Hu m)(port:Int)(b:List UInt8)(hp:Ag port n.ports.length=true)(hl:(nth n.ports port).link<0):Hu (injectT n m port b)/\(injectT n m port b).injected=m.injected+1:=by
 unfold injectT;rw[zD (by rw[hp];simp;exact hl)];have h0:Hu ⟨m.up,m.tables,m.queues,m.now,m.injected+1,m.drops⟩:=⟨by have:=h.1;dsimp only;omega,λl hl q hq=>by have:=h.2 l hl q hq;dsimp only;omega⟩
 exact bX h0 _ ⟨by have:=h.1;dsimp only;omega,xZ _⟩ _
def oU{n:Net}{m:MacM}(port:Int)(b:List UInt8)(hp:¬(Ag port n.ports.length=true/\(nth n.ports port).link<0)):injectT n m port b=m:=by
 unfold injectT;rw[zE];by_cases h:Ag port n.ports.length=true
 .exact .inr (Int.not_lt.1 λx=>hp ⟨h,x⟩)
 .exact .inl (kS h)
def Lz(n:Net)(x:StepM):Int:=if x.kind=1/\Ag x.port n.ports.length=true/\(nth n.ports x.port).link<0 then 1 else 0
def At5{n:Net}{m:MacM}(h:Hu m)(x:StepM):Hu (doT n m x).1/\(doT n m x).1.injected=m.injected+Lz n x:=by
 unfold doT;by_cases hk:x.kind=1
 .rw[zE hk];unfold Lz;by_cases hc:Ag x.port n.ports.length=true/\(nth n.ports x.port).link<0
  .rw[zE ⟨hk,hc⟩];exact Aqm h _ _ hc.1 hc.2
  .rw[zD (λh=>hc h.2),oU _ _ hc];exact⟨h,by simp⟩
 rw[zD hk];have h0:Lz n x=0:=by unfold Lz;rw[zD (λh=>hk h.1)]
 rw[h0,Int.add_zero];split
 .exact A0g h _ _
 split
 .have:=Abz h x.domain x.at_;exact⟨this.1,this.2.1⟩
 split
 .exact⟨h,E⟩
 split
 .split
  .exact⟨h,E⟩
  .exact⟨h,E⟩
 .exact⟨h,E⟩
def Xu{n:Net}{of:List Int}(h:Ey n of=true):of.length=n.ports.length/\Ac n=true/\∀p,Ag p of.length=true->(if (nth n.ports p).link<0 then 0<=nth of p/\nth of p<=9 else nth of p=-1):=by
 unfold Ey at h;simp only[zG,zJ,yT,yV]at h;refine⟨h.1.1,h.1.2,λp hp=>?_⟩;have hp:=Ch hp;have:=h.2 p.toNat q_;rw[show ((p.toNat:Nat):Int)=p by omega]at this;split at this
 .rename_i hc;rw[zE hc];simpa using this
 .rename_i hc;rw[zD hc];simpa using this
def A0w(n:Net):Hu (newT n):=by
 refine⟨by simp[newT],λl hl q hq=>?_⟩;have:l=[]:=(List.mem_replicate.1 hl).2;rw[this]at hq;cases hq
def Af6{m:MacM}(h:Hu m)(tabs:List (List EntryM)):∀j,Hu (Kl m tabs j)/\(Kl m tabs j).injected=m.injected
 |0=>⟨h,rfl⟩
 |j+1=>by
  have ih:=Af6 h tabs j;rw[Kl];unfold S8;split
  .exact ih
  .unfold loadT;split
   .exact ih
   .exact ih
def Azp(x y:StepM):Prop:=y.kind=x.kind/\y.port=x.port/\y.domain=x.domain/\y.bytes=x.bytes/\y.up.length=x.up.length
instance (x y:StepM):Decidable (Azp x y):=by unfold Azp;infer_instance
def A53(l:List StepM)(x:StepM)(k:Nat):Prop:=∃h:k<l.length,Azp x l[k]/\0<=l[k].at_/\l[k].at_<=x.at_
instance (l:List StepM)(x:StepM)(k:Nat):Decidable (A53 l x k):=by unfold A53;infer_instance
attribute [local irreducible]G DR
set_option maxRecDepth 100000
structure TabsOK(tabs:List (List EntryM)):Prop where
 few:tabs.length<=60
 tab:∀t∈tabs,t.length<=60
 ok:Asv tabs
def Aq1{tabs:List (List EntryM)}(h:TabsOK tabs)(m:MacM)(j:Nat)(hj:j<tabs.length):Kl m tabs (j+1)=(loadT (Kl m tabs j) j tabs[j]).1:=by
 rw[Kl,dA hj,S8,zD (by have:=h.tab _ (zI hj);omega)]
def Awy{m:MacM}{j:Nat}{t:List EntryM}(h:¬j<m.queues.length):(loadT m j t).1=m:=by
 unfold loadT;rw[zD];intro hc;have:=(placeB_iff.1 hc.1).2;omega
def oR(n:Net)(hn:n.Fin)(tabs:List (List EntryM))(aq:okB n (Aat n)=false):Sp 23 [Am n,.sl 1 Hp tabs] (.tup [.val (.pointer none),Aa 2]):=cT F23 ntmps23 λF hF=>by
 refine gC (Aa5 n hn aq) F49 ?_;exact D
def Ahx(n:Net)(hn:n.Fin)(tabs:List (List EntryM))(ht:TabsOK tabs)(aq:okB n (Aat n)=true):Sq 23 [Am n,.sl 1 Hp tabs] [] (.tup [.ptr 0 0,Aa 0]) (D1 n (Jf n tabs) false):=cT F23 ntmps23 λF hF=>by
 have q1:=As6 n hn aq;have d9:=Aah n;unfold Jf;generalize newT n=m0 at *;have sh:=ht.few;have tx:=hn.domains;unfold An at tx;refine T ?_;refine X (Ad [(0,800),(1,801),(2,802),(3,803)] E F49 q1 E W E V) ?_;refine L2 2 902 E E j_ ?_;refine Bg tabs.length (λj=>[(2,.ptr 902 0),(6,.ptr 0 0),(18,.sl 1 Hp tabs),(19,Aa tabs.length),(20,Aa j)]) (λj=>[(0,.box (T1 n 1 (Kl m0 tabs j).now (Kl m0 tabs j).injected (Kl m0 tabs j).drops)),(1,.box (K4 n (Kl m0 tabs j).up false)),(2,.row 1 Hp (Kl m0 tabs j).tables),(3,.row 1 Q1 (Kl m0 tabs j).queues),(902,.box (Dc n))]) [(0,800),(1,801),(2,802),(3,803)] U ?_;intro j hj;have wx:=Aca d9 ht.ok j;refine gN ?_ ?_<;>intro h
 .have ab:j<tabs.length:=qA h;have ai:(j:Int).toNat<tabs.length:=kS ab;obtain ⟨t,dx⟩:=kE (tabs[j]);have e1:tabs[(j:Int).toNat]'ai=t:=dx;have hs:=Aq1 ht m0 j ab;rw[dx]at hs;have ep:=ht.ok t (by rw[<-dx];exact zI ab);have htt:=ht.tab t (by rw[<-dx];exact zI ab);have dr:=Akj ep.1 htt;have sx:=wx.ques;have q2:=Azk n (Kl m0 tabs j) false j t (by rw[wx.tabs,wx.ques]) dr.short dr.mac;have lh:=Awy (m:=Kl m0 tabs j) (j:=j) (t:=t);rw[<-hs]at q2 lh;clear h;refine S ?_;refine⟨E,by omega,ai,?_⟩;rw[e1];refine gN ?_ ?_<;>intro h
  .refine T ?_;refine X (Ad [] E F50 q2 E W E V) ?_;exact Az [] ab U
  .have hm:=lh (qB h);refine T ?_;refine Az [] ab ⟨kA,?_,E,E⟩;dsimp only;rw[hm];exact Uo
 .have gl:j=tabs.length:=qB h;subst gl;refine T ?_;exact E0
def Au7(n:Net)(hn:n.Fin)(bj:n.Num)(tabs:List (List EntryM))(ht:TabsOK tabs)(l:List StepM)(hl:ScriptOK l):Sp 9 [Am n,.sl 1 Hp tabs,.sl 6 Bp l] (.tup [.sl 3 En (runTabsT n tabs l).1,Aa (runTabsT n tabs l).2]):=cT F9 ntmps9 λF hF=>by
 have aa:=runTabsT.eq_1 n tabs l;generalize runTabsT n tabs l=res at *;have hlen:=hl.few;cases aq:okB n (Aat n)
 .rw[zD (by rw[aq];simp)]at aa;subst aa;refine gC (oR n hn tabs aq) F23 ?_;exact Ao 6 3 En E D
 .rw[zE aq]at aa;subst aa;have q1:=Ahx n hn tabs ht aq;have d9:MacOK n (Jf n tabs) 0 0:=Aca (Aah n) ht.ok _;generalize Jf n tabs=m0 at *;refine T ?_;refine X (Ad [(0,800),(1,801),(2,802),(3,803)] E F23 q1 E W E V) ?_;refine Ca 10 1000 3 En E E ?_;refine Bg l.length (λj=>[(8,.ptr 0 0),(10,.osl 1000),(24,.sl 6 Bp l),(25,Aa l.length),(26,Aa j)]) (λj=>runO n (Dn n m0 (l.take j)).1 (runD n m0 false (l.take j)) (Dn n m0 (l.take j)).2) [(0,800),(1,801),(2,802),(3,803)] U ?_;intro j hj;refine gN ?_ ?_<;>intro h
  .have ab:j<l.length:=qA h;have ai:(j:Int).toNat<l.length:=kS ab;obtain ⟨x,dx⟩:=kE (l[j]);have e1:l[(j:Int).toNat]'ai=x:=dx;have hs:=Avn n m0 l j ab;have tx:=Avo n m0 false l j ab;rw[dx]at hs tx;have yk:=hl.bytes x (by rw[<-dx];exact zI ab);have rz:=Ata hn bj (l.take j) d9 (xZ _) (xZ _);have dq:(l.take j).length=j:=by rw[zY];omega
   have hjf:=Abe hn (l.take j) m0;rw[dq]at rz hjf;have q5:=Aps n hn bj (Dn n m0 (l.take j)).1 (runD n m0 false (l.take j)) _ _ rz q_ q_ q_ x q_;have gd:=At6 hn (Dn n m0 (l.take j)).1 x;have g1:(Dn n m0 (l.take (j+1))).1=(doT n (Dn n m0 (l.take j)).1 x).1:=by rw[hs]
   have g2:(Dn n m0 (l.take (j+1))).2=(Dn n m0 (l.take j)).2++(doT n (Dn n m0 (l.take j)).1 x).2:=by rw[hs]
   clear h;refine S ?_;refine⟨E,by omega,ai,?_⟩;rw[e1];refine T ?_;refine X (Ad [(4,33)] E F27 q5 E W E V) ?_;refine X (Ah Γ.toTy 38 E E E E E (.row E) .sl y_ q_ q_) ?_;refine Az [(1,33),(1000,38)] ab ⟨kA,?_,E,E⟩;dsimp only;rw[g1,g2,tx];exact Uo
  .have gl:j=l.length:=qB h;subst gl;rw[yN];clear h;refine T ?_;exact Ai 1000 E D
def ownAt(n:Net)(of:List Int)(i:Nat):Bool:=if (nth n.ports (i:Int)).link<0 then decide (0<=nth of (i:Int))&&decide (nth of (i:Int)<=9) else decide (nth of (i:Int)=-1)
def Aqi(n:Net)(of:List Int):Ey n of=(decide (of.length=n.ports.length)&&Ac n&&(List.range of.length).all (ownAt n of)):=rfl
def Avw{k:Nat}{p:Nat->Bool}(h:∀i,i<k->p i=true):(List.range k).all p=true:=by
 rw[yT];intro i hi;exact h i (yV.1 hi)
def Avv{k j:Nat}{p:Nat->Bool}(hj:j<k)(h:p j=false):(List.range k).all p=false:=by
 rw[Bool.eq_false_iff];intro ha;have:=yT.1 ha j (yV.2 hj);rw[h]at this;cases this
def bV(n:Net)(hn:n.Fin)(of:List Int):Sp 24 [Am n,.sl 1 Aa of] (Ab (Ey n of)):=cT F24 ntmps24 λF hF=>by
 have aa:=Aqi n of;generalize Ey n of=res at *;have qr:=A2 n hn;have ov:=hn.ports;unfold An at ov;generalize Ac n=nr at *;refine gN ?_ ?_<;>intro h
 .rw[zK (show ¬of.length=n.ports.length by simp at h;omega),yF,yF]at aa;subst aa;exact gA
 have hlen:of.length=n.ports.length:=by simp at h;omega
 rw[zL hlen,yG]at aa;refine gC qr F39 ?_;cases nr
 .rw[yF]at aa;subst aa;exact gA
 rw[yG]at aa;refine T ?_;refine Ba of.length (λj=>∀i,i<j->ownAt n of i=true) (λj=>[(2,.ptr 2 0),(19,.sl 1 Aa of),(20,Aa of.length),(21,Aa j)]) (λ_=>[(2,.box (Dc n))]) [] (λi hi=>yA hi (Nat.not_lt_zero i)) U ?_;intro j hj hI;refine gN ?_ ?_<;>intro h
 .have ab:j<of.length:=qA h;have ai:(j:Int).toNat<of.length:=kS ab;have mq:(j:Int).toNat<n.ports.length:=by rw[<-hlen];exact ai
  have gy:=ownAt.eq_1 n of j;rw[Ae mq,Ae ai]at gy;obtain ⟨w,hw⟩:=kE (of[(j:Int).toNat]'ai);obtain ⟨p,hp⟩:=kE (n.ports[(j:Int).toNat]'mq);rw[hw,hp]at gy;have bad:ownAt n of j=false->res=false:=λhb=>by rw[aa];exact Avv ab hb
  have good:ownAt n of j=true->∀i,i<j+1->ownAt n of i=true:=λhb i hi=>by
   by_cases he:i=j
   .subst he;exact hb
   .exact hI i q_
  generalize ownAt n of j=g at *;clear h;refine S ?_;refine⟨E,by omega,ai,?_⟩;rw[hw];refine S ?_;refine⟨E,by omega,mq,?_⟩;rw[hp];refine T ?_;constructor<;>intro h1
  .have hl:=zO h1;rw[zD q_]at gy;refine T ?_;constructor<;>intro h2
   .have hr:=bad (by rw[gy];simp at h2;simp;omega);subst hr;exact gA
   .have hx:=good (by rw[gy];simp at h2;simp;omega);refine T ?_;refine A8 [] hI ab hx ?_;exact U
  .have hl:=zT h1;rw[zE q_,<-Bool.decide_and]at gy;refine T ?_;constructor<;>intro h2
   .have hr:=bad (by rw[gy];exact zK (by have:=zO h2;omega));subst hr;exact gA
   refine T ?_;constructor<;>intro h3
   .have hr:=bad (by rw[gy];exact zK (by have:=zO h3;omega));subst hr;exact gA
   have hx:=good (by rw[gy];exact zL (by have:=zT h2;have:=zT h3;omega));refine T ?_;refine A8 [] hI ab hx ?_;exact U
 .have gl:j=of.length:=qB h;subst gl;have hr:res=true:=by rw[aa];exact Avw hI
  subst hr;exact gA
end
section
def SeenOK(n:Net)(k:Int)(x:SeenM):Prop:=Ag x.port n.ports.length=true/\(nth n.ports x.port).link<0/\1<=x.origin/\x.origin<=k
def OutP(n:Net)(o:OutM):Prop:=o.kind=1->Ag o.port n.ports.length=true/\(nth n.ports o.port).link<0
theorem SeenOK.mono{n:Net}{k k':Int}{x:SeenM}(h:SeenOK n k x)(hk:k<=k'):SeenOK n k' x:=⟨h.1,h.2.1,h.2.2.1,by have:=h.2.2.2;omega⟩
def A0e(n:Net)(dom:Int)(f:FrameM)(p:Int):OutP n (Si n dom f p):=by
 intro h;unfold Si O8 at h|-;by_cases he:(leaveT n p dom f).2≠0
 .rw[zE he]at h;exact yA h (by dsimp only;decide)
 rw[zD he]at h|-;dsimp only at h|-;have hl:(nth n.ports p).link<0:=by
  by_cases hl:(nth n.ports p).link<0
  .exact hl
  .rw[zD hl]at h;exact yA h j_
 refine⟨?_,hl⟩;unfold leaveT at he;by_cases hp:Ag p n.ports.length=false\/Ag dom n.domains.length=false\/Ac n=false
 .rw[zE hp]at he;exact yA he j_
 .cases hb:Ag p n.ports.length
  .exact yA (.inl hb) hp
  .rfl
def Ajp(n:Net)(fw:List Bool)(t:List EntryM)(dom:Int)(q:QueuedM)(now:Int):∀o∈(bridgeT n fw t dom q now).2.1,OutP n o:=by
 intro o ho;unfold bridgeT at ho;split at ho
 .cases ho
 split at ho
 .split at ho
  .cases ho
  .rw[zX.1 ho];intro h;exact yA h (by dsimp only;decide)
 .rcases yH.1 ho with h|h
  .obtain ⟨p,_,rfl⟩:=yS.1 h;exact A0e _ _ _ _
  .obtain ⟨p,_,rfl⟩:=yS.1 h;intro h;unfold Vh O8 at h;split at h<;>exact yA h (by dsimp only;decide)
def Arq{n:Net}{m:MacM}{o:OutM}{org k:Int}(ho:OutP n o)(h1:1<=org)(h2:org<=k):∀x∈(goesM n m o org).2,SeenOK n k x:=by
 intro x hx;unfold goesM at hx;split at hx
 .rename_i hk;rw[zX.1 hx];exact⟨(ho hk).1,(ho hk).2,h1,h2⟩
 split at hx
 .cases hx
 split at hx
 .cases hx
 split at hx<;>cases hx
def Ac3{n:Net}{org k:Int}(h1:1<=org)(h2:org<=k):∀(l:List OutM) {m:MacM},(∀o∈l,OutP n o)->∀x∈(goesL n m org l).2,SeenOK n k x
 |[],m,_,x,hx=>by cases hx
 |o::l,m,ho,x,hx=>by
  rw[goesL]at hx;rcases yH.1 hx with h|h
  .exact Arq (ho o y_) h1 h2 x h
  .exact Ac3 h1 h2 l (λo h=>ho o (by simp[h])) x h
def A2t{n:Net}{m:MacM}(h:Hu m)(x:StepM):∀y∈(doT n m x).2,SeenOK n m.injected y:=by
 intro y hy;unfold doT at hy;split at hy
 .cases hy
 split at hy
 .unfold pickT at hy;have h1:=Abz h x.domain x.at_;split at hy
  .cases hy
  .rename_i hc;have ht:=h1.2.2 (kS hc);exact Ac3 ht.1 ht.2 _ (Ajp _ _ _ _ _ _) y hy
 split at hy
 .cases hy
 split at hy
 .cases hy
 split at hy
 .split at hy<;>cases hy
 .cases hy
def Amq(n:Net)(x:StepM):0<=Lz n x:=by unfold Lz;split<;>decide
def Arm(n:Net):List StepM->Int
 |[]=>0
 |x::l=>Lz n x+Arm n l
def Amr(n:Net):∀l,0<=Arm n l
 |[]=>xZ _
 |x::l=>by rw[Arm];have:=Amq n x;have:=Amr n l;omega
def eY{n:Net}:∀(l:List StepM) {m:MacM},Hu m->∀y∈(Dn n m l).2,SeenOK n (m.injected+Arm n l) y
 |[],m,h,y,hy=>by cases hy
 |x::l,m,h,y,hy=>by
  have h1:=At5 (n:=n) h x;rw[Dn]at hy;rw[Arm];have p1:=Amq n x;have p2:=Amr n l;rcases yH.1 hy with h2|h2
  .exact(A2t h x y h2).mono q_
  .exact(eY l h1.1 y h2).mono (by rw[h1.2];omega)
def injB(of:List Int)(x:StepM):Bool:=decide (x.kind=1)&&(Ag x.port of.length&&decide (0<=nth of x.port))
def Ee(of:List Int)(l:List StepM):List Int:=(l.filter (injB of)).map (·.port)
def Abw{n:Net}{of:List Int}(ho:Ey n of=true):∀l,((Ee of l).length:Int)=Arm n l
 |[]=>rfl
 |x::l=>by
  have ha:=Xu ho;have ih:=Abw ho l;have key:(if injB of x=true then 1 else 0)=Lz n x:=by
   unfold injB Lz;by_cases hk:x.kind=1
   .cases hp:Ag x.port of.length
    .rw[ha.1]at hp;simp[hp]
    .have hw:=ha.2.2 x.port hp;rw[ha.1]at hp;by_cases hl:(nth n.ports x.port).link<0
     .rw[zE hl]at hw;simp[hk,hp,hl,hw.1]
     .rw[zD hl]at hw;simp[hk,hp,hl,hw]
   .simp[hk]
  rw[Arm,<-ih,<-key];unfold Ee;by_cases h:injB of x=true
  .rw[vB h,zE h,xV,yM];omega
  .rw[uW h,zD h];omega
def Av1{of:List Int}{l:List StepM}:∀p∈Ee of l,Ag p of.length=true/\0<=nth of p:=by
 intro p hp;obtain ⟨x,hx,rfl⟩:=yS.1 hp;have:=(uB.1 hx).2;unfold injB at this;simp only[zG,zJ]at this;exact this.2
def Ll(of gg:List Int):List SeenM->Int×Int×Bool
 |[]=>(0,0,false)
 |s::l=>if nth of (nth gg (s.origin-1))≠nth of s.port then (nth gg (s.origin-1),s.port,true) else Ll of gg l
def crossesT(n:Net)(of:List Int)(tabs:List (List EntryM))(l:List StepM):Int×Int×Bool :=
 if Ey n of=true/\okB n (Aat n)=true then Ll of (Ee of l) (Dn n (Jf n tabs) l).2 else (0,0,false)
def crossB(n:Net)(of:List Int)(tabs:List (List EntryM))(l:List StepM):Bool:=(crossesT n of tabs l).2.2
def Ab9(n:Net)(tabs:List (List EntryM)):Hu (Jf n tabs)/\(Jf n tabs).injected=0:=by
 have h:=Af6 (A0w n) tabs tabs.length;exact⟨h.1,h.2⟩
def Aa9{n:Net}{of:List Int}(ho:Ey n of=true)(tabs:List (List EntryM))(l:List StepM):∀s∈(Dn n (Jf n tabs) l).2,
  Ag s.port of.length=true/\1<=s.origin/\s.origin<=(Ee of l).length:=by
 intro s hs;have hl:=Ab9 n tabs;have h:=eY (n:=n) l hl.1 s hs;rw[hl.2,Int.zero_add,<-Abw ho]at h;exact⟨by rw[(Xu ho).1];exact h.1,h.2.2.1,h.2.2.2⟩
def Dw(l:List StepM)(at_:Nat):List StepM:=l.take at_++l.drop (at_+1)
def Ls(p:List StepM->Bool):Nat->List StepM->List StepM×Bool
 |0,l=>(l,false)
 |k+1,l=>if p (Dw l k)=true then ((Ls p k (Dw l k)).1,true) else Ls p k l
def Tb(p:List StepM->Bool)(l:List StepM):List StepM×Bool:=Ls p l.length l
def Vs(p:List StepM->Bool):Nat->List StepM->List StepM
 |0,l=>l
 |k+1,l=>if (Tb p l).2=true then Vs p k (Tb p l).1 else (Tb p l).1
def minB(p:List StepM->Bool)(l:List StepM):Bool:=p l&&(List.range l.length).all λi=>!(p (Dw l i))
def aP(l:List StepM)(k:Nat)(h:k<l.length):(Dw l k).length+1=l.length:=by
 unfold Dw;simp only[zQ,zY,yP];omega
def aO(l:List StepM)(k:Nat):(Dw l k).Sublist l:=by
 unfold Dw;have h1:(l.take k++l.drop k).Sublist l:=by rw[List.take_append_drop];exact List.Sublist.refl _
 refine List.Sublist.trans ?_ h1;exact List.Sublist.append (List.Sublist.refl _) (by rw[<-List.drop_drop];exact List.drop_sublist _ _)
def Tc(p:List StepM->Bool):∀(k:Nat) (l:List StepM),((Ls p k l).1).Sublist l
 |0,l=>List.Sublist.refl _
 |k+1,l=>by
  rw[Ls];split
  .exact(Tc p k _).trans (aO l k)
  .exact Tc p k l
def fM(p:List StepM->Bool):∀(k:Nat) (l:List StepM),k<=l.length->if (Ls p k l).2=true then (Ls p k l).1.length<l.length else (Ls p k l).1=l/\∀i,i<k->p (Dw l i)=false
 |0,l,_=>by simp[Ls]
 |k+1,l,h=>by
  rw[Ls];have hl:=aP l k q_;by_cases hp:p (Dw l k)=true
  .simp only[hp,if_true];have:=(Tc p k (Dw l k)).length_le;omega
  .rw[zD hp];have ih:=fM p k l q_;split
   .rename_i h2;rw[zE h2]at ih;exact ih
   .rename_i h2;rw[zD h2]at ih;refine⟨ih.1,λi hi=>?_⟩;by_cases he:i=k
    .subst he;simpa using hp
    .exact ih.2 i q_
def Aiu(p:List StepM->Bool):∀(k:Nat) (l:List StepM),p l=true->p (Ls p k l).1=true
 |0,l,h=>h
 |k+1,l,h=>by
  rw[Ls];split
  .rename_i h2;exact Aiu p k _ h2
  .exact Aiu p k l h
def Alv(p:List StepM->Bool)(l:List StepM):minB p l=true↔p l=true/\∀i,i<l.length->p (Dw l i)=false:=by
 unfold minB;simp only[zG,yT,yV,yU]
def eV(p:List StepM->Bool):∀(k:Nat) (l:List StepM),l.length<k->p l=true->(Vs p k l).Sublist l/\minB p (Vs p k l)=true
 |0,l,h,_=>yA h (Nat.not_lt_zero _)
 |k+1,l,h,hp=>by
  rw[Vs];have hs:=Tc p l.length l;have hl:=fM p l.length l (yE _);have hq:=Aiu p l.length l hp;unfold Tb;by_cases h2:(Ls p l.length l).2=true
  .rw[zE h2]at hl|-;have ih:=eV p k (Ls p l.length l).1 q_ hq;exact⟨ih.1.trans hs,ih.2⟩
  .rw[zD h2]at hl|-;rw[hl.1];exact⟨List.Sublist.refl _,(Alv p l).2 ⟨hp,hl.2⟩⟩
attribute [local irreducible]G DR
set_option maxRecDepth 100000
def Il{k:Ka}{w:World}{a a':SV}{l l':List SV}(h1:∀v,Rd k w a' v->Rd k w a v)(h2:∀vs,RdL k w l' vs->RdL k w l vs):∀vs,RdL k w (a'::l') vs->RdL k w (a::l) vs:=by
 intro vs h;simp only[RdL]at h|-;obtain ⟨v,r,e1,e2,e3⟩:=h;exact⟨v,r,e1,h1 v e2,h2 r e3⟩
def great34B(n:Net)(tabs:List (List EntryM))(l:List StepM):Bool:=Lg n||great33B l||decide (60<tabs.length)||tabs.any λt=>decide (60<t.length)
def Ae2{n:Net}{tabs:List (List EntryM)}{l:List StepM}(h:great34B n tabs l=false):Lg n=false/\great33B l=false/\tabs.length<=60/\∀t∈tabs,t.length<=60:=by
 unfold great34B at h;simp only[xX,yB,wE,zJ]at h;exact⟨h.1.1.1,h.1.1.2,by omega,λt ht=>by have:=h.2 t ht;omega⟩
def A17(n:Net)(tabs:List (List EntryM))(l:List StepM):Sp 6 [Am n,.sl 1 Hp tabs,.sl 6 Bp l] (Ab (great34B n tabs l)):=cT F6 ntmps6 λF hF=>by
 have aa:=great34B.eq_1 n tabs l;generalize great34B n tabs l=res at *;have q1:=greatS n;have q2:=A18 l;generalize Lg n=a at *;generalize great33B l=b at *;refine gC q1 F21 ?_;cases a;rotate_left
 .simp only[vN]at aa;subst aa;exact gA
 refine gC q2 F22 ?_;cases b;rotate_left
 .simp only[vN,tH]at aa;subst aa;exact gA
 simp only[vQ]at aa;refine gN ?_ ?_<;>intro h
 .rw[zL (qA h),vN]at aa;subst aa;exact gA
 have h1:=zT h;rw[zK q_,vQ]at aa;refine T ?_;refine Ba tabs.length (λj=>El (λ_ t=>!(decide (60<t.length))) tabs j) (λj=>[(1,.sl 1 Hp tabs),(7,Aa j)]) (λ_=>[]) [] (Bi _ _) U ?_;intro j hj hI;refine gN ?_ ?_<;>intro h
 .have ab:j<tabs.length:=qA h;have ai:(j:Int).toNat<tabs.length:=kS ab;have gy:=λh=>@any_at3 _ (λt:List EntryM=>decide (60<t.length)) tabs j ab h
  have ej:=λh=>Bd (p:=λ_ (t:List EntryM)=>!(decide (60<t.length))) hI ab h
  obtain ⟨x,hx⟩:=kE (tabs[(j:Int).toNat]'ai);have vr:tabs[j]=x:=hx;rw[vr]at gy ej;refine S ?_;refine⟨E,by omega,ai,?_⟩;rw[hx];refine gN ?_ ?_<;>intro h
  .rw[gy (zL (qA h))]at aa;subst aa;exact gA
  .have hn:=ej (by rw[zK (qB h)];rfl);refine T ?_;refine A8 [] hI ab hn ?_;exact U
 .rw[Ahg hI (qB h)]at aa;subst aa;exact gA
def aY:TabsOK []:=⟨by decide,λt h=>(by cases h),λt h=>(by cases h)⟩
def Ads(n:Net)(of:List Int)(tabs:List (List EntryM)):List SV:=[.sl 5 A1 n.devices,.sl 7 Bb n.ports,.sl 3 Ck n.links,.sl 6 At n.domains,.sl 4 Bc n.statics,.sl 4 Bn n.floods,.sl 5 Ct n.vrfs,.sl 5 Cq n.irbs,.sl 1 Aa of,.sl 1 Hp tabs]
def Ajj(n:Net)(of:List Int)(tabs:List (List EntryM)):SV:=.agg [.sl 5 A1 n.devices,.sl 7 Bb n.ports,.sl 3 Ck n.links,.sl 6 At n.domains,.sl 4 Bc n.statics,.sl 4 Bn n.floods,.sl 5 Ct n.vrfs,.sl 5 Cq n.irbs,.sl 1 Aa of,.sl 1 Hp tabs]
def Aym(l:List StepM)(k:Nat)(hk:k<l.length)(hl:l.length<1000000):Sp 98 [.sl 6 Bp l,Aa (k:Nat)] (.sl 6 Bp (Dw l k)):=Qj Γ hm 0 F98 ntmps98 rfl λF hF=>by
 have aa:Dw l k=l.take k++(l.take l.length).drop (k+1):=by rw[yN];rfl
 rw[aa];have af:l≠[]:=λe=>by rw[e]at hk;simp at hk
 conv=>whnf
 refine A6c 0 90 E af ?_;intro B off cap iv;refine S ?_;refine Xd (Y8 (hi:=k) Γ.toTy E E E E E E q_) ?_;refine Xd (Ai1 (lo:=k+1) (hi:=l.length) Γ.toTy 90 E E E E E (.inr ⟨_,_,E,E⟩) (.inl ⟨E,E⟩) q_ (yE _)) ?_;have js:((l.take l.length).drop (k+1)).length=l.length-(k+1):=by rw[yP,zY];omega
 refine Xd (Zc Γ.toTy 90 E E E E E E (Nat.le_of_lt hk) E (by rw[js];omega) (by rw[js];omega)) ?_;exact D
def portX(of:List Int)(x:StepM):List Int:=if injB of x=true then [x.port] else []
def Ak9(of:List Int)(l:List StepM)(j:Nat)(hj:j<l.length):Ee of (l.take (j+1))=Ee of (l.take j)++portX of l[j]:=by
 unfold Ee portX;rw[yD hj,List.filter_append,wZ];congr 1;by_cases h:injB of l[j]=true
 .rw[zE h,vB h];rfl
 .rw[zD h,uW h];rfl
def Abv(of:List Int)(l:List StepM):(Ee of l).length<=l.length:=by
 unfold Ee;rw[yW];exact tY _ _
def Anp(n:Net)(of:List Int)(tabs:List (List EntryM))(l:List StepM)(hl:l.length<=200):Sp 97 [Ajj n of tabs,.sl 6 Bp l] (.sl 1 Aa (Ee of l)):=cT F97 ntmps97 λF hF=>by
 refine T ?_;refine Ca 5 1000 1 Aa E E ?_;refine Bg l.length (λj=>[(2,.ptr 2 0),(5,.osl 1000),(8,.sl 6 Bp l),(9,Aa l.length),(10,Aa j)]) (λj=>[(2,.box (Ads n of tabs)),(1000,.row 1 Aa (Ee of (l.take j)))]) [] U ?_;intro j hj;refine gN ?_ ?_<;>intro h
 .have ab:j<l.length:=qA h;have ai:(j:Int).toNat<l.length:=kS ab;obtain ⟨x,dx⟩:=kE (l[j]);have e1:l[(j:Int).toNat]'ai=x:=dx;have hs:=Ak9 of l j ab;have ay:=Abv of (l.take j);rw[zY]at ay;rw[dx]at hs;have hv:=portX.eq_1 of x;have hb:=injB.eq_1 of x;generalize injB of x=b at *;generalize portX of x=v at *;clear h;refine S ?_;refine⟨E,by omega,ai,?_⟩;rw[e1];refine T ?_;by_cases hk:x.kind=1;rotate_left
  .rw[zK hk,yF]at hb;rw[hb,zD y_]at hv;rw[hv,xD]at hs;refine T ?_;refine Az [] ab ⟨kA,⟨.inl E,E,.inl (zH (Ob.row 1 Aa) hs),E,Y⟩,E,E⟩
  rw[zL hk,yG]at hb;refine S ?_;constructor<;>intro h1
  rotate_left
  .rw[Of (by have:=zT h1;omega),yF]at hb;rw[hb,zD y_]at hv;rw[hv,xD]at hs;refine T ?_;refine Az [] ab ⟨kA,⟨.inl E,E,.inl (zH (Ob.row 1 Aa) hs),E,Y⟩,E,E⟩
  have h1:=zO h1;refine T ?_;constructor<;>intro h2
  rotate_left
  .rw[Of (by have:=zT h2;omega),yF]at hb;rw[hb,zD y_]at hv;rw[hv,xD]at hs;refine T ?_;refine Az [] ab ⟨kA,⟨.inl E,E,.inl (zH (Ob.row 1 Aa) hs),E,Y⟩,E,E⟩
  have h2:=zO h2;have pc:x.port.toNat<of.length:=by omega
  rw[Mc q_,yG,Ae pc]at hb;refine T ?_;constructor<;>intro h3
  rotate_left
  .rw[zK (by have:=zT h3;omega)]at hb;rw[hb,zD y_]at hv;rw[hv,xD]at hs;refine T ?_;refine Az [] ab ⟨kA,⟨.inl E,E,.inl (zH (Ob.row 1 Aa) hs),E,Y⟩,E,E⟩
  rw[zL (by have:=zO h3;omega)]at hb;rw[hb,zE rfl]at hv;rw[hv]at hs;refine T ?_;refine X (Ah Γ.toTy 43 rfl rfl rfl rfl rfl (.row rfl) (.lit (e:=Aa) (l:=[x.port]) rfl rfl) (λj hj=>by cases hj;decide) kO kO) ?_;refine Az [(1000,43)] ab ⟨kA,⟨.inl E,E,.inl (zH (Ob.row 1 Aa) hs),E,Y⟩,E,E⟩
 .have gl:j=l.length:=qB h;subst gl;rw[yN];refine T ?_;exact Ai 1000 E D
def W7(of gg:List Int):∀(a b:List SeenM),(∀s∈a,nth of (nth gg (s.origin-1))=nth of s.port)->Ll of gg (a++b)=Ll of gg b
 |[],b,_=>rfl
 |s::a,b,h=>by
  rw[wB,Ll,zD (λhn=>hn (h s y_))];exact W7 of gg a b (λs hs=>h s (by simp[hs]))
def Auq{k:Type}{p:Nat->k->Bool}{l:List k}{j:Nat}(h:El p l j):∀x∈l.take j,∃i,p i x=true:=by
 intro x hx;obtain ⟨i,hi,rfl⟩:=wN hx;rw[zY]at hi;refine⟨i,?_⟩;rw[wD];exact h i q_ q_
def Akr(of gg:List Int)(s:SeenM):Bool:=decide (nth of (nth gg (s.origin-1))=nth of s.port)
def Ano{of gg:List Int}{l:List SeenM}{j:Nat}(hI:El (λ_ s=>Akr of gg s) l j)(hj:j<l.length)(h:nth of (nth gg (l[j].origin-1))≠nth of l[j].port):Ll of gg l=(nth gg (l[j].origin-1),l[j].port,true):=by
 have e:l=l.take j++(l[j]::l.drop (j+1)):=by rw[<-yL hj,List.take_append_drop]
 have hs:=W7 of gg (l.take j) (l[j]::l.drop (j+1)) (λs hs=>by obtain ⟨i,hp⟩:=Auq hI s hs;exact zO hp);rw[<-e]at hs;rw[hs,Ll,zE h]
def Ann{of gg:List Int}{l:List SeenM}{j:Nat}(hI:El (λ_ s=>Akr of gg s) l j)(hj:l.length<=j):Ll of gg l=(0,0,false):=by
 have hs:=W7 of gg l [] (λ s hs=>by
  obtain ⟨i,hi,rfl⟩:=wN hs;exact zO (hI i hi q_))
 rw[xD]at hs;rw[hs,Ll]
def Sr(n:Net)(hn:n.Fin)(bj:n.Num)(of:List Int)(tabs:List (List EntryM))(ht:TabsOK tabs)(l:List StepM)(hl:ScriptOK l):Sp 45 [Ajj n of tabs,.sl 6 Bp l] (.tup [Aa (crossesT n of tabs l).1,Aa (crossesT n of tabs l).2.1,Ab (crossesT n of tabs l).2.2]):=cT F45 ntmps45 λF hF=>by
 have aa:=crossesT.eq_1 n of tabs l;generalize crossesT n of tabs l=res at *;have q1:=bV n hn of;have q2:=Au7 n hn bj tabs ht l hl;have q3:=Anp n of tabs l hl.few;have lg:=λho=>Aa9 (n:=n) (of:=of) ho tabs l
 have hpa:=@Av1 of l;have ay:=Abv of l;have gd:=Abe hn l (Jf n tabs);have yy:=hl.few;have r2:=runTabsT.eq_1 n tabs l;refine gC q1 F24 ?_;cases ho:Ey n of
 .rw[zD (by rw[ho];simp)]at aa;subst aa;exact gA
 have lg:=lg ho;refine T ?_;cases aq:okB n (Aat n)
 .rw[zD (by rw[aq];simp)]at aa r2;subst aa;rw[r2]at q2;refine C q2 F9 ?_;exact D
 rw[zE ⟨ho,aq⟩]at aa;rw[zE aq]at r2;rw[r2]at q2;subst aa;clear r2;generalize (Dn n (Jf n tabs) l).2=sn at *;generalize Ee of l=bl at *;refine gK q2 F9 q3 F97 ?_;refine Ba sn.length (λj=>El (λ_ s=>Akr of bl s) sn j) (λj=>[(2,.ptr 2 0),(9,.sl 1 Aa bl),(33,.sl 3 En sn),(34,Aa sn.length),(35,Aa j)]) (λ_=>[(2,.box (Ads n of tabs))]) [] (Bi _ _) U ?_;intro j hj hI;refine gN ?_ ?_<;>intro h
 .have ab:j<sn.length:=qA h;have ai:(j:Int).toNat<sn.length:=kS ab;have hh:=λh=>Ano hI ab h
  have ej:=λh=>Bd (p:=λ_ s=>Akr of bl s) hI ab h
  have gm:=lg _ (zI ab);obtain ⟨x,dx⟩:=kE (sn[j]);have e1:sn[(j:Int).toNat]'ai=x:=dx;rw[dx]at hh ej gm;unfold Akr at ej;obtain ⟨wa,tz,hx3⟩:=gm;have wa:=Ch wa;have bd:(x.origin-1).toNat<bl.length:=by omega
  have hw1:=(hpa _ (zI bd)).1;have hw1:=Ch hw1;have cy:(bl[(x.origin-1).toNat]'bd).toNat<of.length:=by omega
  have cx:x.port.toNat<of.length:=by omega
  rw[Ae bd,Ae cy,Ae cx]at hh ej;clear h lg hpa;refine S ?_;refine⟨E,by omega,ai,?_⟩;rw[e1];refine T ?_;constructor<;>intro h1
  .rw[hh (kS h1)];exact gA
  .have zr:=ej (zL (kS h1));refine T ?_;refine A8 [] hI ab zr ?_;exact U
 .rw[Ann hI (qB h)];exact gA
def Aa8{l l2:List StepM}(h:ScriptOK l)(hs:l2.Sublist l):ScriptOK l2:=⟨by have:=hs.length_le;have:=h.few;omega,λx hx=>h.bytes x (hs.subset hx)⟩
def Vt(n:Net)(hn:n.Fin)(bj:n.Num)(of:List Int)(tabs:List (List EntryM))(ht:TabsOK tabs)(l:List StepM)(hl:ScriptOK l):Sp 17 [Am n,.sl 1 Aa of,.sl 1 Hp tabs,.sl 6 Bp l] (.tup [Aa (crossesT n of tabs l).1,Aa (crossesT n of tabs l).2.1,Ab (crossesT n of tabs l).2.2]):=cT F17 ntmps17 λF hF=>by
 refine gC (Sr n hn bj of tabs ht l hl) F45 ?_;exact D
def A6a(p:List StepM->Bool)(l:List StepM)(res:List StepM×Bool)(x:List StepM×Bool×Nat):Prop:=x.2.2<=x.1.length/\x.1.Sublist l/\res=((Ls p x.2.2 x.1).1,x.2.1||(Ls p x.2.2 x.1).2)
def Asg(n:Net)(hn:n.Fin)(bj:n.Num)(of:List Int)(tabs:List (List EntryM))(ht:TabsOK tabs)(l:List StepM)(hl:ScriptOK l):Sp 47 [Ajj n of tabs,.sl 6 Bp l] (.tup [.sl 6 Bp (Tb (crossB n of tabs) l).1,Ab (Tb (crossB n of tabs) l).2]):=cT F47 ntmps47 λF hF=>by
 have yy:=hl.few;have h0:A6a (crossB n of tabs) l (Tb (crossB n of tabs) l) (l,false,l.length):=⟨yE _,List.Sublist.refl _,by unfold Tb;simp⟩
 generalize Tb (crossB n of tabs) l=res at *;refine T ?_;refine Cd (A6a (crossB n of tabs) l res) (λx=>[(1,.sl 6 Bp x.1),(2,.ptr 2 0),(6,Ab x.2.1),(7,Aa ((x.2.2:Nat)-1))]) (λ_=>[(2,.box (Ads n of tabs))]) (λx=>x.2.2) (l,false,l.length) [] h0 U ?_;intro x hx;obtain ⟨cur,sm,k⟩:=x;obtain ⟨hk,ar,ab⟩:=hx;dsimp only at hk ar ab|-;have ie:=ar.length_le;cases k with
 |zero=>
  rw[Ls]at ab;dsimp only at ab;rw[Bool.or_false]at ab;subst ab;exact gA
 |succ k=>
  rw[show (((k+1:Nat):Int)-1)=(k:Int) by omega];have iz:(Dw cur k).Sublist l:=(aO cur k).trans ar;have hwn:=aP cur k q_;have q1:=Aym cur k q_ q_;have q2:=Sr n hn bj of tabs ht (Dw cur k) (Aa8 hl iz);have hb:=crossB.eq_1 n of tabs (Dw cur k);rw[Ls]at ab;generalize crossB n of tabs=p at *;rw[hb]at ab;generalize crossesT n of tabs (Dw cur k)=cr at *;obtain ⟨c1,c2,c3⟩:=cr;refine gB q1 F98 q2 F45 ?_;cases c3
  .rw[zD y_]at ab;refine T ?_;refine Ax (cur,sm,k) [] ⟨by dsimp only;omega,ar,ab⟩ (by dsimp only;omega) ?_;exact U
  .rw[zE rfl]at ab;dsimp only at ab;rw[tH]at ab;refine gC q1 F98 ?_;refine Ax (Dw cur k,true,k) [] ⟨by dsimp only;omega,iz,by rw[ab];rfl⟩ (by dsimp only;omega) ?_;exact U
def shrT(n:Net)(of:List Int)(tabs:List (List EntryM))(l:List StepM):List StepM×Int:=if crossB n of tabs l=true then (Vs (crossB n of tabs) (l.length+1) l,0) else ([],31)
def SmallI(p:List StepM->Bool)(l ans:List StepM)(x:List StepM×Bool):Prop:=x.1.Sublist l/\(x.2=true->∃k,x.1.length<k/\ans=Vs p k x.1)/\(x.2=false->ans=x.1)
def T4(n:Net)(hn:n.Fin)(bj:n.Num)(of:List Int)(tabs:List (List EntryM))(ht:TabsOK tabs)(l:List StepM)(hl:ScriptOK l)(hu:∀x∈l,x.up.length<100000):Sp 18 [Am n,.sl 1 Aa of,.sl 1 Hp tabs,.sl 6 Bp l] (.tup [.sl 6 Bp (shrT n of tabs l).1,Aa (shrT n of tabs l).2]):=cT F18 ntmps18 λF hF=>by
 have aa:=shrT.eq_1 n of tabs l;generalize shrT n of tabs l=res at *;have hb:=crossB.eq_1 n of tabs l;have q1:=Sr n hn bj of tabs ht l hl;have q2:=λcur h=>Asg n hn bj of tabs ht cur h
 generalize hp:crossB n of tabs=p at *;rw[hb]at aa;generalize crossesT n of tabs l=cr at *;obtain ⟨c1,c2,c3⟩:=cr;have yy:=hl.few;refine gC q1 F45 ?_;cases c3
 .rw[zD y_]at aa;subst aa;refine T ?_;exact Ao 8 6 Bp E D
 rw[zE rfl]at aa;refine T ?_;refine Ca 14 1000 6 Bp E E ?_;refine Bg l.length (λj=>[(10,.ptr 10 0),(14,.osl 1000),(31,.sl 6 Bp l),(32,Aa l.length),(33,Aa j)]) (λj=>[(10,.box (Ads n of tabs)),(1000,.row 6 Bp (l.take j))]) [] U ?_;intro j hj;refine gN ?_ ?_<;>intro h
 .have ab:j<l.length:=qA h;have ai:(j:Int).toNat<l.length:=kS ab;obtain ⟨x,dx⟩:=kE (l[j]);have e1:l[(j:Int).toNat]'ai=x:=dx;have hs:=yD ab;rw[dx]at hs;have hxm:x∈l:=by rw[<-dx];exact zI ab
  have yk:=hl.bytes x hxm;have hxu:=hu x hxm;have sh:(l.take j).length=j:=by rw[zY];omega
  clear h;refine S ?_;refine⟨E,by omega,ai,?_⟩;rw[e1];refine gB (Ql x.bytes q_) F30 (Adu x.up q_) F46 ?_;refine X (Ah Γ.toTy 48 rfl rfl rfl rfl rfl (.row rfl) (.lit (e:=Bp) (l:=[x]) rfl rfl) (λj hj=>by cases hj;decide) kO kO) ?_;refine Az [(1000,48)] ab ⟨kA,⟨.inl E,E,.inl (zH (Ob.row 6 Bp) hs),E,Y⟩,E,E⟩
 have gl:j=l.length:=qB h;subst gl;rw[yN];refine T ?_;refine Ai 1000 E ?_;refine Cd (SmallI p l res.1) (λx=>[(10,.ptr 10 0),(14,.sl 6 Bp x.1),(17,Ab x.2)]) (λ_=>[(10,.box (Ads n of tabs))]) (λx=>if x.2=true then x.1.length+1 else 0) (l,true) [] ⟨List.Sublist.refl _,λ_=>⟨l.length+1,by dsimp only;omega,by rw[aa]⟩,λh=>by cases h⟩ U ?_;intro x hx;obtain ⟨cur,yx⟩:=x;obtain ⟨ar,wa,tz⟩:=hx;dsimp only at ar wa tz|-;have nj:res.2=0:=by rw[aa]
 obtain ⟨r1,r2⟩:=res;dsimp only at wa tz nj|-;subst nj;clear aa h;cases yx
 .have:=tz rfl;subst this;exact gA
 obtain ⟨k,hk,pi⟩:=wa rfl;obtain ⟨k,rfl⟩:∃k',k=k'+1:=⟨k-1,by omega⟩
 have q3:=q2 cur (Aa8 hl ar);have g1:=Tc p cur.length cur;have g2:=fM p cur.length cur (yE _);rw[Vs]at pi;change ((Tb p cur).1).Sublist cur at g1;change (if (Tb p cur).2=true then (Tb p cur).1.length<cur.length else _) at g2;generalize Tb p cur=w at *;obtain ⟨a,b⟩:=w;dsimp only at g1 g2 pi q3;refine gC q3 F47 ?_;cases b
 .rw[zD y_]at pi;refine Ax (a,false) [] ⟨g1.trans ar,λh=>(by cases h),λ_=>pi⟩ y_ ?_;exact U
 .rw[zE rfl]at pi g2;refine Ax (a,true) [] ⟨g1.trans ar,λ_=>⟨k,by dsimp only;omega,pi⟩,λh=>by cases h⟩ kO ?_;exact U
def dC:List UInt8:=[255,255,255,255,255,255,0,0,0,0,0,1,136,181]
def scrA45:List StepM:=[⟨1,0,0,0,dC,[]⟩,⟨4,0,0,0,[],[]⟩,⟨2,0,0,0,[],[]⟩]
def scrB45:List StepM:=[⟨1,0,0,0,dC,[]⟩,⟨2,0,0,0,[],[]⟩]
def Azg:shrT netW33 [0,1] [] scrA45=([⟨1,0,0,0,dC,[]⟩,⟨2,0,0,0,[],[]⟩],0):=by kernel_rfl
def Ava:shrT netW33 [0,0] [] scrB45=([],31):=by kernel_rfl
def scriptA45:ScriptOK scrA45/\∀x∈scrA45,x.up.length<100000:=by
 refine⟨⟨by decide,λx hx=>?_⟩,λx hx=>?_⟩
 all_goals
  simp only[scrA45,yI,xH,vJ]at hx;rcases hx with rfl|rfl|rfl<;>decide
def scriptB45:ScriptOK scrB45/\∀x∈scrB45,x.up.length<100000:=by
 refine⟨⟨by decide,λx hx=>?_⟩,λx hx=>?_⟩
 all_goals
  simp only[scrB45,yI,xH,vJ]at hx;rcases hx with rfl|rfl<;>decide
def Ayl:Sp 12 [] (Ab true):=cT F12 ntmps12 λF hF=>by
 have q1:=T4 netW33 A2j A0p [0,1] [] aY scrA45 scriptA45.1 scriptA45.2;have q2:=T4 netW33 A2j A0p [0,0] [] aY scrB45 scriptB45.1 scriptB45.2;rw[Azg]at q1;rw[Ava]at q2;have q1:=q1.view (A':=[Am netW33,.sl 1 Aa [0,1],svN,.sl 6 Bp scrA45]) λk w=>Il (λ_ h=>h) (Il (λ_ h=>h) (Il (λ_=>X9) (λ_ h=>h)))
 have q2:=q2.view (A':=[Am netW33,.sl 1 Aa [0,0],svN,.sl 6 Bp scrB45]) λk w=>Il (λ_ h=>h) (Il (λ_ h=>h) (Il (λ_=>X9) (λ_ h=>h)))
 refine T ?_;refine Jb 8 A1 netW33.devices E E (Ai 8 E ?_);refine lH 11 (netW33.ports.map Bb) E (.cons (.agg vL) (.cons (.agg vL) .nil)) E (Jb 11 Bb netW33.ports E E ?_);refine Ai 11 E (lH 13 (netW33.domains.map At) E (.cons (.agg vL) .nil) E ?_);refine Jb 13 At netW33.domains E E (Ai 13 E ?_);refine Ak 1 (Dc netW33) E vL (Jb 15 Al dC E E ?_);refine Ai 15 E (T ?_);refine Jb 18 Aa [0,1] E E ?_;refine Ai 18 E (lH 23 (scrA45.map Bp) E (.cons (.agg vL) (.cons (.agg vL) (.cons (.agg vL) .nil))) E ?_);refine Jb 23 Bp scrA45 E E (Ai 23 E ?_);refine A5u 17 (Am netW33) (.agg vL) (C q1 F18 ?_);refine Jb 29 Aa [0,0] E E (Ai 29 E ?_);refine lH 33 (scrB45.map Bp) E (.cons (.agg vL) (.cons (.agg vL) .nil)) E (Jb 33 Bp scrB45 E E ?_);refine Ai 33 E (C q2 F18 ?_);exact D
end
end Go.Sy.Zaa
