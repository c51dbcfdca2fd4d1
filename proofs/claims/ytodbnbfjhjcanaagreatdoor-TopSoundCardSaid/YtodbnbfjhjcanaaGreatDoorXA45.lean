/- Parts of a proof. -/
import Derived.Test.YtodbnbfjhjcanaaGreatDoorXA42
set_option maxHeartbeats 8000000
set_option linter.all false
namespace Go.Sy.Zaa
open Go.Proofs Go.Proofs.Tryz
section
attribute [local irreducible]G DR
set_option maxRecDepth 100000
def Adj(b:List UInt8):FrameOK (takeF b).1:=by
 by_cases h:(takeF b).2=0
 .exact Uw h
 .rw[Asa h];exact Ef
def Aic{f:FrameM}(hf:FrameOK f)(v:Nat)(hv:v<=4094):FrameOK (tagT f v).1:=by
 by_cases h:(tagT f v).2=0
 .exact Awa hf v hv h
 .unfold tagT at h|-;split
  .exact Ef
  .rename_i h1;rw[zD h1]at h;split
   .exact Ef
   .rename_i h2;rw[zD h2]at h;exact zX E h
def Ze{n:Net}(hu:C7 n)(l:List Hop):(wayBytes n l).1.length<=1518:=by
 unfold wayBytes;split
 .show (Mn _).length<=1518;rw[Es];have:=(Aes hu l).body;omega
 .show 0<=1518;decide
def Al6(n:Net)(hn:n.Fin)(hu:C7 n)(hb:Ac n=true)(port:Int)(hp:0<=port/\port.toNat<n.ports.length)(l:List Hop)(hl:An l)(gr:∀h∈l,bW n h)(h0:0<l.length):Sp 64 [Am n,Aa port,.sl 4 Dc l] (Ca (injectW n port l)):=cT F64 ntmps64 λF hF=>by
 have bh:(0:Int).toNat<l.length:=h0;have hd:=gr _ (zI bh);have q1:=Arw n hn hu l hl (λh hh=>(gr h hh).2);have iu:=Ze (n:=n) hu l;have hv:=Y2 hb hd.1.2;have aa:=injectW.eq_1 n port l;rw[Ag bh,Ag hd.1.2,Ag hp.2]at aa;generalize injectW n port l=res at *;obtain ⟨ve,sr⟩:∃v:Nat,(n.domains[(l[(0:Int).toNat]'bh).domain.toNat]'hd.1.2).vlan=v:=⟨_,(yR z_).symm⟩
 have s9:0<=(l[(0:Int).toNat]'bh).domain/\(l[(0:Int).toNat]'bh).domain.toNat<n.domains.length:=hd.1;have q3:=λf hf=>Aid f ve hf z_
 have ho:=λf hf=>Aic (f:=f) hf ve z_
 rw[<-sr]at q3 ho;clear sr;generalize wayBytes n l=bb at *;have q2:=T5 bb.1 z_;have hf:=Adj bb.1;generalize takeF bb.1=tk at *;have q3:=q3 _ hf;have q4:=Lh _ (ho _ hf);clear ho;refine fW ?_;refine Ba 3 8 (Am n) E E E (gC q1 F119 ?_);constructor<;>intro h
 .have li:(n.domains[(l[(0:Int).toNat]'bh).domain.toNat]'hd.1.2).vlan≠(n.ports[port.toNat]'hp.2).native:=by simpa using h
  rw[zE li]at aa;clear h hv li;generalize tagT tk.1 (n.domains[(l[(0:Int).toNat]'bh).domain.toNat]'hd.1.2).vlan=tg at *;subst aa;refine gB q2 F120 q3 F121 ?_;refine Ai (Ad [(0,55)] E F19 q4 E q_ E ⟨.inr E,q_⟩) E E ?_;refine Aj 55 E (T ?_);exact Ak 6 [Aa 1,Aa port,Aa 0,Aa 0,.sl 1 Al (Mn tg.1),.sl 1 Ab []] E vL D
 .have li:¬(n.domains[(l[(0:Int).toNat]'bh).domain.toNat]'hd.1.2).vlan≠(n.ports[port.toNat]'hp.2).native:=by simpa using h
  rw[zD li]at aa;subst aa;refine T ?_;exact Ak 6 [Aa 1,Aa port,Aa 0,Aa 0,.sl 1 Al bb.1,.sl 1 Ab []] E vL D
abbrev stO(n:Net)(s:GoM):Obs:=[(0,.box (Qn n 1 s.m.now s.m.injected s.m.drops)),(1,.box (Jl n s.m.up s.d)),(2,.row 1 Hk s.m.tables),(3,.row 1 Me s.m.queues),(5,.box [.ptr 0 0]),(6,.box [.osl 7]),(7,.row 6 Ca s.out)]
abbrev stN(n:Net)(s:GoM):Obs:=[(0,.box (Qn n 4 s.m.now s.m.injected s.m.drops)),(1,.non),(2,.row 1 Hk s.m.tables),(3,.row 1 Me s.m.queues),(4,.box (Jl n s.m.up s.d)),(5,.box [.ptr 0 0]),(6,.box [.osl 8]),(7,.non),(8,.row 6 Ca s.out)]
abbrev doSV:SV:=.clo (.func 62) [] [.ptr 5 0,.ptr 6 0]
abbrev pkO(n:Net)(s:GoM):Obs:=[(0,.box (Qn n 1 s.m.now s.m.injected s.m.drops)),(1,.box (Jl n s.m.up s.d)),(2,.row 1 Hk s.m.tables),(3,.row 1 Me s.m.queues),(5,.box [.ptr 0 0]),(6,.box [.osl 7]),(7,.row 6 Ca s.out),(9,.box [doSV])]
abbrev pkN(n:Net)(s:GoM):Obs:=[(0,.box (Qn n 4 s.m.now s.m.injected s.m.drops)),(1,.non),(2,.row 1 Hk s.m.tables),(3,.row 1 Me s.m.queues),(4,.box (Jl n s.m.up s.d)),(5,.box [.ptr 0 0]),(6,.box [.osl 8]),(7,.non),(8,.row 6 Ca s.out),(9,.box [doSV])]
def Avn(n:Net)(hn:n.Fin)(bf:n.Num)(s:GoM)(J D:Int)(ax:MacOK n s.m J D)(hJ:J<900000000000)(tl:0<=D)(hD:D<=900000000000)(hlen:s.out.length<1000000)(x:StepM)(hb:x.bytes.length<100000):Sq 62 [Ca x,.ptr 5 0,.ptr 6 0] (stO n s) (.tup []) (stN n (doW n s x)):=cT F62 ntmps62 λF hF=>by
 have q1:=nR n hn bf s.m s.d J D ax hJ tl hD x hb;have aa:=doW.eq_1 n s x;generalize doT n s.m x=r at *;generalize doD n s.m s.d x=dd at *;generalize doW n s x=res at *;subst aa;refine fW ?_;refine X (aW (d:=900) E E E) ?_;refine X (Ad [] E F27 q1 E W E V) ?_;refine X (Ah Γ.toTy 8 E E E E E (.row E) (.lit (e:=Ca) (l:=[x]) E E) qq kO kO) ?_;exact A2 E .nil [] (stN n ⟨r.1,dd,s.out++[x]⟩) (λ_ h=>h) E E U
def A0v(n:Net)(hn:n.Fin)(bf:n.Num)(m:MacM)(d:Bool)(J D:Int)(ax:MacOK n m J D)(hJ:J<900000000000)(tl:0<=D)(hD:D<=900000000000)(x:StepM)(hb:x.bytes.length<100000):Sq 62 [Ca x,.ptr 5 0,.ptr 6 0] [(0,.box (Qn n 1 m.now m.injected m.drops)),(1,.box (Jl n m.up d)),(2,.row 1 Hk m.tables),(3,.row 1 Me m.queues),(5,.box [.ptr 0 0]),(6,.box [svN])] (.tup [])
   [(0,.box (Qn n 4 (doW n ⟨m,d,[]⟩ x).m.now (doW n ⟨m,d,[]⟩ x).m.injected (doW n ⟨m,d,[]⟩ x).m.drops)),(1,.non),(2,.row 1 Hk (doW n ⟨m,d,[]⟩ x).m.tables),(3,.row 1 Me (doW n ⟨m,d,[]⟩ x).m.queues),(4,.box (Jl n (doW n ⟨m,d,[]⟩ x).m.up (doW n ⟨m,d,[]⟩ x).d)),(5,.box [.ptr 0 0]),(6,.box [.osl 8]),(8,.row 6 Ca (doW n ⟨m,d,[]⟩ x).out)]:=cT F62 ntmps62 λF hF=>by
 have q1:=nR n hn bf m d J D ax hJ tl hD x hb;have aa:=doW.eq_1 n ⟨m,d,[]⟩ x;dsimp only at aa;generalize doT n m x=r at *;generalize doD n m d x=dd at *;generalize doW n ⟨m,d,[]⟩ x=res at *;subst aa;refine fW ?_;refine X (aW (d:=900) E E E) ?_;refine X (Ad [] E F27 q1 E W E V) ?_;refine X (Ah Γ.toTy 8 E E E E E .nil (.lit (e:=Ca) (l:=[x]) E E) qq qq qq) ?_;exact A2 E .nil [] [(0,.box (Qn n 4 r.1.now r.1.injected r.1.drops)),(1,.non),(2,.row 1 Hk r.1.tables),(3,.row 1 Me r.1.queues),(4,.box (Jl n r.1.up dd)),(5,.box [.ptr 0 0]),(6,.box [.osl 8]),(8,.row 6 Ca ([]++[x]))] (λ_ h=>h) E E U
def Auk{P:Program}{o:Oper}{s:SS}{x y:Operand}{at_:Array TypeId}{k k':IntKind}{m n r:Int}(hr:(if m<n then n else m)=r)(h:o.op=.call ⟨.builtin .max,#[x,y],at_⟩)(hx:ev s x=.val (.int k m))(hy:ev s y=.val (.int k' n)):Good P o s ⟨.val (.int k r),[],[]⟩:=by
 subst hr;exact Good.pure λb a w _ hr ho=>by
  have h1:=hr x (by simp[h,Op.operands,Call.operands]);have h2:=hr y (by simp[h,Op.operands,Call.operands]);rw[hx]at h1;rw[hy]at h2;refine⟨.int k (if m<n then n else m),?_,by simp[Rd]⟩;simp[execOp,h,resolve,invoke,builtin,Builtin.max_,Builtin.max2,h1.val,h2.val]
def lX(n:Net)(hn:n.Fin)(bf:n.Num)(s:GoM)(J D:Int)(ax:MacOK n s.m J D)(hJ:J<900000000000)(tl:0<=D)(hD:D<=900000000000)(hlen:s.out.length<1000000)(dom:Int):Sq 63 [Aa dom,.ptr 9 0,.ptr 5 0] (pkO n s) (.tup []) (pkN n (oN n s dom)):=cT F63 ntmps63 λF hF=>by
 have zg:=Ie ax dom;have q1:=Ads n s.m s.d dom zg;have q2:=Avn n hn bf s J D ax hJ tl hD hlen (pickX s.m dom) (by show 0<100000;decide);rw[oN];generalize doW n s (pickX s.m dom)=res at *;have uj:=pickX.eq_1 s.m dom;have hql:(if Af dom s.m.queues.length=true then queueL s.m dom else []).length<1000000:=by
  have:=zg.1;split
  .omega
  .simp
 generalize (if Af dom s.m.queues.length=true then queueL s.m dom else [])=qs at *;obtain ⟨v,hv⟩:∃v:Int,(if (qs.length:Int)-1<0 then 0 else (qs.length:Int)-1)=v:=⟨_,rfl⟩
 rw[hv]at uj;generalize pickX s.m dom=px at *;subst uj;refine T ?_;refine Xe (Ad [] E F52 q1 E W E V) ?_;refine Xd (Auk hv E E E) ?_;refine Xd (Kg [] [] (Aw E E F62) q2 (.cons (.agg vL) (.cons (.refl _) (.cons (.refl _) .nil))) W E V E) ?_;exact A2 E .nil [] (pkN n res) (λ_ h=>h) E E U
end
section
def Ag9{n:Net}(hn:n.Fin)(bf:n.Num){s:GoM}{J D:Int}(h:MacOK n s.m J D)(hJ:0<=J)(hD:0<=D)(x:StepM):MacOK n (doW n s x).m (J+1) (D+4294967298)/\(doW n s x).out.length=s.out.length+1 :=
 ⟨Aps hn bf h hJ hD x,by simp[doW]⟩
def Ayr{n:Net}(hn:n.Fin)(bf:n.Num){s:GoM}{J D:Int}(h:MacOK n s.m J D)(hJ:0<=J)(hD:0<=D)(x:Hop):MacOK n (linkW n s x).m (J+1) (D+4294967298)/\(linkW n s x).out.length<=s.out.length+1:=by
 unfold linkW;split
 .have:=Ag9 hn bf h hJ hD ⟨5,0,0,0,[],upW n x⟩;exact⟨this.1,by omega⟩
 .exact⟨h.mono z_ z_,by omega⟩
def Azj{n:Net}(hn:n.Fin)(bf:n.Num)(from_:Int)(l:List Hop):∀k:Nat,MacOK n (goW n from_ l k).m (1+2*k) ((1+2*k)*4294967298)/\(goW n from_ l k).out.length<=1+2*k
 |0=>by
  have:=Ag9 hn bf (s:=⟨newT n,false,[]⟩) (To n) (xN _) (xN _) (injectW n from_ l);rw[goW];exact⟨this.1.mono z_ z_,by rw[this.2];simp⟩
 |k+1=>by
  obtain ⟨h1,h2⟩:=Azj hn bf from_ l k;rw[goW];have h3:=Ayr hn bf h1 z_ z_ (nth l ((k+1:Nat):Int));have h4:=Ag9 hn bf h3.1 z_ z_ (pickX (linkW n (goW n from_ l k) (nth l ((k+1:Nat):Int))).m (nth l ((k:Nat):Int)).domain);refine⟨h4.1.mono z_ z_,?_⟩;have h5:=h4.2;unfold oN;omega
def Akf{n:Net}(hu:C7 n)(hb:Ac n=true)(from_:Int){l:List Hop}(h0:0<l.length)(gr:∀h∈l,bW n h):(injectW n from_ l).bytes.length<100000:=by
 have bh:(0:Int).toNat<l.length:=h0;have hd:=gr _ (zI bh);have hv:=Y2 hb hd.1.2;show (if _ then _ else _:List UInt8).length<100000;rw[Ag bh,Ag hd.1.2];obtain ⟨ve,sr⟩:∃v:Nat,(n.domains[(l[(0:Int).toNat]'bh).domain.toNat]'hd.1.2).vlan=v:=⟨_,(yR z_).symm⟩
 rw[sr];split
 .rw[Es];have:=(Aic (Adj (wayBytes n l).1) ve z_).body;omega
 .have:=Ze (n:=n) hu l;omega
attribute [local irreducible]G DR
set_option maxRecDepth 100000
def Al5(n:Net)(hn:n.Fin)(bf:n.Num)(hu:C7 n)(from_ to:Int):Sp 33 [Am n,Aa from_,Aa to] (.tup [.sl 6 Ca (wscriptT n from_ to).1,Aa (wscriptT n from_ to).2]):=cT F33 ntmps33 λF hF=>by
 have ak:=wscriptT.eq_1 n from_ to;generalize wscriptT n from_ to=res at *;have h1:=Zd n from_;have h2:=Zd n to;have j5:=hn.links;unfold An at j5;refine fW ?_;refine Ba 3 8 (Am n) E E E (gC h1 F61 ?_);cases hf:Eg n from_
 .rw[zD (λx=>by rw[hf]at x;cases x.1)]at ak;subst ak;refine T ?_;exact Ao 6 6 Ca E D
 refine gC h2 F61 ?_;cases ht:Eg n to
 .rw[zD (λx=>by rw[ht]at x;cases x.2.1)]at ak;subst ak;refine T ?_;exact Ao 6 6 Ca E D
 refine gL ?_ ?_<;>intro h
 .rw[zD (λx=>x.2.2.1 (kS h))]at ak;subst ak;refine T ?_;exact Ao 6 6 Ca E D
 have ag:from_≠to:=kS h;clear h;refine T ?_;cases ar:okB n (Zg n)
 .rw[zD (λx=>by rw[ar]at x;cases x.2.2.2)]at ak;subst ak;refine C (Yl n hn ar) F49 ?_;exact Ao 6 6 Ca E D
 rw[zE ⟨hf,ht,ag,ar⟩]at ak;refine X (Ad [(0,800),(1,801),(2,802),(3,803)] E F49 (Afz n hn ar) E q_ E V) ?_;have q2:=wayS n hn hu from_ to;have zh:=@wayT_facts n hu from_ to;have zi:=@way_links n from_ to;have ky:An (wayT n from_ to).1\/True:=.inr trivial;generalize wayT n from_ to=wr at *;obtain ⟨l,ok⟩:=wr;cases ok
 .rw[zD qq]at ak;subst ak;refine C q2 F60 ?_;exact Ao 6 6 Ca E D
 rw[zE rfl]at ak;obtain ⟨gr,hlen,hlne,hb⟩:=zh rfl;have hlk2:=zi rfl;clear zh zi ky;dsimp only at *;have cx:=Ak6 hb;have h0:0<l.length:=xU.2 hlne;have m7:An l:=by unfold An;omega
 have hp:=So hf;have q3:=Al6 n hn hu hb from_ hp l m7 gr h0;have q4:=A0v n hn bf (newT n) false 0 0 (To n) z_ z_ z_ (injectW n from_ l) (Akf hu hb from_ h0 gr);rw[show doW n ⟨newT n,false,[]⟩ (injectW n from_ l)=goW n from_ l 0 from rfl]at q4;refine gI q2 F60 q3 F64 ?_;refine Xd (Av [(0,800),(1,801),(2,802),(3,803),(4,804),(5,8),(6,12),(8,805)] (Aw E E F62) q4 E W E V) ?_;have fh:(l.drop 1).length=l.length-1:=by simp
 refine X (Jr (lo:=1) (hi:=l.length) Γ.toTy (l.drop 1) E E E E (.inr ⟨_,_,E,E⟩) (.inl ⟨E,E⟩) z_ (yG _) (by rw[yM])) ?_;clear q2 q3 q4;refine A8 (l.drop 1).length (λj=>[(3,.ref 8 (Am n) 0),(10,.sl 4 Dc l),(12,.ptr 6 0),(13,.ptr 9 0),(14,.clo (.func 63) [] [.ptr 9 0,.ptr 5 0]),(58,.sl 4 Dc (l.drop 1)),(59,Aa (l.drop 1).length),(60,Aa j)]) (λj=>pkO n (goW n from_ l j))
  [(0,800),(1,804),(2,802),(3,803),(5,8),(6,12),(7,805),(9,13)] U ?_
 intro j hj;obtain ⟨ax,kx⟩:=Azj hn bf from_ l j;refine gL ?_ ?_<;>intro h
 .have ab:j<(l.drop 1).length:=qA h;have aj:(j:Int).toNat<(l.drop 1).length:=kS ab;have dh:((j+1:Nat):Int).toNat<l.length:=by omega
  have bh:(j:Int).toNat<l.length:=by omega
  have vc:goW n from_ l (j+1)=oN n (linkW n (goW n from_ l j) (l[((j+1:Nat):Int).toNat]'dh)) (l[(j:Int).toNat]'bh).domain:=by rw[goW,Ag dh,Ag bh]
  have e1:(l.drop 1)[(j:Int).toNat]'aj=l[((j+1:Nat):Int).toNat]'dh:=by
   rw[vN];congr 1;omega
  have hxl:=hlk2 _ (zI dh);generalize l[((j+1:Nat):Int).toNat]'dh=x at *;generalize goW n from_ l j=s at *;have zj:=linkW.eq_1 n s x;clear h;refine S ?_;refine⟨E,by omega,aj,?_⟩;rw[e1];refine gL ?_ ?_<;>intro h
  .have hk:x.kind=1:=by simpa using h
   rw[zE hk]at zj;obtain ⟨ig,hl0,hl1⟩:=hxl hk;have ud:=upW.eq_1 n x;rw[Ag ig.2]at hl0 hl1 ud;have q6:=Avn n hn bf s _ _ ax z_ z_ z_ z_ ⟨5,0,0,0,[],upW n x⟩ (by show 0<100000;decide);obtain ⟨bw,hol2⟩:=Ag9 hn bf ax z_ z_ ⟨5,0,0,0,[],upW n x⟩;rw[<-zj]at q6 bw hol2;rw[ud]at q6;clear zj ud;generalize linkW n s x=s1 at *;have q7:=lX n hn bf s1 _ _ bw z_ z_ z_ z_ (l[(j:Int).toNat]'bh).domain;rw[<-vc]at q7;clear h;refine T ?_;refine X (B5 Γ.toTy (d:=71) (n:=n.links.length) Ab false E E E E E E E E z_ z_ E E E) ?_;refine⟨by rw[vC];exact hl1,?_⟩;refine fW ?_;refine⟨E,(by rw[vC];exact hl1),true,E,E,?_⟩;refine T ?_;refine Aj 71 E (X (Kg [(4,40),(8,41)] [] (Aw E E F62) q6 (.cons (.agg vL) (.cons (.refl _) (.cons (.refl _) .nil))) W E V E) ?_);refine X (Av [(1,40),(7,41),(4,42),(8,43)] (Aw E E F63) q7 E W E V) ?_;exact Ax [(1,42),(7,43)] ab U
  .have hk:¬x.kind=1:=by simpa using h
   rw[zD hk]at zj;rw[zj]at vc;have q7:=lX n hn bf s _ _ ax z_ z_ z_ z_ (l[(j:Int).toNat]'bh).domain;rw[<-vc]at q7;clear h;refine T ?_;refine X (Av [(4,42),(8,43)] (Aw E E F63) q7 E W E V) ?_;exact Ax [(1,42),(7,43)] ab U
 .have ej:j=(l.drop 1).length:=qB h;subst ej;have lc:((l.length:Int)-1).toNat<l.length:=by omega
  have jq:A2g n from_ l=oN n (goW n from_ l (l.drop 1).length) (l[((l.length:Int)-1).toNat]'lc).domain:=by rw[A2g,Ag lc,fh]
  have q7:=lX n hn bf _ _ _ ax z_ z_ z_ z_ (l[((l.length:Int)-1).toNat]'lc).domain;rw[<-jq]at q7;clear jq;generalize A2g n from_ l=s2 at *;generalize goW n from_ l (l.drop 1).length=s at *;subst ak;clear h;refine T ?_;refine X (Av [(4,42),(8,43)] (Aw E E F63) q7 E W E V) ?_;exact Aj 43 E D
end
end Go.Sy.Zaa
