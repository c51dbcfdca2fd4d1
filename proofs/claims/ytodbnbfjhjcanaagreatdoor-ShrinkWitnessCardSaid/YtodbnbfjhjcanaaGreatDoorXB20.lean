/- Parts of a proof. -/
import Derived.Test.YtodbnbfjhjcanaaGreatDoorXB19
set_option maxHeartbeats 4000000
set_option linter.all false
namespace Go.Sy.Zaa
open Go.Proofs Go.Proofs.Tryz
section
attribute [local irreducible]G DR
set_option maxRecDepth 100000
def Z7:=iA A1 5 F226 ntmps226
def Aje{n:Net}(hb:Ac n=true){d:Int}(hd:DomIn n d):0<=(n.domains[d.toNat]'hd.2).dev/\(n.domains[d.toNat]'hd.2).dev.toNat<n.devices.length:=by
 simp only[Ac,zG]at hb;have:=An5 hb.1.1.1.1.1.1.1.2 hd.2;have:=Ch this;omega
def Aj0{n:Net}(hb:Ac n=true){d:Int}(hd:DomIn n d):C9 n d=(n.devices[(n.domains[d.toNat]'hd.2).dev.toNat]'(Aje hb hd).2).vtep:=by
 rw[C9,Ae hd.2,Ae (Aje hb hd).2]
def Ajz{n:Net}(hm:n.Num)(hb:Ac n=true){d:Int}(hd:DomIn n d):0<=C9 n d/\C9 n d<4294967296:=by
 rw[Aj0 hb hd];exact hm.vtep _ (zI _)
def Z4(n:Net)(hb:Ac n=true)(d:Int)(hd:DomIn n d):Sp 250 [Am n,Aa d] (Be (C9 n d)):=cT F250 ntmps250 λF hF=>by
 have hv:=Aj0 hb hd;have h2:=Aje hb hd;obtain ⟨x,hx⟩:=kE (n.domains[d.toNat]'hd.2);rw[hx]at h2;simp only[hx]at hv;obtain ⟨y,hy⟩:=kE (n.devices[x.dev.toNat]'h2.2);rw[hy]at hv;rw[hv]
 conv=>whnf
 refine⟨E,hd.1,hd.2,?_⟩;rw[hx]
 conv=>whnf
 refine⟨E,h2.1,h2.2,?_⟩;rw[hy]
 conv=>whnf
 refine kW ?_;exact dN
def Aq6(n:Net)(hn:n.Fin)(ax:n.Num)(dom peer:Int)(f:FrameM)(h:FrameOK f):Sp 190 [Am n,Aa dom,Aa peer,Df f] (.tup [.sl 1 Al (meshT n dom peer f).1,Aa (meshT n dom peer f).2]):=cT F190 ntmps190 λF hF=>by
 have aa:=meshT.eq_1 n dom peer f;generalize meshT n dom peer f=res at *;have hr:=A2 n hn;have hpS:=Q3 peer n.domains.length;have hdS:=Q3 dom n.domains.length
 conv=>whnf
 refine Bf 4 8 (Am n) E E E ?_;refine Bf 7 4 (Df f) E E E (oO ?_);refine c0 hpS F246 ?_;cases ay:Ag peer n.domains.length
 .rw[zE (.inl ay)]at aa;subst aa
  (refine oT ?_;refine bT ?_;refine bT ?_)
  exact Ao 8 1 Al E dN
 refine oF ?_;refine c0 hdS F246 ?_;cases gh:Ag dom n.domains.length
 .rw[zE (.inr (.inl gh))]at aa;subst aa
  (refine oT ?_;refine bT ?_)
  exact Ao 8 1 Al E dN
 refine oF ?_;refine c0 hr F39 ?_;cases hbn:Ac n
 .rw[zE (.inr (.inr hbn))]at aa;subst aa;refine oT ?_;exact Ao 8 1 Al E dN
 rw[zD (by simp[hbn,ay,gh])]at aa;have hd:=Lw gh;have hp:=Lw ay;have ss:=hd.1;have ck:=hd.2;have e2:nth n.domains dom=n.domains[dom.toNat]:=Ae ck;have fy:=hn.peers _ (zI ck);have va:=Ajz ax hbn hd;have vb:=Ajz ax hbn hp;have qa:=Z4 n hbn dom hd;have qb:=Z4 n hbn peer hp;generalize C9 n dom=a at *;generalize C9 n peer=c at *;obtain ⟨a,rfl⟩:=xO va.1;obtain ⟨c,rfl⟩:=xO vb.1;rw[zZ,zZ]at aa;obtain ⟨d,dz⟩:=kE (n.domains[dom.toNat]'ck);rw[dz]at e2 fy;rw[e2]at aa;have qc:=Ed d.peers peer fy;have qw:=A3s a c d.vni f q_ q_ h;refine oF ?_;refine⟨E,ss,ck,?_⟩;rw[dz]
 conv=>whnf
 refine c0 qc F115 ?_;cases hi:inB d.peers peer
 .rw[zE hi]at aa;subst aa;refine oT ?_;exact Ao 8 1 Al E dN
 rw[zD (by rw[hi];decide)]at aa;subst aa;refine oF ?_;refine cD qa F250 (oD ?_);refine cD qb F250 (oD ?_);refine⟨E,ss,ck,?_⟩;rw[dz]
 conv=>whnf
 refine cD qw F249 (gL ?_);exact dN
def endsC1(dst:Int)(d:Device):Sp 327 [A1 d,.ref 1 (Be dst) 0] (Ab (decide (d.vtep=dst))):=cT F327 ntmps327 λF hF=>by
 conv=>whnf
 refine Ar E Aq (zH Ab ?_) E;rw[wP];simp
def endsC2(dev vni:Int)(d:Domain):Sp 328 [At d,.ref 1 (Aa dev) 0,.ref 1 (Aa vni) 0] (Ab (decide (d.dev=dev)&&decide (d.vni=vni))):=cT F328 ntmps328 λF hF=>by
 conv=>whnf
 constructor<;>intro h
 .have h1:d.dev=dev:=by simpa using h
  refine oO ?_;refine Ar E Aq (zH Ab ?_) E;rw[zL h1,yG,wP];simp
 .have h1:¬d.dev=dev:=by simpa using h
  refine oO ?_;refine Ar E Aq (zH Ab ?_) E;rw[zK h1,yF]
def endsC3(n:Net)(hb:Ac n=true)(src:Int)(k:Int)(hk:DomIn n k):Sp 330 [Aa k,.ref 8 (Am n) 0,.ref 1 (Be src) 0] (Ab (decide (C9 n k=src))):=cT F330 ntmps330 λF hF=>by
 have q:=Z4 n hb k hk
 conv=>whnf
 refine cD q F250 (gL ?_);refine Ar E Aq (zH Ab ?_) E;rw[wP];simp
def endsS(n:Net)(hn:n.Fin)(hb:Ac n=true)(src dst:Nat)(vni:Int):Sp 254 [Am n,Be src,Be dst,Aa vni] (.tup [Aa (endsT n src dst vni).1,Aa (endsT n src dst vni).2]):=cT F254 ntmps254 λF hF=>by
 have aa:=endsT.eq_1 n src dst vni;dsimp only at aa;generalize endsT n src dst vni=res at *;have q1:=Z7 n.devices (λd=>decide (d.vtep=(dst:Int))) 327 [] [.ref 1 (Be dst) 0] rfl (λd _=>⟨⟨_,_,F327⟩,endsC1 dst d⟩) hn.devices;generalize Bs (λd:Device=>decide (d.vtep=(dst:Int))) n.devices=dev at *;have q2:=E9 n.domains (λd=>decide (d.dev=dev)&&decide (d.vni=vni)) 328 [] [.ref 1 (Aa dev) 0,.ref 1 (Aa vni) 0] rfl (λd _=>⟨⟨_,_,F328⟩,endsC2 dev vni d⟩) hn.domains;have ab:=Iw (λd:Domain=>decide (d.dev=dev)&&decide (d.vni=vni)) n.domains;generalize Bs (λd:Domain=>decide (d.dev=dev)&&decide (d.vni=vni)) n.domains=dom at *;refine fW ?_;refine Bf 4 8 (Am n) E E E ?_;refine Bf 5 1 (Be src) E E E (Bf 6 1 (Be dst) E E E ?_);refine Bf 7 1 (Aa vni) E E E (gM q1 F226 ?_);refine fU ?_;refine Bf 10 1 (Aa dev) E E E (gM q2 F222 ?_);refine gJ ?_ ?_<;>intro h
 .rw[zE (.inl (zO h))]at aa;subst aa;exact gD
 have h1:=zT h;clear h;refine gJ ?_ ?_<;>intro h
 .rw[zE (.inr (zO h))]at aa;subst aa;exact gD
 have h2:=zT h;clear h;rw[zD (λh=>h.elim h1 h2)]at aa;have ss:0<=dom:=by omega
 have ck:dom.toNat<n.domains.length:=by omega
 have e2:nth n.domains dom=n.domains[dom.toNat]:=Ae ck;have fy:=hn.peers _ (zI ck);have t8:∀k∈(n.domains[dom.toNat]'ck).peers,DomIn n k:=λk hk=>Ale hb ck hk
 obtain ⟨d,dz⟩:=kE (n.domains[dom.toNat]'ck);rw[dz]at e2 fy t8;rw[e2]at aa;have q3:=Qd d.peers (λk=>decide (C9 n k=(src:Int))) 330 [] [.ref 8 (Am n) 0,.ref 1 (Be src) 0] rfl (λk hk=>⟨⟨_,_,F330⟩,endsC3 n hb src k (t8 k hk)⟩) fy;have de:=Iw (λk:Int=>decide (C9 n k=(src:Int))) d.peers;generalize Bs (λk:Int=>decide (C9 n k=(src:Int))) d.peers=i at *;refine fU ?_;refine⟨E,ss,ck,?_⟩;rw[dz];refine gP q3 F329 ?_;refine gJ ?_ ?_<;>intro h
 .rw[zE (zO h)]at aa;subst aa;exact gD
 have h3:=zT h;clear h;rw[zD h3]at aa;have pz:i.toNat<d.peers.length:=by omega
 rw[Ae pz]at aa;subst aa;refine fU ?_;refine⟨E,by omega,pz,?_⟩;refine fW ?_;exact dN
def Aq8(n:Net)(hn:n.Fin)(b:List UInt8)(hb:b.length<100000):Sp 194 [Am n,.sl 1 Al b] (.tup [Aa (comeT n b).1,Aa (comeT n b).2.1,Df (comeT n b).2.2.1,Aa (comeT n b).2.2.2]):=cT F194 ntmps194 λF hF=>by
 have aa:=comeT.eq_1 n b;generalize comeT n b=res at *;have hr:=A2 n hn;refine fW ?_;refine Bf 2 8 (Am n) E E E (gM hr F39 ?_);cases hbn:Ac n
 .rw[zE hbn]at aa;subst aa;refine fU ?_;exact Ak 6 zF E vL dN
 rw[zD (by rw[hbn];decide)]at aa;have q1:=Aum b hb;have huo:=Aaw b;generalize Cn b=u at *;obtain ⟨src,dst,vni,f,e⟩:=u;dsimp only at aa q1 huo;have iw:=huo.2.2.2.src;refine gM q1 F253 ?_;refine gJ ?_ ?_<;>intro h
 .rw[zE (kS h)]at aa;subst aa;refine fU ?_;exact Ak 6 zF E vL dN
 rw[zD (kS h)]at aa;clear h;have q2:=endsS n hn hbn src dst vni;generalize endsT n src dst vni=en at *;obtain ⟨fr,dom⟩:=en;dsimp only at aa q2;refine gM q2 F254 ?_;refine gJ ?_ ?_<;>intro h
 .rw[zE (zO h)]at aa;subst aa;refine fU ?_;exact Ak 6 zF E vL dN
 rw[zD (zT h)]at aa;clear h;have qg:=O7 f.src q_;refine gM qg F179 ?_;cases hg:Du f.src;rotate_left
 .rw[zE hg]at aa;subst aa;refine fU ?_;exact Ak 6 zF E vL dN
 rw[zD (by rw[hg];decide)]at aa;subst aa;refine fU ?_;refine⟨z_,?_⟩;refine fW ?_;exact dN
def A5e{n:Net}(hb:Ac n=true){d:Int}(hd:DomIn n d)(hi:0<=(n.domains[d.toNat]'hd.2).irb):∃h:(n.domains[d.toNat]'hd.2).irb.toNat<n.irbs.length,(n.irbs[(n.domains[d.toNat]'hd.2).irb.toNat]'h).domain=d:=by
 simp only[Ac,zG]at hb;have:=allB_iff.1 hb.1.1.1.1.1.1.1.2 _ hd.2;simp only[Qo,zG,yO,yJ]at this;have h2:=this.1.2;rcases h2 with h2|⟨h2,h3⟩
 .omega
 .have h4:=Ch h2;have h5:(n.domains[d.toNat]'hd.2).irb.toNat<n.irbs.length:=by omega
  rw[Ae h5]at h3;have:=hd.1;exact⟨h5,by omega⟩
def Aj1(n:Net)(hn:n.Fin)(ax:n.Num)(dom:Int)(m:Nat):Sp 185 [Am n,Aa dom,Bl m] (.tup [Aa (routerT n dom m).1,Ab (routerT n dom m).2]):=cT F185 ntmps185 λF hF=>by
 have aa:=routerT.eq_1 n dom m;generalize routerT n dom m=res at *;have hr:=A2 n hn
 conv=>whnf
 constructor<;>intro h
 .have hp:Ag dom n.domains.length=false:=by
   cases hx:Ag dom n.domains.length
   .rfl
   .have:=Ch hx;have:=zO h;omega
  rw[zE (.inl hp)]at aa;subst aa
  (refine oT ?_;refine bT ?_)
  exact dN
 have h0:0<=dom:=qB h;clear h;refine gH ?_ ?_<;>intro h
 .have hp:Ag dom n.domains.length=false:=by
   cases hx:Ag dom n.domains.length
   .rfl
   .have:=Ch hx;have:=zO h;omega
  rw[zE (.inl hp)]at aa;subst aa;refine oT ?_;exact dN
 have h1:dom<n.domains.length:=qB h;clear h;have ay:Ag dom n.domains.length=true:=Mc ⟨h0,h1⟩;refine oO ?_;refine c0 hr F39 ?_;cases hbn:Ac n
 .rw[zE (.inr hbn)]at aa;subst aa;refine oT ?_;exact dN
 rw[zD (by simp[hbn,ay])]at aa;have hd:=Lw ay;have e2:nth n.domains dom=n.domains[dom.toNat]'hd.2:=Ae hd.2;have nu:=A5e hbn hd;obtain ⟨d,dz⟩:=kE (n.domains[dom.toNat]'hd.2);simp only[dz]at e2 nu;rw[e2]at aa;refine oF ?_;refine⟨E,hd.1,hd.2,?_⟩;rw[dz]
 conv=>whnf
 constructor<;>intro h
 .rw[zE (.inl (zO h))]at aa;subst aa;refine oT ?_;exact dN
 have dt:0<=d.irb:=qB h;clear h;obtain ⟨tj,j5⟩:=nu dt;have ha:=ax.addr _ (zI tj);rw[Ae tj]at aa;obtain ⟨x,hx⟩:=kE (n.irbs[d.irb.toNat]'tj);rw[hx]at ha aa;obtain ⟨a,vu⟩:=xO ha.1;have qh:=Agk a q_;rw[<-vu]at qh;refine oO ?_;refine⟨E,dt,tj,?_⟩;rw[hx]
 conv=>whnf
 refine gE qh F204 ?_;constructor<;>intro h
 .have af:hostN x.addr≠m:=λe=>by
   rw[e]at h;simp at h
  rw[zE (.inr af)]at aa;subst aa;exact gI
 .have heq:hostN x.addr=m:=by
   have:(hostN x.addr:Int)=(m:Int):=kS h;omega
  rw[zD (λh=>h.elim q_ (λh2=>h2 heq))]at aa;subst aa;exact gI
def Aeq{n:Net}{i:Int}(h:Ag i n.irbs.length=true):InIrbs n i:=by
 have:=Ch h;exact⟨this.1,by omega⟩
def Att{p:PacketM}(h:PacketOK p):PacketOK (Ae0 p):=⟨h.tos,h.id,by have:=h.ttl;show p.ttl-1<=255;omega,h.proto,h.src,h.dst⟩
def Ari(p:PacketM):ipPutT (Ae0 p)=if 1480<p.body.length then ([],14) else (Ig (Ae0 p),0):=rfl
def Avp(n:Net)(hn:n.Fin)(ax:n.Num)(irb:Int)(f:FrameM)(hf:FrameOK f):Sp 186 [Am n,Aa irb,Df f] (.tup [Aa (hopT n irb f).1,Df (hopT n irb f).2.1,Aa (hopT n irb f).2.2]):=cT F186 ntmps186 λF hF=>by
 have aa:=hopT.eq_1 n irb f;generalize hopT n irb f=res at *;have hr:=A2 n hn;have hb:=hf.body
 conv=>whnf
 constructor<;>intro h
 .have hp:Ag irb n.irbs.length=false:=by
   cases hx:Ag irb n.irbs.length
   .rfl
   .have:=Ch hx;have:=zO h;omega
  rw[zE (.inl hp)]at aa;subst aa
  (refine oT ?_;refine bT ?_)
  exact Ak 7 zF E vL dN
 have h0:0<=irb:=qB h;clear h;refine gH ?_ ?_<;>intro h
 .have hp:Ag irb n.irbs.length=false:=by
   cases hx:Ag irb n.irbs.length
   .rfl
   .have:=Ch hx;have:=zO h;omega
  rw[zE (.inl hp)]at aa;subst aa;refine oT ?_;exact Ak 7 zF E vL dN
 have h1:irb<n.irbs.length:=qB h;clear h;have ay:Ag irb n.irbs.length=true:=Mc ⟨h0,h1⟩;refine oO ?_;refine c0 hr F39 ?_;cases hbn:Ac n
 .rw[zE (.inr hbn)]at aa;subst aa;refine oT ?_;exact Ak 7 zF E vL dN
 rw[zD (by simp[hbn,ay])]at aa;refine Bf 3 8 (Am n) E E E ?_;refine Bf 5 4 (Df f) E E E (oF ?_);constructor<;>intro h
 .rw[zE (by have:¬(f.typ:Int)=2048:=(kS h);omega)]at aa;subst aa;refine oO ?_;exact Ak 7 zF E vL dN
 rw[zD (by have:(f.typ:Int)=2048:=(kS h);omega)]at aa;clear h;have q1:=Atr f.body q_;have aq:=@Z6 f.body;generalize ipTakeT f.body=tk at *;obtain ⟨p,e⟩:=tk;dsimp only at aa q1 aq;refine oO ?_;refine gE q1 F242 ?_;by_cases he:e=0;rotate_left
 .rw[zE he]at aa;subst aa;refine⟨λh=>yA (show e=0 by simpa using h) he,λ_=>?_⟩;refine oO ?_;refine⟨λ_=>?_,λh=>yA (show e=0 by simpa using h) he⟩;refine oO ?_;exact Ak 7 zF E vL dN
 subst he;rw[zD y_]at aa;obtain ⟨l6,uy⟩:=aq rfl;have u9:=l6.ttl;have tu:=l6.dst;have q2:=ipHopS p q_ u9
 (refine⟨λ_=>?_,λh=>False.elim (yA h j_)⟩;refine rg ?_;conv=>whnf)
 by_cases ht:p.ttl<=1
 .rw[zE ht]at aa;subst aa;rw[hop1,zE ht]at q2;refine c0 q2 F243 (oT ?_);exact Ak 7 zF E vL dN
 rw[zD ht]at aa;rw[hop1,zD ht]at q2;refine c0 q2 F243 ?_;have q3:=Ato n hn hbn irb p.dst (Aeq ay);have m5:=λh=>@Wj n irb p.dst h
 generalize lookT n irb p.dst=lk at *;obtain ⟨to,ok⟩:=lk;dsimp only at aa q3 m5;refine oF ?_;refine c0 q3 F244 ?_;cases ok
 .rw[zE rfl]at aa;subst aa;refine oT ?_;exact Ak 7 zF E vL dN
 rw[zD j_]at aa;have dr:=m5 rfl;have j7:=Ari p;have q4:=Aiy (Ae0 p) (Att l6) (by show p.body.length<100000;omega);rw[j7]at q4;clear j7;by_cases hl:1480<p.body.length
 .rw[zE hl]at aa q4;subst aa;refine oF ?_;refine c0 q4 F203 (oT ?_);exact Ak 7 zF E vL dN
 rw[zD hl]at aa q4;have ha:=ax.addr _ (zI dr.2);rw[Ae dr.2]at aa;obtain ⟨x,hx⟩:=kE (n.irbs[to.toNat]'dr.2);rw[hx]at ha aa;obtain ⟨a,vu⟩:=xO ha.1;have qh:=Agk a q_;rw[<-vu]at qh;have qd:=Agk p.dst tu;subst aa;refine oF ?_;refine c0 q4 F203 (oF ?_);refine⟨E,dr.1,dr.2,?_⟩;rw[hx]
 conv=>whnf
 refine cD qd F204 (oD ?_);refine⟨E,dr.1,dr.2,?_⟩;rw[hx]
 conv=>whnf
 refine cD qh F204 (gL ?_);exact dN
end
section
structure TabOK(t:List EntryM):Prop where
 short:An t
 mac:∀e∈t,e.mac<18446744073709551616
 wh:∀e∈t,I64 e.where_
structure QueuedOK(q:QueuedM):Prop where
 frame:FrameOK q.frame
 from_:-2<=q.from_/\q.from_<1099511627776
 peer:0<=q.peer/\q.peer<1099511627776
def J9(l:List QueuedM):Prop:=l.length<=64/\∀q∈l,QueuedOK q
structure MacOK(n:Net)(m:MacM)(J D:Int):Prop where
 up:m.up.length=n.links.length
 tabs:m.tables.length=n.domains.length
 ques:m.queues.length=n.domains.length
 tab:∀t∈m.tables,TabOK t
 que:∀l∈m.queues,J9 l
 now:0<=m.now/\m.now<=1099511627776
 inj:0<=m.injected/\m.injected<=J
 drp:∀i,0<=m.drops i/\m.drops i<=D
def Ki{f:FrameM}(hf:FrameOK f){a b:Int}(c:Int)(h1:-2<=a/\a<1099511627776)(h2:0<=b/\b<1099511627776):QueuedOK ⟨a,b,c,f⟩:=⟨hf,h1,h2⟩
def A0u:QueuedOK noQ:=⟨Eu,by decide,by decide⟩
def fI:TabOK []:=⟨by unfold An;decide,λ_ h=>(by cases h),λ_ h=>(by cases h)⟩
def nD:J9 []:=⟨by decide,λ_ h=>(by cases h)⟩
def cF{k:Type}{l:List k}{i:Nat}{x y:k}(h:y∈l.set i x):y=x\/y∈l:=by
 rcases tB h with h|h
 .exact .inr h
 .exact .inl h
def Ti{k:Type}{l:List k}{i:Nat}{d:k}(h:i<l.length):(l[i]?).getD d∈l:=by
 rw[zR h];exact zI h
def Jd{n:Net}{m:MacM}{J D:Int}(h:MacOK n m J D)(dom:Int):J9 (queueL m dom):=by
 unfold queueL;by_cases hd:dom.toNat<m.queues.length
 .exact h.que _ (Ti hd)
 .rw[wK q_];exact nD
def eO{n:Net}{m:MacM}{J D:Int}(h:MacOK n m J D)(dom:Int):TabOK (tableL m dom):=by
 unfold tableL;by_cases hd:dom.toNat<m.tables.length
 .exact h.tab _ (Ti hd)
 .rw[wK q_];exact fI
theorem MacOK.mono{n:Net}{m:MacM}{J D J' D':Int}(h:MacOK n m J D)(h1:J<=J')(h2:D<=D'):MacOK n m J' D' :=
 ⟨h.up,h.tabs,h.ques,h.tab,h.que,h.now,⟨h.inj.1,by have:=h.inj.2;omega⟩,λi=>⟨(h.drp i).1,by have:=(h.drp i).2;omega⟩⟩
def W6{n:Net}{m:MacM}{J D:Int}(h:MacOK n m J D)(_hD:0<=D)(e:Int):MacOK n (De m e) J (D+1):=by
 refine⟨h.up,h.tabs,h.ques,h.tab,h.que,h.now,h.inj,λi=>?_⟩;have:=h.drp i;show 0<=(if i=e.toNat then m.drops i+1 else m.drops i)/\(if i=e.toNat then m.drops i+1 else m.drops i)<=D+1;split<;>omega
def As9{n:Net}{m:MacM}{J D:Int}(h:MacOK n m J D)(dom:Int){l:List QueuedM}(hl:J9 l):MacOK n (setQ m dom l) J D:=by
 refine⟨h.up,h.tabs,by rw[setQ];simp[h.ques],h.tab,λx hx=>?_,h.now,h.inj,h.drp⟩;rcases cF hx with rfl|hx
 .exact hl
 .exact h.que x hx
def Ah2{n:Net}{m:MacM}{J D:Int}(h:MacOK n m J D)(dom:Int){l:List EntryM}(hl:TabOK l):MacOK n (Ez m dom l) J D:=by
 refine⟨h.up,by rw[Ez];simp[h.tabs],h.ques,λx hx=>?_,h.que,h.now,h.inj,h.drp⟩;rcases cF hx with rfl|hx
 .exact hl
 .exact h.tab x hx
def Az2{l:List QueuedM}(hl:J9 l){q:QueuedM}(hq:QueuedOK q):J9 (pushT l q).1:=by
 unfold pushT;split
 .exact hl
 .refine⟨by simp;omega,λx hx=>?_⟩;rcases yH.1 hx with hx|hx
  .exact hl.2 x hx
  .rw[zX.1 hx];exact hq
def Ay5{l:List QueuedM}(hl:J9 l)(at_:Int):QueuedOK (takeT l at_).1/\J9 (takeT l at_).2.1:=by
 unfold takeT;split
 .exact⟨A0u,hl⟩
 .rename_i h;refine⟨hl.2 _ (Ti q_),?_,λx hx=>hl.2 x (uT hx)⟩;have:=List.length_eraseIdx_le l at_.toNat;have:=hl.1;show (l.eraseIdx at_.toNat).length<=64;omega
def dP{n:Net}{m:MacM}{J D:Int}(h:MacOK n m J D)(hD:0<=D)(dom:Int){q:QueuedM}(hq:QueuedOK q)(e:Int):MacOK n (comeM m dom q e) J (D+1):=by
 unfold comeM;split
 .exact W6 h hD e
 split
 .exact(As9 h dom (Az2 (Jd h dom) hq)).mono (xZ _) q_
 .exact W6 h hD 3
def Aay{n:Net}{m:MacM}{J D:Int}(h:MacOK n m J D)(dom at_:Int):MacOK n (takeM m dom at_).1 J D/\QueuedOK (takeM m dom at_).2.1:=by
 unfold takeM;split
 .exact⟨h,A0u⟩
 .have:=Ay5 (Jd h dom) at_;exact⟨As9 h dom this.2,this.1⟩
def Arl{n:Net}(hn:n.Fin){m:MacM}{J D:Int}(h:MacOK n m J D)(_hJ:0<=J)(hD:0<=D)(port:Int)(b:List UInt8):MacOK n (injectT n m port b) (J+1) (D+1):=by
 unfold injectT;split
 .exact h.mono q_ q_
 .rename_i hc;have hp:Ag port n.ports.length=true:=by cases hx:Ag port n.ports.length;exact yA (.inl hx) hc;rfl
  have km:=Ch hp;have hs:=hn.ports;unfold An at hs;have h1:=h.inj;have hm:MacOK n ⟨m.up,m.tables,m.queues,m.now,m.injected+1,m.drops⟩ (J+1) D:=⟨h.up,h.tabs,h.ques,h.tab,h.que,h.now,(by show 0<=m.injected+1/\m.injected+1<=J+1;omega),h.drp⟩
  exact dP hm hD _ (Ki (lA _ _ _) _ q_ q_) _
structure OutOK(n:Net)(o:OutM):Prop where
 kind:1<=o.kind/\o.kind<=5
 bytes:o.bytes.length<=1518
 frame:o.kind=4->FrameOK o.frame/\DomIn n o.domain
 err:o.kind=5->Cf o.error
def Av9{n:Net}(hn:n.Fin)(port:Int):-1<=A4 n port/\A4 n port<2147483648:=by
 unfold A4;split
 .rename_i h;obtain ⟨⟨h1,h2⟩,h3,hb⟩:=h;have hk:port.toNat<n.ports.length:=by omega
  rw[Ae hk]at h3|-;have hl:=(Ha hb hk h3).1;rw[Ae hl];simp only[Ac,zG]at hb;have oy:=allB_iff.1 hb.1.1.1.1.2 _ hl;simp only[M2,zG]at oy;have ha:=Ch oy.1.1.1.1;have dy:=Ch oy.1.1.1.2;have hs:=hn.ports;unfold An at hs;split<;>omega
 .omega
def Amb{n:Net}(hn:n.Fin)(port:Int)(b:List UInt8):0<=(linkT n port b).1/\(linkT n port b).1<1099511627776:=by
 have:=Av9 hn port;unfold linkT;split<;>dsimp only<;>omega
def Adt{n:Net}(hn:n.Fin)(b:List UInt8):0<=(comeT n b).1/\(comeT n b).1<1099511627776:=by
 by_cases h:(comeT n b).2.2.2=0
 .have:=(lB h).1;have hs:=hn.domains;unfold An at hs;unfold DomIn at this;omega
 .unfold comeT at h|-;split
  .decide
  rename_i h1;rw[zD h1]at h;split
  .exact⟨xZ _,by dsimp only;omega⟩
  rename_i h1;rw[zD h1]at h;split
  .decide
  rename_i h1;rw[zD h1]at h;split
  .decide
  rename_i h1;rw[zD h1]at h;exact yA E h
def A2d{n:Net}(hn:n.Fin){m:MacM}{J D:Int}(h:MacOK n m J D)(hD:0<=D){o:OutM}(ho:OutOK n o)(origin:Int):MacOK n (goesM n m o origin).1 J (D+1):=by
 unfold goesM;split
 .exact h.mono (xZ _) q_
 split
 .have:=Amb hn o.port o.bytes;exact dP h hD _ (Ki (Amc _ _ _) _ q_ q_) _
 split
 .exact dP h hD _ (Ki (Ans _ _) _ q_ (Adt hn o.bytes)) _
 split
 .rename_i h4;exact dP h hD o.domain (Ki (a:=-2) (b:=0) (ho.frame h4).1 origin j_ j_) 0
 .exact W6 h hD _
def Wu{n:Net}(hn:n.Fin)(origin:Int):∀(l:List OutM) {m:MacM} {J D:Int},MacOK n m J D->0<=D->(∀o∈l,OutOK n o)->MacOK n (goesL n m origin l).1 J (D+l.length)
 |[],m,J,D,h,_,_=>by
  rw[goesL];exact h.mono (xZ _) y_
 |o::l,m,J,D,h,hD,ho=>by
  rw[goesL];have:=Wu hn origin l (A2d hn h hD (ho o y_) origin) q_ (λx hx=>ho x (by simp[hx]));exact this.mono (xZ _) (by simp only[yM];omega)
def Al3{n:Net}{o:OutM}{r:List UInt8×Int}(hk:1<=o.kind/\o.kind<=3)(hr:r.1.length<=1518)(he:Cf r.2):OutOK n (O8 o r):=by
 unfold O8;split
 .exact⟨⟨by dsimp only;omega,by dsimp only;omega⟩,by simp,λh=>yA h (by dsimp only;omega),λ_=>he⟩
 .exact⟨⟨hk.1,by have:=hk.2;dsimp only;omega⟩,hr,λh=>by have:=hk.2;dsimp only at h;omega,λh=>by have:=hk.2;dsimp only at h;omega⟩
def Aw5{t:List EntryM}(h:TabOK t){m:Nat}(hm:m<18446744073709551616){wh:Int}(hw:I64 wh)(now:Int):TabOK (learnT t m wh now):=by
 have hs:=h.short;unfold An at hs;have key:∀e:EntryM,e∈learnT t m wh now->e∈t\/e=⟨m,wh,now⟩:=λe he=>by
  unfold learnT at he;split at he
  .exact .inl he
  split at he
  .rcases cF he with h|h
   .exact .inr h
   .exact .inl h
  .rcases yH.1 he with h|h
   .split at h
    .exact .inl (uT h)
    .exact .inl h
   .exact .inr (zX.1 h)
 refine⟨?_,λe he=>?_,λe he=>?_⟩
 .unfold learnT;split
  .exact h.short
  rename_i hb;have h8:t.length<=8:=by
   have:tableB t=true:=by cases hx:tableB t;exact yA (.inl hx) hb;rfl
   simp only[tableB,zG,zJ]at this;exact this.1
  split
  .unfold An;simp;omega
  .unfold An;split
   .have:=List.length_eraseIdx_le t (oldestU t t.length);simp only[zQ,yM,xG];omega
   .simp only[zQ,yM,xG];omega
 .rcases key e he with h1|rfl
  .exact h.mac e h1
  .exact hm
 .rcases key e he with h1|rfl
  .exact h.wh e h1
  .exact hw
def Xy{t:List EntryM}(h:TabOK t){q:QueuedM}(hq:QueuedOK q)(now:Int):TabOK (learnQ t q now):=by
 unfold learnQ;split
 .exact h
 .have hs:=hq.frame.src;refine Aw5 h q_ ?_ now;have h1:=hq.from_;have h2:=hq.peer;unfold I64;split<;>omega
def A5r{t:List EntryM}(h:TabOK t)(now:Int):TabOK (ageT t now):=by
 unfold ageT;split
 .exact h
 .have hs:=h.short;unfold An at hs;refine⟨?_,λe he=>h.mac e (uB.1 he).1,λe he=>h.wh e (uB.1 he).1⟩;unfold An;exact Nat.lt_of_le_of_lt (tY _ _) hs
def Alw(n:Net)(dom:Int):(A7 n dom).length<=n.ports.length:=by
 rw[A7];have:=Jh (U9 n (nth n.domains dom)) n.ports.length;exact this
attribute [local irreducible]G DR
set_option maxRecDepth 100000
def Ad2(m:Nat)(h:m<4294967296):bits .and .u64 (m:Int) 4294967295=(m:Int):=by
 have:=bits_and_u64_nat m 4294967295 q_ j_;rw[show ((4294967295:Nat):Int)=4294967295 from rfl]at this;rw[this];have h2:=uS m 32;rw[show 2^32-1=4294967295 from rfl,show 2^32=4294967296 from rfl]at h2;rw[h2,xJ h]
def Apt(m:Nat)(h:m<4294967296):(m:Int).fdiv (2^(min (Int.toNat 32) IntKind.u64.bits))=0:=by
 show (m:Int).fdiv 4294967296=0;rw[wQ _ j_];omega
def mul64S(m:Nat)(h:m<4294967296):Sp 154 [Bl 1,Bl m] (.tup [Bl 0,Bl m]):=cT F154 ntmps154 λF hF=>by
 have e0:bits .and .u64 1 4294967295=1:=Ad2 1 j_;have e1:(1:Int).fdiv (2^(min (Int.toNat 32) IntKind.u64.bits))=0:=Apt 1 j_;have e2:=Ad2 m h;have e3:=Apt m h;have w1:IntKind.u64.wrap (1*(m:Int))=m:=by rw[IntKind.wrap_u64];omega
 have w0:IntKind.u64.wrap (0*(m:Int))=0:=by rw[IntKind.wrap_u64];omega
 have z0:IntKind.u64.wrap (0+0)=0:=rfl;have a0:bits .and .u64 0 4294967295=0:=Ad2 0 j_;have s0:(0:Int).fdiv (2^(min (Int.toNat 32) IntKind.u64.bits))=0:=Apt 0 j_
 conv=>whnf
 rw[e0];refine⟨by decide,?_⟩;rw[e1]
 conv=>whnf
 rw[e2];refine⟨by decide,?_⟩;rw[e3]
 conv=>whnf
 rw[w1,w0];refine⟨by decide,?_⟩;rw[e3]
 conv=>whnf
 rw[z0,a0];refine⟨by decide,?_⟩;rw[s0]
 conv=>whnf
 refine⟨by decide,?_⟩
 conv=>whnf
 refine Ar E (.cons .tmp Aq) ?_ E;refine zH (λz:Int=>SV.tup [Bl 0,Bl z]) ?_;exact w1.symm
def mulS(m:Nat)(h:m<4294967296):Sp 91 [Bl 1,Bl m] (.tup [Bl 0,Bl m]):=cT F91 ntmps91 λF hF=>by
 ((conv=>whnf);refine aF ?_;refine rg ?_;conv=>whnf)
 refine gE (mul64S m h) F154 ?_;exact dN
def Ow(m k:Nat):List Bool:=List.replicate k true++List.replicate (m-k) false
def V4(m k:Nat)(h:k<=m):(Ow m k).length=m:=by simp[Ow];omega
def Azu(m:Nat):Ow m m=List.replicate m true:=by simp[Ow]
def Avs(m k c:Nat)(_h:k<=m)(hc:c=min k (m-k)):(Ow m k).take k++(Ow m k).take c++(Ow m k).drop (k+c)=Ow m (k+c):=by
 have e1:(Ow m k).take k=List.replicate k true:=by
  rw[Ow,vD y_];simp
 have e2:(Ow m k).take c=List.replicate c true:=by
  rw[Ow,vD kO];simp;omega
 have e3:(Ow m k).drop (k+c)=List.replicate (m-(k+c)) false:=by
  rw[Ow,List.drop_append,vS y_,wL];simp;omega
 rw[e1,e2,e3,Ow,List.replicate_append_replicate]
def Atc(m:Nat)(h:m<2147483648):Sp 100 [.sl 1 Ab [true],Aa m] (.sl 1 Ab (List.replicate m true)):=cT F100 ntmps100 λF hF=>by
 have hw:IntKind.u64.wrap (m:Int)=m:=by rw[IntKind.wrap_u64];omega
 have zi:IntKind.i64.wrap (m:Int)=m:=by rw[IntKind.wrap_i64];omega
 have q:=mulS m q_;rw[<-hw]at q
 ((conv=>whnf);refine aF ?_;refine rg ?_;conv=>whnf)
 refine c0 q F91 ?_;rw[hw];refine oF ?_;refine⟨λh1=>yA (zO h1) q_,λ_=>?_⟩;refine oO ?_;rw[zi];refine Aj (B4 Γ.toTy (d:=30) (n:=m) Ab false E E E E E E E E q_ q_ E E E) E E (oO ?_);refine Aj (X0 Γ.toTy (l:=List.replicate m false) (m:=[true]) E E E E E .sl) E E ?_;have e0:[true].take (List.replicate m false).length++(List.replicate m false).drop [true].length=Ow m (min 1 m):=by
  cases m with
  |zero=>rfl
  |succ m=>simp[Ow,Nat.min_eq_left,tM]
 have e1:min [true].length (List.replicate m false).length=min 1 m:=by simp
 rw[e0,e1];refine oO ?_;refine Cd (λk:Nat=>min 1 m<=k/\k<=m) (λk=>[(7,.osl 30),(8,Aa k)]) (λk=>[(30,.row 1 Ab (Ow m k))]) (λk=>m-k) (min 1 m) [] q_ kU ?_;intro k hk;have hl:=V4 m k hk.2;refine oO ?_;constructor<;>intro h1
 .have ab:k<m:=by have:=zO h1;rw[hl]at this;omega
  clear h1;have cy:1<=k:=by omega
  have af:Ow m k≠[]:=λe=>by rw[e]at hl;simp at hl;omega
  refine Aoj 30 [7] E af (λi hi=>by simp at hi;subst hi;rfl) ?_;intro b cap hc;rw[hl]at hc|-;have ie:¬cap=k:=by omega
  have o7:=Avs m k (min k (m-k)) hk.2 rfl;refine oO ?_;refine Ce (Ds (lo:=k) (hi:=m) Γ.toTy E E E E (.inr ⟨_,_,E,E⟩) (.inl ⟨E,E⟩) q_ q_) z_ E (oD ?_);refine Ce (Ds (lo:=0) (hi:=k) Γ.toTy E E E E (.inl ⟨E,E⟩) (.inr ⟨_,_,E,E⟩) q_ q_) z_ E (oD ?_);refine Ce (Zb Γ.toTy 30 (lo:=k) (k:=k) E E E E (by rw[zD ie,Nat.mul_one]) E (by rw[zD q_,Nat.zero_mul]) E hl q_ q_) z_ E (oD ?_);refine iW ?_;refine kW ?_;refine eF 30 31 [7] m E E (by rw[o7,V4 m _ q_];exact yE _) (λi hi=>by simp at hi;subst hi;rfl) ?_;have gj:((Ow m k).take k++(Ow m k).take (min k (m-k))++(Ow m k).drop (k+min k (m-k))).take m=Ow m (k+min k (m-k)):=by
   rw[o7,xI (by rw[V4 m _ q_];exact yE _)]
  exact Ax (k+min k (m-k)) [(30,31)] q_ q_ ⟨kA,⟨.inl (zH (Ob.row 1 Ab) gj.symm),E,Y⟩,E,E⟩
 .have hkm:k=m:=by have:=zT h1;rw[hl]at this;omega
  subst hkm;rw[Azu];refine oO ?_;exact Ai 30 E dN
def Hp(t:List EntryM):SV:=.sl 3 A9 t
def Q1(l:List QueuedM):SV:=.sl 7 B9 l
def T1(n:Net)(k:Nat)(now inj:Int)(d:Nat->Int):List SV :=
 [.sl 5 A1 n.devices,.sl 7 Bb n.ports,.sl 3 Ck n.links,.sl 6 At n.domains,.sl 4 Bc n.statics,.sl 4 Bn n.floods,.sl 5 Ct n.vrfs,.sl 5 Cq n.irbs,.ptr k 0,.osl 2,.osl 3,.val (.int .i64 now),.val (.int .i64 inj),
 .val (.int .i64 (d 0)),.val (.int .i64 (d 1)),.val (.int .i64 (d 2)),.val (.int .i64 (d 3)),.val (.int .i64 (d 4)),.val (.int .i64 (d 5)),.val (.int .i64 (d 6)),.val (.int .i64 (d 7)),.val (.int .i64 (d 8)),.val (.int .i64 (d 9)),.val (.int .i64 (d 10)),.val (.int .i64 (d 11)),.val (.int .i64 (d 12)),.val (.int .i64 (d 13)),.val (.int .i64 (d 14)),.val (.int .i64 (d 15)),.val (.int .i64 (d 16)),.val (.int .i64 (d 17)),.val (.int .i64 (d 18)),.val (.int .i64 (d 19)),.val (.int .i64 (d 20)),.val (.int .i64 (d 21)),.val (.int .i64 (d 22)),.val (.int .i64 (d 23)),.val (.int .i64 (d 24)),.val (.int .i64 (d 25)),.val (.int .i64 (d 26)),.val (.int .i64 (d 27)),.val (.int .i64 (d 28)),.val (.int .i64 (d 29)),.val (.int .i64 (d 30)),.val (.int .i64 (d 31)),.val (.int .i64 (d 32)),.val (.int .i64 (d 33)),.val (.int .i64 (d 34)),.val (.int .i64 (d 35)),.val (.int .i64 (d 36)),.val (.int .i64 (d 37)),.val (.int .i64 (d 38)),.val (.int .i64 (d 39)),.val (.int .i64 (d 40)),.val (.int .i64 (d 41)),.val (.int .i64 (d 42)),.val (.int .i64 (d 43)),.val (.int .i64 (d 44)),.val (.int .i64 (d 45)),.val (.int .i64 (d 46)),.val (.int .i64 (d 47)),.val (.int .i64 (d 48)),.val (.int .i64 (d 49)),.val (.int .i64 (d 50)),.val (.int .i64 (d 51)),.val (.int .i64 (d 52)),.val (.int .i64 (d 53)),.val (.int .i64 (d 54)),.val (.int .i64 (d 55)),.val (.int .i64 (d 56)),.val (.int .i64 (d 57)),.val (.int .i64 (d 58)),.val (.int .i64 (d 59)),.val (.int .i64 (d 60)),.val (.int .i64 (d 61)),.val (.int .i64 (d 62)),.val (.int .i64 (d 63))]
def onceL(up:List Bool)(done:Int)(fw:List Bool):List SV:=[.sl 1 Ab up,.val (.int .u32 done),.val (.int .i32 0),.val (.int .u32 0),.sl 1 Ab fw]
def K4(n:Net)(up:List Bool)(d:Bool):List SV:=onceL up (if d then 1 else 0) (if d then Kv n up else [])
def D1(n:Net)(m:MacM)(d:Bool):Obs:=[(0,.box (T1 n 1 m.now m.injected m.drops)),(1,.box (K4 n m.up d)),(2,.row 1 Hp m.tables),(3,.row 1 Q1 m.queues)]
def getI_map(f:Nat->SV):∀(k a n:Nat),k<n->Iu ((List.range' a n).map f) k=some (f (a+k))
 |0,a,n+1,_=>rfl
 |k+1,a,n+1,h=>by
  show Iu ((List.range' (a+1) n).map f) k=_;rw[getI_map f k (a+1) n q_];congr 2;omega
def As8(f:Nat->SV)(x:SV):∀(k a n:Nat),((List.range' a n).map f).set k x=(List.range' a n).map (λi=>if i=a+k then x else f i)
 |_,_,0=>rfl
 |0,a,n+1=>by
  show x::(List.range' (a+1) n).map f=(if a=a+0 then x else f a)::(List.range' (a+1) n).map _;rw[zE q_];congr 1;apply tL;intro i hi;have:=(List.mem_range'_1.1 hi).1;rw[zD q_]
 |k+1,a,n+1=>by
  show f a::((List.range' (a+1) n).map f).set k x=(if a=a+(k+1) then x else f a)::(List.range' (a+1) n).map _;rw[zD q_,As8 f x k (a+1) n];congr 1;apply tL;intro i _;rw[show a+1+k=a+(k+1) by omega]
def Zq(n:Net)(k:Nat)(now inj:Int)(d:Nat->Int):T1 n k now inj d =
  .sl 5 A1 n.devices::.sl 7 Bb n.ports::.sl 3 Ck n.links::.sl 6 At n.domains::.sl 4 Bc n.statics::.sl 4 Bn n.floods::.sl 5 Ct n.vrfs::.sl 5 Cq n.irbs::.ptr k 0::.osl 2::.osl 3::.val (.int .i64 now)::.val (.int .i64 inj) ::
   (List.range' 0 64).map (λi=>.val (.int .i64 (d i))):=rfl
def Azm(n:Net)(k:Nat)(now inj:Int)(d:Nat->Int)(e:Nat)(he:e<64):Iu (T1 n k now inj d) (13+e)=some (.val (.int .i64 (d e))):=by
 rw[Zq,tQ];show Iu ((List.range' 0 64).map (λi=>SV.val (.int .i64 (d i)))) e=_;rw[getI_map _ e 0 64 he,wF]
def Azl(n:Net)(k:Nat)(now inj:Int)(d:Nat->Int)(e:Nat)(v:Int):(T1 n k now inj d).set (13+e) (.val (.int .i64 v))=T1 n k now inj (λi=>if i=e then v else d i):=by
 rw[Zq,Zq,tQ];have h:=As8 (λi=>SV.val (.int .i64 (d i))) (.val (.int .i64 v)) e 0 64;have h2:(λi=>if i=0+e then SV.val (.int .i64 v) else SV.val (.int .i64 (d i)))=(λi=>SV.val (.int .i64 (if i=e then v else d i))):=by
  funext i;rw[wF];split<;>rfl
 rw[h2]at h;rw[<-h];rfl
def add64(a:Addr)(x y:Int)(w:World)(hc:w.cell? a=some (.int .i64 x))(hz:w.frozen? a=false):(callFunc 251 #[.pointer (some a),.int .i64 y]).run prog w=.ok (.value (.int .i64 (IntKind.i64.wrap (x+y)))) (w.setCell a (.int .i64 (IntKind.i64.wrap (x+y)))) :=
 run_call_add func251 z_ z_ z_ .i64 z_ hc hz rfl
def Avh(n:Net)(k:Nat)(m:MacM)(e:Int):T1 n k m.now m.injected (De m e).drops=(T1 n k m.now m.injected m.drops).set (13+e.toNat) (.val (.int .i64 (m.drops e.toNat+1))):=by
 rw[Azl];congr 1;funext i;show (if i=e.toNat then m.drops i+1 else m.drops i)=_;split
 .rename_i h;rw[h]
 .rfl
def Ar8{x:Int}(h:0<=x/\x<=1000000000000):IntKind.i64.wrap (x+1)=x+1:=by
 rw[IntKind.wrap_i64];omega
def Asq(n:Net)(m:MacM)(d:Bool)(e:Int)(h0:0<=e)(h1:e<64)(hb:IntKind.i64.wrap (m.drops e.toNat+1)=m.drops e.toNat+1):Sq 192 [.ptr 0 (13+e.toNat),Aa 1] (D1 n m d) (Aa (m.drops e.toNat+1)) (D1 n (De m e) d):=cT F192 ntmps192 λF hF=>by
 have hg:=Azm n 1 m.now m.injected m.drops e.toNat q_;have hs:=Avh n 1 m e;have ab:=Aaj hg;refine fW ?_;refine Aj (Ai3 add64 E E E E hg hb) E E (fU ?_);exact done E Aq [] (D1 n (De m e) d) (λ_ h=>h) E E ⟨Y,⟨.inl (zH Ob.box hs),E,.inl E,E,.inl E,E,.inl E,E,Y⟩,E,E⟩
def Anj(n:Net)(m:MacM)(d:Bool)(e:Int)(h0:0<=e)(h1:e<64)(hb:0<=m.drops e.toNat/\m.drops e.toNat<=1000000000000):Sq 111 [.ptr 0 0,Aa e] (D1 n m d) (.tup []) (D1 n (De m e) d):=cT F111 ntmps111 λF hF=>by
 refine fW ?_;refine⟨h0,by omega,?_⟩;refine fU ?_;refine Aj (Ad [] E F192 (Asq n m d e h0 h1 (Ar8 hb)) (zH (λz=>[SV.ptr 0 z,Aa 1]) (show 13+e.toNat=0+13+e.toNat*1 by omega)) kA E kB) E E (fU ?_);exact A6 E .nil [] (D1 n (De m e) d) (λ_ h=>h) E E kU
def Ah0(n:Net)(m:MacM)(d:Bool)(dom:Int):Sq 103 [.ptr 0 0,Aa dom] (D1 n m d) (Ab (Ag dom m.queues.length)) (D1 n m d):=cT F103 ntmps103 λF hF=>by
 have aa:Ag dom m.queues.length=(decide (0<=dom)&&decide (dom<m.queues.length)):=rfl;generalize Ag dom m.queues.length=res at *;refine fW ?_;constructor<;>intro h
 .refine fU ?_
  (repeat (first|(refine⟨λh=>False.elim (by first|(exact yA h j_)|(simp at h;done)|(simp at h;omega)),λ_=>?_⟩;(refine fU ?_))|(refine⟨λ_=>?_,λh=>False.elim (by first|(exact yA h j_)|(simp at h;done)|(simp at h;omega))⟩;(refine fU ?_))))
  refine done E Aq [] (D1 n m d) (λ_ h=>h) ?_ E kU;rw[aa,h];rfl
 .refine fU ?_
  (repeat (first|(refine⟨λh=>False.elim (by first|(exact yA h j_)|(simp at h;done)|(simp at h;omega)),λ_=>?_⟩;(refine fU ?_))|(refine⟨λ_=>?_,λh=>False.elim (by first|(exact yA h j_)|(simp at h;done)|(simp at h;omega))⟩;(refine fU ?_))))
  refine done E Aq [] (D1 n m d) (λ_ h=>h) ?_ E kU;rw[aa,h];rfl
def Ar0(f:FrameM)(hb:f.body.length<100000):Sp 235 [Df f] (Df f):=cT F235 ntmps235 λF hF=>by
 conv=>whnf
 refine Aj (B4 Γ.toTy (d:=7) (n:=f.body.length) Al 0 E E E E E E E E q_ q_ E E E) E E (oO ?_);refine Aj (X0 Γ.toTy (l:=List.replicate f.body.length 0) (m:=f.body) E E E E E .sl) E E (oO ?_);refine Ai 7 E (oO ?_);refine Ar E (.cons (.cell E E E E) .nil) ?_ E;show SV.agg [_,_,_,.sl 1 Al f.body]=SV.agg [_,_,_,.sl 1 Al (f.body.take (List.replicate f.body.length (0:UInt8)).length++(List.replicate f.body.length (0:UInt8)).drop f.body.length)];have e:f.body.take (List.replicate f.body.length (0:UInt8)).length++(List.replicate f.body.length (0:UInt8)).drop f.body.length=f.body:=by
  rw[xU,yN,vS y_,xD]
 rw[e];rfl
def Ajk(q:QueuedM)(hb:q.frame.body.length<100000):Sp 176 [B9 q] (B9 q):=cT F176 ntmps176 λF hF=>by
 have qc:=Ar0 q.frame hb
 conv=>whnf
 refine gE qc F235 ?_;exact dN
def Xl(l:List QueuedM):Prop:=∀q∈l,q.frame.body.length<100000
def A5o(l:List QueuedM)(hl:l.length<1000000)(hb:Xl l):Sq 175 [.sl 7 B9 l] [] (.osl 0) [(0,.row 7 B9 l)]:=cT F175 ntmps175 λF hF=>by
 conv=>whnf
 refine Ca 3 1000 7 B9 E E ?_;refine Bg l.length (λj=>[(3,.osl 1000),(6,.sl 7 B9 l),(7,Aa l.length),(8,Aa j)]) (λj=>[(1000,.row 7 B9 (l.take j))]) [] kU ?_;intro j hj;refine gH ?_ ?_<;>intro h
 .have ab:j<l.length:=qA h;have ai:(j:Int).toNat<l.length:=kS ab;obtain ⟨q,hq⟩:=kE (l[j]);have e1:l[(j:Int).toNat]'ai=q:=hq;have hs:l.take (j+1)=l.take j++[q]:=by rw[yD ab,hq]
  have l7:=hb q (by rw[<-hq];exact zI ab);have js:(l.take j).length=j:=by rw[zY];omega
  clear h;refine oO ?_;refine⟨E,by omega,ai,?_⟩;rw[e1]
  conv=>whnf
  refine gE (Ajk q l7) F176 ?_;refine Aj (Ah Γ.toTy 16 E E E E E (.row E) (.lit (e:=B9) (l:=[q]) E E) y_ (by rw[js];simp;omega) (by rw[js];simp;omega)) E E (gF ?_);exact Az [(1000,16)] ab ⟨kA,⟨.inl (zH (Ob.row 7 B9) hs),E,Y⟩,E,E⟩
 .have gl:j=l.length:=qB h;subst gl;rw[yN];refine oO ?_;exact done E Aq [(0,1000)] [(0,.row 7 B9 l)] (λ_ h=>h) E E kU
def Ak5(l:List QueuedM)(q:QueuedM)(hl:l.length<1000000)(hb:Xl l)(l7:q.frame.body.length<100000):Sp 182 [.sl 7 B9 l,B9 q] (.tup [.sl 7 B9 (pushT l q).1,Ab (pushT l q).2]):=cT F182 ntmps182 λF hF=>by
 have aa:=pushT.eq_1 l q;generalize pushT l q=res at *
 conv=>whnf
 refine Aj (Ad [(0,55)] E F175 (A5o l hl hb) E Y E ⟨.inr E,Y⟩) E E ?_;refine gH ?_ ?_<;>intro h
 .rw[zE (qA h)]at aa;subst aa;refine oO ?_;exact Ai 55 E dN
 .rw[zD (qB h)]at aa;subst aa;refine oO ?_;refine gE (Ajk q l7) F176 ?_;exact Aj (Ah Γ.toTy 17 E E E E E (.row E) (.lit (e:=B9) (l:=[q]) E E) j_ kO kO) E E (Ai 17 E gI)
def Abr(l:List QueuedM)(at_:Int)(hl:l.length<1000000)(hb:Xl l):Sp 106 [.sl 7 B9 l,Aa at_] (.tup [B9 (takeT l at_).1,.sl 7 B9 (takeT l at_).2.1,Ab (takeT l at_).2.2]):=cT F106 ntmps106 λF hF=>by
 have aa:=takeT.eq_1 l at_;generalize takeT l at_=res at *
 conv=>whnf
 constructor<;>intro h
 .rw[zE (.inl (zO h))]at aa;subst aa;refine oT ?_;refine Aj (Ad [(0,55)] E F175 (A5o l hl hb) E Y E ⟨.inr E,Y⟩) E E ?_;refine Ai 55 E (oO ?_);exact Ak 4 [Aa 0,Aa 0,Aa 0,Bl 0,Bl 0,Aa 0,.sl 1 Al []] E vL dN
 have h0:0<=at_:=qB h;clear h;refine gH ?_ ?_<;>intro h
 .rw[zE (.inr (zO h))]at aa;subst aa;refine oO ?_;refine Aj (Ad [(0,55)] E F175 (A5o l hl hb) E Y E ⟨.inr E,Y⟩) E E ?_;refine Ai 55 E (oO ?_);exact Ak 4 [Aa 0,Aa 0,Aa 0,Bl 0,Bl 0,Aa 0,.sl 1 Al []] E vL dN
 have h1:at_<l.length:=qB h;clear h;have hk:at_.toNat<l.length:=by omega
 have af:l≠[]:=λe=>by rw[e]at hk;simp at hk
 have pc:((at_.toNat:Nat):Int)=at_:=by omega
 rw[zD q_,zR hk,Option.getD_some]at aa;obtain ⟨q,hq⟩:=kE (l[at_.toNat]'hk);rw[hq]at aa;have l7:=hb q (by rw[<-hq];exact zI hk);refine A6c 0 90 E af ?_;intro B off cap iv;refine run Γ hm 3 ?_
 conv=>whnf
 refine Ce (nO 90 (.inl E) E E) z_ E (oD ?_);refine⟨E,h0,hk,?_⟩;rw[hq]
 conv=>whnf
 refine cD (Ajk q l7) F176 (oD ?_);refine Ce (Y8 (hi:=at_.toNat) Γ.toTy E E E E (zH (λz=>SV.val (.int .i64 z)) pc.symm) (zH (λz=>SV.val (.int .i64 z)) pc.symm) q_) z_ E ?_;refine Ce (nO 90 (.inl E) E E) z_ E (oD ?_);refine iW ?_;refine Ce (D3 (lo:=at_.toNat+1) (hi:=l.length) Γ.toTy E E E E (.inr ⟨_,_,E,zH (λz=>SV.val (.int .i64 z)) q_⟩) (.inl ⟨E,E⟩) q_ (yE _)) z_ E ?_;have js:((l.take l.length).drop (at_.toNat+1)).length=l.length-(at_.toNat+1):=by rw[yP,zY];omega
 refine Ce (Zc Γ.toTy 90 E E E E E E (Nat.le_of_lt hk) E (by rw[js];omega) (by rw[js];omega)) z_ E ?_;have he:l.take at_.toNat++(l.take l.length).drop (at_.toNat+1)=l.eraseIdx at_.toNat:=by rw[yN,List.eraseIdx_eq_take_drop_succ]
 have hel:(l.take at_.toNat++(l.take l.length).drop (at_.toNat+1)).length<1000000:=by rw[he,List.length_eraseIdx];split<;>omega
 have heb:Xl (l.take at_.toNat++(l.take l.length).drop (at_.toNat+1)):=by rw[he];exact λx hx=>hb x (uT hx)
 refine oD ?_;refine Ce (Ad [(0,55)] E F175 (A5o _ hel heb) E Y E ⟨.inr E,Y⟩) z_ E (gL ?_);refine Ai 55 E ?_;refine Ar E (.cons (.cell E E E E) (.cons .tmp Aq)) ?_ E;subst aa;show SV.tup [_,.sl 7 B9 (l.eraseIdx at_.toNat),_]=SV.tup [_,.sl 7 B9 (l.take at_.toNat++(l.take l.length).drop (at_.toNat+1)),_];rw[he];rfl
def Ji{k:Type}(q:k->Bool)(l:List k):Nat->Nat
 |0=>0
 |j+1=>match l[j]? with
  |some x=>if q x=true then Ji q l j+1 else Ji q l j
  |none=>Ji q l j
def dfC{k:Type}(q:k->Bool)(l:List k):Nat->List k
 |0=>l
 |j+1=>match l[j]? with
  |some x=>if q x=true then (dfC q l j).set (Ji q l j) x else dfC q l j
  |none=>dfC q l j
def Aam{k:Type}(q:k->Bool)(l:List k)(j:Nat):Ji q l j<=j:=by
 induction j with
 |zero=>exact yE _
 |succ j ih=>
  simp only[Ji];split
  .split<;>omega
  .omega
def aE{k:Type}(q:k->Bool)(l:List k)(j:Nat):(dfC q l j).length=l.length:=by
 induction j with
 |zero=>rfl
 |succ j ih=>
  simp only[dfC];split
  .split
   .rw[yQ];exact ih
   .exact ih
  .exact ih
def At8{a:Type}(q:a->Bool)(l:List a)(j k:Nat)(h:j<=k):(dfC q l j)[k]? = l[k]?:=by
 induction j with
 |zero=>rfl
 |succ j ih=>
  simp only[dfC];split
  .split
   .rw[List.getElem?_set_ne (by have:=Aam q l j;omega)];exact ih q_
   .exact ih q_
  .exact ih q_
def Anm{k:Type}(q:k->Bool)(l:List k)(j:Nat)(h:j<=l.length):(dfC q l j).take (Ji q l j)=(l.take j).filter q:=by
 induction j with
 |zero=>rfl
 |succ j ih=>
  have hj:j<l.length:=by omega
  have ih:=ih q_;have hc:=Aam q l j;simp only[dfC,Ji,zR hj];rw[vX,zR hj,List.filter_append];by_cases hq:q l[j]=true
  .rw[zE hq,zE hq];have ab:Ji q l j<((dfC q l j).set (Ji q l j) l[j]).length:=by rw[yQ,aE];omega
   rw[vX,zR ab,tA];rw[List.take_set_of_le (yE _),ih];simp[hq]
  .rw[zD hq,zD hq,ih];simp[hq]
def Ag2{a:Type}(q:a->Bool)(l:List a)(i:Nat)(hi:i<=l.length)(h:∀k (hk:k<l.length),k<i->q l[k]=true):dfC q l i=l/\Ji q l i=i:=by
 induction i with
 |zero=>exact⟨rfl,rfl⟩
 |succ i ih=>
  obtain ⟨h1,h2⟩:=ih q_ (λk hk pz=>h k hk q_);have mz:i<l.length:=by omega
  simp only[dfC,Ji,zR mz];rw[zE (h i mz q_),zE (h i mz q_),h1,h2];exact⟨uO mz,E⟩
def Qe{a:Type}(p:a->Bool)(l:List a):(Bs p l=-1/\∀x∈l,p x=false)\/∃(i:Nat) (hi:i<l.length),Bs p l=i/\p l[i]=true/\∀k (hk:k<l.length),k<i->p l[k]=false:=by
 unfold Bs;cases h:l.findIdx? p with
 |none=>exact .inl ⟨rfl,kS h⟩
 |some i=>
  rw[wG]at h;obtain ⟨hi,h1,h2⟩:=h;exact .inr ⟨i,hi,E,h1,λk hk pz=>kS (h2 k pz)⟩
def W9:=iE A9 3 F105 ntmps105
def Tg:=iD A9 3 F233 ntmps233
def dK(l:List EntryM)(p:EntryM->Bool)(f:FuncId)(first cap:List SV)(hc:(SV.clo (.func f) first cap).inn []=true)(d8:(SV.clo (.func f) first cap).inn [0]=true)(hf:∀x∈l,Hg prog f (first++[A9 x]++cap) (Ab (p x)))(hl:An l):Sq 195 [.osl 0,.clo (.func f) first cap] [(0,.row 3 A9 l)] (.osl 1) [(0,.non),(1,.row 3 A9 (l.filter λx=>!(p x)))]:=cT F195 ntmps195 λF hF=>by
 have qi:=Tg l p f first cap hc hf hl
 unfold An at hl;have a6:∀x:EntryM,B7 [] (first++[A9 x]++cap)=true:=λx=>Db hc rfl
 conv=>whnf
 refine Aua [0] qi F233 E (.cons (.row E E) (.cons (.refl _) .nil)) (by simp only[B7,hc,uH];rfl) E E ?_;rcases Qe p l with ⟨h1,h2⟩|⟨i,hi,h1,h2,h3⟩
 .rw[h1];have e1:(l.filter λx=>!(p x))=l:=List.filter_eq_self.2 (λx hx=>by simp[h2 x hx]);rw[e1];refine oT ?_;refine Asy 0 1000 [0,4] E E j_ (by simp;exact⟨E,E⟩) ?_;exact done E Aq [(0,0),(1,1000)] _ (λ_ h=>h) E E kU
 obtain ⟨f1,f2⟩:=Ag2 (λx=>!(p x)) l i q_ (λk hk pz=>by simp[h3 k hk pz]);have g1:dfC (λx=>!(p x)) l (i+1+0)=l:=by
  show dfC (λx=>!(p x)) l (i+1)=l;simp only[dfC,zR hi];rw[zD (by simp[h2]),f1]
 have g2:Ji (λx=>!(p x)) l (i+1+0)=i:=by
  show Ji (λx=>!(p x)) l (i+1)=i;simp only[Ji,zR hi];rw[zD (by simp[h2]),f2]
 rw[h1];refine oF ?_;refine iW ?_;refine Bg (l.length-(i+1)) (λj=>[(0,.osl 0),(1,.clo (.func f) first cap),(5,Aa (Ji (λx=>!(p x)) l (i+1+j))),(6,Aa ((i+1+j:Nat)))]) (λj=>[(0,.row 3 A9 (dfC (λx=>!(p x)) l (i+1+j)))]) []
  ⟨⟨rfl,rfl,Bh _,d8,zH Aa (zH Int.ofNat g2),rfl,zH (λz=>SV.val (.int .i64 z)) q_,rfl,trivial⟩,⟨.inl (zH (Ob.row 3 A9) g1),rfl,trivial⟩,rfl,rfl⟩ ?_
 intro j hj;have ie:=Aam (λx=>!(p x)) l (i+1+j);have gh:=aE (λx=>!(p x)) l (i+1+j);have bc:=At8 (λx=>!(p x)) l (i+1+j) (i+1+j) (yE _);have s1:∀h:i+1+j<l.length,Ji (λx=>!(p x)) l (i+1+(j+1))=if (!(p l[i+1+j]))=true then Ji (λx=>!(p x)) l (i+1+j)+1 else Ji (λx=>!(p x)) l (i+1+j):=λab=>by
  show Ji (λx=>!(p x)) l (i+1+j+1)=_;simp only[Ji,zR ab]
 have s2:∀h:i+1+j<l.length,dfC (λx=>!(p x)) l (i+1+(j+1))=if (!(p l[i+1+j]))=true then (dfC (λx=>!(p x)) l (i+1+j)).set (Ji (λx=>!(p x)) l (i+1+j)) l[i+1+j] else dfC (λx=>!(p x)) l (i+1+j):=λab=>by
  show dfC (λx=>!(p x)) l (i+1+j+1)=_;simp only[dfC,zR ab]
 have ig:=λh=>Anm (λx=>!(p x)) l (i+1+j) h
 obtain ⟨D,hD⟩:∃D,dfC (λx=>!(p x)) l (i+1+j)=D:=⟨_,rfl⟩
 obtain ⟨K,hK⟩:∃K,Ji (λx=>!(p x)) l (i+1+j)=K:=⟨_,rfl⟩
 rw[hD]at gh bc s2 ig|-;rw[hK]at ie s1 s2 ig|-;refine gH ?_ ?_<;>intro h
 .have ab:i+1+j<l.length:=qA h;have p8:=hf l[i+1+j] (zI ab);have s1:=s1 ab;have s2:=s2 ab;rw[zR ab,zR q_]at bc;have bc:=Option.some.inj bc;obtain ⟨x,hx⟩:=kE (l[i+1+j]);rw[hx]at p8 s1 s2 bc;refine oO ?_;refine⟨by omega,by simp;omega,?_⟩
  conv=>whnf
  refine⟨E,by omega,?_⟩;rw[show D[((i+1+j:Nat):Int).toNat]'q_=x from bc]
  conv=>whnf
  refine Ek p8 E E E (by simp only[a6];rfl) E E ?_;cases su:p x
  .rw[su]at s1 s2;refine oT ?_;refine⟨by omega,by simp;omega,?_⟩
   conv=>whnf
   refine⟨E,by omega,x,E,E,?_⟩
   conv=>whnf
   refine iW ?_;refine iW ?_;exact Az [] q_ ⟨⟨E,E,Bh _,d8,zH Aa (zH Int.ofNat s1),E,zH (λz=>SV.val (.int .i64 z)) q_,E,Y⟩,⟨.inl (zH (Ob.row 3 A9) s2),E,Y⟩,E,E⟩
  .rw[su]at s1 s2;refine oF ?_;refine iW ?_;exact Az [] q_ ⟨⟨E,E,Bh _,d8,zH Aa (zH Int.ofNat s1),E,zH (λz=>SV.val (.int .i64 z)) q_,E,Y⟩,⟨.inl (zH (Ob.row 3 A9) s2),E,Y⟩,E,E⟩
 .have kf:i+1+j=l.length:=qB h;have af:D≠[]:=λh=>by rw[h]at gh;simp at gh;omega
  have ig:=ig q_;rw[show l.take (i+1+j)=l from xI q_]at ig;refine Aoj 0 [0] E af (by simp;rfl) ?_;intro b d6 iv;refine oO ?_;refine Aj (Ds Γ.toTy E E E E (.inr ⟨_,_,E,E⟩) (.inl ⟨E,E⟩) q_ q_) E E (oO ?_);refine Aj (Qf Γ.toTy 0 (k:=K) E E E E j_ E E E q_ q_) E E (oO ?_);refine Aj (Ds Γ.toTy E E E E (.inl ⟨E,E⟩) (.inr ⟨_,_,E,E⟩) q_ q_) E E (oO ?_);refine eF 0 1000 [4] K E E (by rw[zY];omega) (λi hi=>?_) ?_
  .rw[zX]at hi;subst hi;show SV.val (.slice (some (if d6=0 then ⟨b,0,none⟩ else ⟨b,0*3,none⟩)) (K-0) (d6-0))=_;split<;>simp
  refine done E Aq [(0,0),(1,1000)] _ (λ_ h=>h) E E ⟨Y,⟨.inl E,E,.inl ?_,E,Y⟩,E,E⟩;rw[<-ig];exact zH (Ob.row 3 A9) (by rw[List.take_take,Nat.min_self])
def Afa(l:List EntryM)(i:Nat)(hi:i<l.length)(_hl:An l):Sq 310 [.osl 0,Aa i,Aa ((i+1:Nat):Int)] [(0,.row 3 A9 l)] (.osl 1) [(0,.non),(1,.row 3 A9 (l.take i++l.drop (i+1)))]:=cT F310 ntmps310 λF hF=>by
 have af:l≠[]:=λh=>by rw[h]at hi;simp at hi
 refine fW ?_;refine Aoj 0 [0,8] E af (by simp;exact⟨E,E⟩) ?_;intro b cap iv;refine fU ?_;refine Aj (Ae4 Γ.toTy E E E E E E E q_ q_ iv) E E (fU ?_);refine⟨λh=>yA h kO,λ_=>?_⟩;refine fU ?_;refine Ce (Ds Γ.toTy E E E E (.inl ⟨E,E⟩) (.inr ⟨_,_,E,E⟩) q_ q_) z_ E (fU ?_);refine Ce (Ds (hi:=l.length) Γ.toTy E E E E (.inr ⟨_,_,E,E⟩) (.inl ⟨E,E⟩) q_ q_) z_ E (fU ?_);have hif:(if cap=0 then (⟨b,0,none⟩:Addr) else ⟨b,0*3,none⟩)=⟨b,0,none⟩:=by split<;>simp
 refine Ce (oY Γ.toTy 0 (n:=l.length) (i:=i) (j:=i+1) E E E (zH (λz=>SV.val (.slice (some z) i cap)) hif) E E E E q_ q_) z_ E (fU ?_);refine⟨z_,?_⟩;refine fW ?_;refine Aj (Ds (lo:=i+(l.length-(i+1))) (hi:=l.length) Γ.toTy E E E E (.inr ⟨_,_,E,E⟩) (.inr ⟨_,_,E,E⟩) q_ q_) E E (fU ?_);have js:(l.take i++l.drop (i+1)).length=i+(l.length-(i+1)):=by rw[zQ,zY,yP];omega
 refine Aj (Qf Γ.toTy 0 (k:=i+(l.length-(i+1))) E E E E j_ E E E q_ q_) E E (fU ?_);refine eF 0 1000 [6] (i+(l.length-(i+1))) E E (by rw[zY];omega) (by simp;rfl) ?_;refine done E Aq [(0,0),(1,1000)] _ (λ_ h=>h) E E ⟨Y,⟨.inl E,E,.inl ?_,E,Y⟩,E,E⟩;exact zH (Ob.row 3 A9) (by rw[List.take_take,Nat.min_self];exact(xI q_).symm)
def lJ(m:Nat)(h:m<18446744073709551616):Sp 172 [Bl m] (Ab (Ic m)):=cT F172 ntmps172 λF hF=>by
 have q:=O7 m h;refine fW ?_;constructor<;>intro h1
 .have h2:m<=281474976710655:=by simp at h1;omega
  refine gM q F179 ?_;refine fU ?_;exact Ar E Aq (zH Ab (by rw[Ic,zL h2,yG])) E
 .have h2:¬m<=281474976710655:=by simp at h1;omega
  refine fU ?_;exact Ar E Aq (zH Ab (by rw[Ic,zK h2,yF])) E
def Zo(i:Int):Sp 173 [Aa i] (Ab (H1 i)):=cT F173 ntmps173 λF hF=>by
 conv=>whnf
 (repeat' (first|(refine⟨λh=>?_,λh=>?_⟩<;>(repeat (first|simp only[zJ]at h|simp only[yB]at h))<;>((refine oO ?_)))|(refine Ar rfl Aq ?_ rfl)))
 all_goals (refine zH Ab ?_)
 all_goals grind [H1]
def Auz(m:Nat)(e:EntryM):Sp 234 [A9 e,.ref 1 (Bl m) 0] (Ab (decide (e.mac=m))):=cT F234 ntmps234 λF hF=>by
 conv=>whnf
 refine Ar E Aq ?_ E;refine zH Ab ?_;rw[wP];simp;omega
def eP(t:List EntryM)(m:Nat)(hl:An t):Sp 174 [.sl 3 A9 t,Bl m] (Aa (Dy t m)):=cT F174 ntmps174 λF hF=>by
 have q:=Tg t (λe=>decide (e.mac=m)) 234 [] [.ref 1 (Bl m) 0] rfl (λx _=>⟨⟨_,_,F234⟩,Auz m x⟩) hl
 conv=>whnf
 refine Bf 3 1 (Bl m) E E E (oO ?_);refine gE q F233 ?_;exact dN
def Ay9(t:List EntryM)(m:Nat)(hl:An t):Sp 321 [.sl 3 A9 t,Bl m] (.tup [Aa (findE t m).1,Ab (findE t m).2]):=cT F321 ntmps321 λF hF=>by
 have q:=eP t m hl;have ab:Dy t m<t.length:=Iw _ _;have aa:=findE.eq_1 t m;generalize findE t m=res at *;generalize Dy t m=i at *
 conv=>whnf
 refine gE q F174 ?_;constructor<;>intro h
 .rw[zE (kS h)]at aa;subst aa;exact gI
 .have h0:¬i<0:=by simpa using h
  have hi:i.toNat<t.length:=by omega
  rw[zD h0,zR hi]at aa;subst aa;refine oO ?_;refine⟨E,by omega,by omega,?_⟩
  conv=>whnf
  exact dN
def Xo(t:List EntryM)(hl:An t)(m6:∀e∈t,e.mac<18446744073709551616):Sp 104 [.sl 3 A9 t] (Ab (tableB t)):=cT F104 ntmps104 λF hF=>by
 unfold An at hl;have aa:=tableB.eq_1 t;generalize tableB t=res at *
 conv=>whnf
 constructor<;>intro h
 .have h8:¬t.length<=8:=by simp at h;omega
  rw[zK h8,yF]at aa;subst aa;exact gI
 have h8:t.length<=8:=by simp at h;omega
 rw[zL h8,yG]at aa;refine oO ?_;refine Ba t.length (λj=>El (Uv t) t j) (λj=>[(0,.sl 3 A9 t),(8,.sl 3 A9 t),(9,Aa t.length),(10,Aa j)]) (λ_=>[]) [] (Bi _ _) kU ?_;intro j hj hI;refine gH ?_ ?_<;>intro h
 .have ab:j<t.length:=qA h;have q1:=lJ t[j].mac (m6 _ (zI ab));have q2:=Zo t[j].seen;have q3:=eP t t[j].mac hl;have ua:Uv t j t[j]=(Ic t[j].mac&&H1 t[j].seen&&decide (Dy t t[j].mac=j)):=rfl;have eu:Uv t j t[j]=false->res=false:=λhf=>by rw[aa];exact Di ab hf
  have zj:Uv t j t[j]=true->El (Uv t) t (j+1):=λht=>Bd hI ab ht
  refine oO ?_;refine⟨E,by omega,by omega,?_⟩;rw[show t[(j:Int).toNat]'q_=t[j] from rfl];generalize t[j]=x at *
  conv=>whnf
  refine c0 q1 F172 ?_;cases h1:Ic x.mac
  .rw[eu (by rw[ua,h1];rfl)]
   (refine oT ?_;refine bT ?_;refine bT ?_)
   exact dN
  refine oF ?_;refine c0 q2 F173 ?_;cases h2:H1 x.seen
  .rw[eu (by rw[ua,h1,h2];rfl)]
   (refine oT ?_;refine bT ?_)
   exact dN
  refine oF ?_;refine gE q3 F174 ?_;constructor<;>intro h3
  .rw[eu (by rw[ua,h1,h2,zK (kS h3)];rfl)];exact gI
  .have h4:=zj (by rw[ua,h1,h2,zL (kS h3)];rfl);refine gF ?_;exact A8 [] hI q_ h4 kU
 .have kf:j=t.length:=qB h;subst kf;rw[aa.trans (Hn hI (yE _))];exact gI
def A34(now:Int)(hn:H1 now=true)(e:EntryM):Sp 196 [A9 e,.ref 1 (Aa now) 0] (Ab (decide (e.seen<now-4))):=cT F196 ntmps196 λF hF=>by
 have hn2:0<=now/\now<=1099511627776:=by simpa [H1] using hn
 conv=>whnf
 refine iW ?_;exact dN
def A33(t:List EntryM)(now:Int)(hl:An t)(m6:∀e∈t,e.mac<18446744073709551616):Sp 113 [.sl 3 A9 t,Aa now] (.sl 3 A9 (ageT t now)):=cT F113 ntmps113 λF hF=>by
 have gz:=hl;unfold An at gz;have aa:=ageT.eq_1 t now;generalize ageT t now=res at *;have q1:=Xo t hl m6;have q2:=Zo now
 conv=>whnf
 refine Aj (Ad [(0,55)] E F105 (W9 t gz) E Y E ⟨.inr E,Y⟩) E E (oO ?_);refine c0 q1 F104 ?_;cases h1:tableB t
 .rw[zE (.inl h1)]at aa;subst aa
  (refine oT ?_;refine bT ?_)
  exact Ai 55 E dN
 refine oF ?_;refine c0 q2 F173 ?_;cases h2:H1 now
 .rw[zE (.inr h2)]at aa;subst aa;refine oT ?_;exact Ai 55 E dN
 rw[zD (by simp[h1,h2])]at aa;refine oF ?_;refine Bf 3 1 (Aa now) E E E (oO ?_);have q3:=dK t (λe=>decide (e.seen<now-4)) 196 [] [.ref 1 (Aa now) 0] rfl rfl (λx _=>⟨⟨_,_,F196⟩,A34 now h2 x⟩) hl;refine Aj (Ad [(0,55),(1,56)] E F195 q3 E ⟨E,Y⟩ E kB) E E (oO ?_);refine Ai 56 E ?_;refine Ar E Aq ?_ E;subst aa;refine zH (SV.sl 3 A9) (List.filter_congr λe _=>?_);rw[wP];simp
def Ab2(t:List EntryM)(j:Nat)(h:0<t.length)(hj:j<=t.length):oldestU t j<t.length:=by
 induction j with
 |zero=>exact h
 |succ j ih=>
  rw[oldestU];split
  .omega
  .exact ih q_
def Aou(t:List EntryM)(hl:An t)(h0:0<t.length):Sp 309 [.sl 3 A9 t] (Aa (oldestU t t.length:Nat)):=cT F309 ntmps309 λF hF=>by
 unfold An at hl
 conv=>whnf
 refine Bg t.length (λj=>[(0,.sl 3 A9 t),(3,Aa (oldestU t j:Nat)),(6,.sl 3 A9 t),(7,Aa t.length),(8,Aa j)]) (λ_=>[]) [] kU ?_;intro j hj;refine gH ?_ ?_<;>intro h
 .have ab:j<t.length:=qA h;have lq:=Ab2 t j h0 q_;have hs:=oldestU.eq_2 t j;rw[zR ab,zR lq]at hs;obtain ⟨o,ho⟩:=kE (oldestU t j);simp only[ho]at hs lq|-;have jn:oldestU t (j+1)=if t[j].seen<t[o].seen then j else o:=hs
  refine oO ?_;refine⟨E,by omega,by omega,?_⟩;rw[show t[(j:Int).toNat]'q_=t[j] from rfl]
  conv=>whnf
  refine⟨E,by omega,by omega,?_⟩;rw[show t[(o:Int).toNat]'q_=t[o] from rfl]
  conv=>whnf
  refine kW ?_;constructor<;>intro h2
  .rw[zE (zO h2)]at jn;refine gF ?_;exact Az [] q_ ⟨⟨E,E,zH (λz:Nat=>Aa z) jn,E,E,E,E,E,E,E,Y⟩,Y,E,E⟩
  .rw[zD (zT h2)]at jn;refine gF ?_;exact Az [] q_ ⟨⟨E,E,zH (λz:Nat=>Aa z) jn,E,E,E,E,E,E,E,Y⟩,Y,E,E⟩
 .have:j=t.length:=qB h;subst this;exact gI
def Afl(t:List EntryM)(m:Nat)(wh now:Int)(hl:An t)(m6:∀e∈t,e.mac<18446744073709551616)(wi:m<18446744073709551616):Sp 241 [.sl 3 A9 t,Bl m,Aa wh,Aa now] (.sl 3 A9 (learnT t m wh now)):=cT F241 ntmps241 λF hF=>by
 have gz:=hl;unfold An at gz;have aa:=learnT.eq_1 t m wh now;generalize learnT t m wh now=res at *;have q1:=Xo t hl m6;have q2:=lJ m wi;have q3:=Zo now;have q4:=eP t m hl
 conv=>whnf
 refine Aj (Ad [(0,55)] E F105 (W9 t gz) E Y E ⟨.inr E,Y⟩) E E (oO ?_);refine c0 q1 F104 ?_;cases h1:tableB t
 .rw[zE (.inl h1)]at aa;subst aa
  (refine oT ?_;refine bT ?_;refine bT ?_)
  exact Ai 55 E dN
 refine oF ?_;refine c0 q2 F172 ?_;cases h2:Ic m
 .rw[zE (.inr (.inl h2))]at aa;subst aa
  (refine oT ?_;refine bT ?_)
  exact Ai 55 E dN
 refine oF ?_;refine c0 q3 F173 ?_;cases h3:H1 now
 .rw[zE (.inr (.inr h3))]at aa;subst aa;refine oT ?_;exact Ai 55 E dN
 rw[zD (by simp[h1,h2,h3])]at aa;have ht8:t.length<=8:=by simp only[tableB,zG,zJ]at h1;exact h1.1
 have wj:∀hi:0<=Dy t m,∃h:(Dy t m).toNat<t.length,t[(Dy t m).toNat].mac=m:=λhi=>by
  rcases Qe (λe=>decide (EntryM.mac e=m)) t with ⟨h,_⟩|⟨k,hk,h,h2,_⟩
  .rw[Dy,h]at hi;exact yA hi j_
  .have e1:Dy t m=k:=h;simp only[e1,zZ];exact⟨hk,zO h2⟩
 generalize Dy t m=i at *;refine oF ?_;refine gE q4 F174 ?_;constructor<;>intro h4
 .have h5:0<=i:=by simpa using h4
  obtain ⟨hi,ui⟩:=wj h5;rw[zE h5]at aa;refine oO ?_;have af:t≠[]:=λh=>by rw[h]at hi;simp at hi
  refine⟨h5,by omega,?_⟩
  conv=>whnf
  refine⟨af,?_⟩
  conv=>whnf
  refine⟨E,hi,⟨t[i.toNat].mac,wh,t[i.toNat].seen⟩,E,E,?_⟩
  conv=>whnf
  refine⟨h5,by simp;omega,?_⟩
  conv=>whnf
  refine⟨by simp;exact af,?_⟩
  conv=>whnf
  refine⟨E,by simp;omega,⟨t[i.toNat].mac,wh,now⟩,by rw[tA];rfl,by rw[tA];rfl,?_⟩
  conv=>whnf
  refine Ai 55 E (oO ?_);refine Ar E Aq (zH (SV.sl 3 A9) ?_) E;rw[aa,List.set_set,ui]
 .have h5:¬0<=i:=by simp at h4|-;omega
  rw[zD h5]at aa;refine oO ?_;constructor<;>intro h6
  .have h7:t.length=8:=by simp at h6;omega
   rw[zE h7]at aa;have q5:=Aou t hl q_;have lq:=Ab2 t t.length q_ (yE _);refine oO ?_;refine Aua [55] q5 F309 E (.cons (.row E E) .nil) E E E ?_;generalize oldestU t t.length=o at *;have q6:=Afa t o lq hl;refine gF ?_;refine Aj (Ad [(0,55),(1,56)] E F310 q6 E ⟨E,Y⟩ E kB) E E (oO ?_);refine Aj (Ah Γ.toTy 60 rfl rfl rfl rfl rfl (.row rfl) (.lit (e:=A9) (l:=[⟨m,wh,now⟩]) rfl rfl) (λj hj=>by cases hj;decide) kO kO) rfl rfl ?_;refine Ai 60 E (oO ?_);refine Ar E Aq (zH (SV.sl 3 A9) ?_) E;rw[aa,List.eraseIdx_eq_take_drop_succ]
  .have h7:¬t.length=8:=by simp at h6;omega
   rw[zD h7]at aa;refine oO ?_;refine Aj (Ah Γ.toTy 60 rfl rfl rfl rfl rfl (.row rfl) (.lit (e:=A9) (l:=[⟨m,wh,now⟩]) rfl rfl) (λj hj=>by cases hj;decide) kO kO) rfl rfl ?_;refine Ai 60 E (oO ?_);exact Ar E Aq (zH (SV.sl 3 A9) aa) E
def Ajl:=iE Aa 1 F170 ntmps170
def Aaa(l:List Int)(p:Int->Bool)(f:FuncId)(first cap:List SV)(hc:(SV.clo (.func f) first cap).inn []=true)(d8:(SV.clo (.func f) first cap).inn [0]=true)(hf:∀x∈l,Hg prog f (first++[Aa x]++cap) (Ab (p x)))(hl:An l):Sq 308 [.osl 0,.clo (.func f) first cap] [(0,.row 1 Aa l)] (.osl 1) [(0,.non),(1,.row 1 Aa (l.filter λx=>!(p x)))]:=cT F308 ntmps308 λF hF=>by
 have qi:=Qd l p f first cap hc hf hl
 unfold An at hl;have a6:∀x:Int,B7 [] (first++[Aa x]++cap)=true:=λx=>Db hc rfl
 conv=>whnf
 refine Aua [0] qi F329 E (.cons (.row E E) (.cons (.refl _) .nil)) (by simp only[B7,hc,uH];rfl) E E ?_;rcases Qe p l with ⟨h1,h2⟩|⟨i,hi,h1,h2,h3⟩
 .rw[h1];have e1:(l.filter λx=>!(p x))=l:=List.filter_eq_self.2 (λx hx=>by simp[h2 x hx]);rw[e1];refine oT ?_;refine Asy 0 1000 [0,4] E E j_ (by simp;exact⟨E,E⟩) ?_;exact done E Aq [(0,0),(1,1000)] _ (λ_ h=>h) E E kU
 obtain ⟨f1,f2⟩:=Ag2 (λx=>!(p x)) l i q_ (λk hk pz=>by simp[h3 k hk pz]);have g1:dfC (λx=>!(p x)) l (i+1+0)=l:=by
  show dfC (λx=>!(p x)) l (i+1)=l;simp only[dfC,zR hi];rw[zD (by simp[h2]),f1]
 have g2:Ji (λx=>!(p x)) l (i+1+0)=i:=by
  show Ji (λx=>!(p x)) l (i+1)=i;simp only[Ji,zR hi];rw[zD (by simp[h2]),f2]
 rw[h1];refine oF ?_;refine iW ?_;refine Bg (l.length-(i+1)) (λj=>[(0,.osl 0),(1,.clo (.func f) first cap),(5,Aa (Ji (λx=>!(p x)) l (i+1+j))),(6,Aa ((i+1+j:Nat)))]) (λj=>[(0,.row 1 Aa (dfC (λx=>!(p x)) l (i+1+j)))]) []
  ⟨⟨rfl,rfl,Bh _,d8,zH Aa (zH Int.ofNat g2),rfl,zH (λz=>SV.val (.int .i64 z)) q_,rfl,trivial⟩,⟨.inl (zH (Ob.row 1 Aa) g1),rfl,trivial⟩,rfl,rfl⟩ ?_
 intro j hj;have ie:=Aam (λx=>!(p x)) l (i+1+j);have gh:=aE (λx=>!(p x)) l (i+1+j);have bc:=At8 (λx=>!(p x)) l (i+1+j) (i+1+j) (yE _);have s1:∀h:i+1+j<l.length,Ji (λx=>!(p x)) l (i+1+(j+1))=if (!(p l[i+1+j]))=true then Ji (λx=>!(p x)) l (i+1+j)+1 else Ji (λx=>!(p x)) l (i+1+j):=λab=>by
  show Ji (λx=>!(p x)) l (i+1+j+1)=_;simp only[Ji,zR ab]
 have s2:∀h:i+1+j<l.length,dfC (λx=>!(p x)) l (i+1+(j+1))=if (!(p l[i+1+j]))=true then (dfC (λx=>!(p x)) l (i+1+j)).set (Ji (λx=>!(p x)) l (i+1+j)) l[i+1+j] else dfC (λx=>!(p x)) l (i+1+j):=λab=>by
  show dfC (λx=>!(p x)) l (i+1+j+1)=_;simp only[dfC,zR ab]
 have ig:=λh=>Anm (λx=>!(p x)) l (i+1+j) h
 obtain ⟨D,hD⟩:∃D,dfC (λx=>!(p x)) l (i+1+j)=D:=⟨_,rfl⟩
 obtain ⟨K,hK⟩:∃K,Ji (λx=>!(p x)) l (i+1+j)=K:=⟨_,rfl⟩
 rw[hD]at gh bc s2 ig|-;rw[hK]at ie s1 s2 ig|-;refine gH ?_ ?_<;>intro h
 .have ab:i+1+j<l.length:=qA h;have p8:=hf l[i+1+j] (zI ab);have s1:=s1 ab;have s2:=s2 ab;rw[zR ab,zR q_]at bc;have bc:=Option.some.inj bc;obtain ⟨x,hx⟩:=kE (l[i+1+j]);rw[hx]at p8 s1 s2 bc;refine oO ?_;refine⟨by omega,by simp;omega,?_⟩
  conv=>whnf
  refine⟨E,by omega,?_⟩;rw[show D[((i+1+j:Nat):Int).toNat]'q_=x from bc]
  conv=>whnf
  refine Ek p8 E E E (by simp only[a6];rfl) E E ?_;cases su:p x
  .rw[su]at s1 s2;refine oT ?_;refine⟨by omega,by simp;omega,?_⟩
   conv=>whnf
   refine⟨E,by omega,x,E,E,?_⟩
   conv=>whnf
   refine iW ?_;refine iW ?_;exact Az [] q_ ⟨⟨E,E,Bh _,d8,zH Aa (zH Int.ofNat s1),E,zH (λz=>SV.val (.int .i64 z)) q_,E,Y⟩,⟨.inl (zH (Ob.row 1 Aa) s2),E,Y⟩,E,E⟩
  .rw[su]at s1 s2;refine oF ?_;refine iW ?_;exact Az [] q_ ⟨⟨E,E,Bh _,d8,zH Aa (zH Int.ofNat s1),E,zH (λz=>SV.val (.int .i64 z)) q_,E,Y⟩,⟨.inl (zH (Ob.row 1 Aa) s2),E,Y⟩,E,E⟩
 .have kf:i+1+j=l.length:=qB h;have af:D≠[]:=λh=>by rw[h]at gh;simp at gh;omega
  have ig:=ig q_;rw[show l.take (i+1+j)=l from xI q_]at ig;refine Aoj 0 [0] E af (by simp;rfl) ?_;intro b d6 iv;refine oO ?_;refine Aj (Ds Γ.toTy E E E E (.inr ⟨_,_,E,E⟩) (.inl ⟨E,E⟩) q_ q_) E E (oO ?_);refine Aj (Qf Γ.toTy 0 (k:=K) E E E E j_ E E E q_ q_) E E (oO ?_);refine Aj (Ds Γ.toTy E E E E (.inl ⟨E,E⟩) (.inr ⟨_,_,E,E⟩) q_ q_) E E (oO ?_);refine eF 0 1000 [4] K E E (by rw[zY];omega) (λi hi=>?_) ?_
  .rw[zX]at hi;subst hi;show SV.val (.slice (some (if d6=0 then ⟨b,0,none⟩ else ⟨b,0*1,none⟩)) (K-0) (d6-0))=_;split<;>simp
  refine done E Aq [(0,0),(1,1000)] _ (λ_ h=>h) E E ⟨Y,⟨.inl E,E,.inl ?_,E,Y⟩,E,E⟩;rw[<-ig];exact zH (Ob.row 1 Aa) (by rw[List.take_take,Nat.min_self])
def T5(n:Net)(fw:List Bool)(at_ from_:Int)(ml:List Int):SV :=
 .agg [.sl 5 A1 n.devices,.sl 7 Bb n.ports,.sl 3 Ck n.links,.sl 6 At n.domains,.sl 4 Bc n.statics,.sl 4 Bn n.floods,.sl 5 Ct n.vrfs,.sl 5 Cq n.irbs,.sl 1 Ab fw,Aa at_,Aa from_,.sl 1 Aa ml]
def A3v(n:Net)(fw:List Bool)(p:Int)(h0:0<=p)(hp:p<n.ports.length)(hl:(nth n.ports p).link<fw.length):Sp 307 [Am n,.sl 1 Ab fw,Aa p] (Ab (usableB n fw p)):=cT F307 ntmps307 λF hF=>by
 have hk:p.toNat<n.ports.length:=by omega
 have e1:nth n.ports p=n.ports[p.toNat]:=Ae hk;have hu:=usableB.eq_1 n fw p;generalize usableB n fw p=res at *;rw[e1]at hu hl;obtain ⟨q,hq⟩:=kE (n.ports[p.toNat]'hk);rw[hq]at hu hl
 conv=>whnf
 refine⟨E,h0,hk,?_⟩;rw[hq]
 conv=>whnf
 constructor<;>intro h
 .rw[h,vN]at hu;subst hu;exact gI
 .rw[h,vQ]at hu;have h1:¬q.link<0:=zT h;have h2:q.link.toNat<fw.length:=by omega
  rw[zR h2]at hu;refine oO ?_;refine⟨E,by omega,h2,?_⟩
  conv=>whnf
  exact Ar E Aq (zH Ab hu) E
def portsC(n:Net)(fw:List Bool)(at_ from_:Int)(ml:List Int)(p:Int)(h0:0<=p)(hp:p<n.ports.length)(hl:(nth n.ports p).link<fw.length):Sp 306 [Aa p,.ref 1 (.ref 12 (T5 n fw at_ from_ ml) 0) 0] (Ab (decide (p=from_)||!(usableB n fw p))):=cT F306 ntmps306 λF hF=>by
 have q:=A3v n fw p h0 hp hl
 conv=>whnf
 constructor<;>intro h
 .have h1:p=from_:=by simpa using h
  refine gL ?_;exact Ar E Aq (zH Ab (by rw[zL h1,vN])) E
 .have h1:¬p=from_:=by simpa using h
  refine oD ?_;refine cD q F307 (gL ?_);exact Ar E Aq (zH Ab (by rw[zK h1,vQ])) E
def Auh(n:Net)(fw:List Bool)(l:List Int):Prop:=∀p∈l,0<=p/\p<n.ports.length/\(nth n.ports p).link<fw.length
def Aqc(n:Net)(fw:List Bool)(at_ from_:Int)(ml l:List Int)(hl:An l)(hp:Auh n fw l):Sp 239 [.ref 12 (T5 n fw at_ from_ ml) 0,.sl 1 Aa l] (.sl 1 Aa (C0 n fw from_ l)):=cT F239 ntmps239 λF hF=>by
 have q:=Aaa l (λp=>decide (p=from_)||!(usableB n fw p)) 306 [] [.ref 1 (.ref 12 (T5 n fw at_ from_ ml) 0) 0] rfl rfl (λp h=>⟨⟨_,_,F306⟩,portsC n fw at_ from_ ml p (hp p h).1 (hp p h).2.1 (hp p h).2.2⟩) hl;unfold An at hl
 conv=>whnf
 refine Bf 2 1 (.ref 12 (T5 n fw at_ from_ ml) 0) E E E (oO ?_);refine Aj (Ad [(0,55)] E F170 (Ajl l hl) E Y E ⟨.inr E,Y⟩) E E (oO ?_);refine Aj (Ad [(0,55),(1,56)] E F308 q E ⟨E,Y⟩ E kB) E E (oO ?_);exact Ai 56 E dN
def Ath(n:Net)(hn:n.Fin)(fw:List Bool)(dom from_:Int)(ml:List Int)(hd:Ag dom n.domains.length=true):Sp 240 [.ref 12 (T5 n fw dom from_ ml) 0] (.sl 1 Aa (peersOut n dom from_)):=cT F240 ntmps240 λF hF=>by
 have nz:=Ch hd;have ss:0<=dom:=nz.1;have ck:dom.toNat<n.domains.length:=by omega
 have e2:nth n.domains dom=n.domains[dom.toNat]:=Ae ck;have fy:=hn.peers _ (zI ck);have aa:=peersOut.eq_1 n dom from_;generalize peersOut n dom from_=res at *;rw[e2]at aa;obtain ⟨d,dz⟩:=kE (n.domains[dom.toNat]'ck);rw[dz]at aa fy;have qc:=Ku d.peers fy
 conv=>whnf
 constructor<;>intro h
 .rw[zE (kS h)]at aa;subst aa;refine oO ?_;exact Ao 2 1 Aa E dN
 .rw[zD (kS h)]at aa;subst aa;refine oO ?_;refine⟨E,ss,ck,?_⟩;rw[dz]
  conv=>whnf
  refine cD qc F170 (gL ?_);exact dN
def Xc(n:Net)(fw:List Bool)(dom:Int):Bool:=Ag dom n.domains.length&&decide (fw.length=n.links.length)&&Ac n
def Atb(n:Net)(hn:n.Fin)(fw:List Bool)(dom from_:Int)(h:Xc n fw dom=false):Sp 238 [Am n,.sl 1 Ab fw,Aa dom,Aa from_] (.tup [.val (.pointer none),Ab false]):=cT F238 ntmps238 λF hF=>by
 have qr:=A2 n hn
 conv=>whnf
 constructor<;>intro h1
 ·(refine oT ?_;refine bT ?_;refine bT ?_)
  exact dN
 refine oO ?_;constructor<;>intro h2
 ·(refine oT ?_;refine bT ?_)
  exact dN
 refine oO ?_;constructor<;>intro h3
 .refine oT ?_;exact dN
 refine oO ?_;refine c0 qr F39 ?_;cases hbn:Ac n
 .refine oT ?_;exact dN
 .exfalso;have h4:Ag dom n.domains.length=true:=Mc ⟨by simp at h1;omega,by simp at h2;omega⟩;have h5:fw.length=n.links.length:=by simp at h3;omega
  simp[Xc,h4,h5,hbn]at h
def Azs(n:Net)(hn:n.Fin)(fw:List Bool)(dom from_:Int)(h:Xc n fw dom=true):Sp 238 [Am n,.sl 1 Ab fw,Aa dom,Aa from_] (.tup [.ref 12 (T5 n fw dom from_ (A7 n dom)) 0,Ab (decide (from_=-1)||decide (from_=-2)||inB (A7 n dom) from_)]):=cT F238 ntmps238 λF hF=>by
 have qr:=A2 n hn;simp only[Xc,zG,zJ]at h;obtain ⟨⟨hd,gd⟩,hbn⟩:=h;rw[hbn]at qr;have nz:=Ch hd;have qm:=Sl n hn dom;have qc:=Ed (A0 n dom) from_ (K9 n hn dom);have yb:A0 n dom=A7 n dom:=by rw[A0,zE ⟨⟨nz.1,nz.2⟩,hbn⟩]
 rw[yb]at qm qc;generalize A7 n dom=ml at *
 conv=>whnf
 refine⟨λh1=>yA h1 kO,λ_=>?_⟩;refine oO ?_;refine⟨λh1=>yA h1 kO,λ_=>?_⟩;refine oO ?_;refine⟨λh1=>yA h1 kO,λ_=>?_⟩;refine oO ?_;refine c0 qr F39 (oF ?_);refine cD qm F116 (gL ?_);constructor<;>intro h1
 .have h2:from_=-1:=by simpa using h1
  refine Bf 41 12 (T5 n fw dom from_ ml) E E E (oT ?_);exact Ar E (.cons .tmp Aq) (zH (λz=>SV.tup [_,Ab z]) (by simp[h2])) E
 have h2:¬from_=-1:=kS h1;refine Bf 41 12 (T5 n fw dom from_ ml) E E E (oO ?_);constructor<;>intro h3
 .have h4:from_=-2:=by simpa using h3
  refine oO ?_;exact Ar E (.cons .tmp Aq) (zH (λz=>SV.tup [_,Ab z]) (by simp[h4])) E
 have h4:¬from_=-2:=kS h3;refine oO ?_;refine gE qc F115 ?_;exact Ar E (.cons .tmp Aq) (zH (λz=>SV.tup [_,Ab z]) (by simp[h2,h4])) E
def Aig{n:Net}(hb:Ac n=true){p:Int}(h0:0<=p)(hp:p<n.ports.length):(nth n.ports p).link<n.links.length:=by
 have hk:p.toNat<n.ports.length:=by omega
 have e1:nth n.ports p=n.ports[p.toNat]:=Ae hk;rw[e1];by_cases hl:0<=n.ports[p.toNat].link
 .have:=Ha hb hk hl;omega
 .omega
def Abu{n:Net}{fw:List Bool}(hb:Ac n=true)(hf:fw.length=n.links.length){l:List Int}(h:∀p∈l,0<=p/\p<n.ports.length):Auh n fw l:=λp hp=>
 ⟨(h p hp).1,(h p hp).2,by rw[hf];exact Aig hb (h p hp).1 (h p hp).2⟩
def Is{n:Net}{dom:Int}:∀p∈A7 n dom,0<=p/\p<n.ports.length:=λp hp=>by
 rw[A7,filtI_mem]at hp;exact⟨hp.1,hp.2.1⟩
def Sm{n:Net}(hn:n.Fin)(dom:Int):An (A7 n dom):=by
 have h1:=Jh (U9 n (nth n.domains dom)) n.ports.length;have h2:=hn.ports;unfold An at *;rw[A7];omega
def Vx(n:Net)(fw:List Bool)(dom from_:Int):Lr n fw dom from_=(Xc n fw dom&&(decide (from_=-1)||decide (from_=-2)||inB (A7 n dom) from_)):=rfl
def floodS(n:Net)(hn:n.Fin)(fw:List Bool)(dom from_:Int):Sp 183 [Am n,.sl 1 Ab fw,Aa dom,Aa from_] (.tup [.sl 1 Aa (floodT n fw dom from_).1,.sl 1 Aa (floodT n fw dom from_).2.1,Aa (floodT n fw dom from_).2.2]):=cT F183 ntmps183 λF hF=>by
 have aa:=floodT.eq_1 n fw dom from_;generalize floodT n fw dom from_=res at *;rw[Vx]at aa;cases cm:Xc n fw dom
 .rw[cm,yF,zE rfl]at aa;subst aa;have q:=Atb n hn fw dom from_ cm
  conv=>whnf
  refine c0 q F238 (oT ?_);exact Ao 8 1 Aa E (Ao 9 1 Aa E dN)
 rw[cm,yG]at aa;have q:=Azs n hn fw dom from_ cm;have dy:=cm;simp only[Xc,zG,zJ]at dy;obtain ⟨⟨hd,gd⟩,hbn⟩:=dy;have qp:=Aqc n fw dom from_ (A7 n dom) (A7 n dom) (Sm hn dom) (Abu hbn gd Is);have qe:=Ath n hn fw dom from_ (A7 n dom) hd;generalize (decide (from_=-1)||decide (from_=-2)||inB (A7 n dom) from_)=ok at *;generalize A7 n dom=ml at *
 conv=>whnf
 refine c0 q F238 ?_;cases ok
 .rw[zE rfl]at aa;subst aa;refine oT ?_;exact Ao 8 1 Aa E (Ao 9 1 Aa E dN)
 rw[zD j_]at aa;subst aa;refine oF ?_;refine gE qp F239 ?_;refine gE qe F240 ?_;exact dN
def cM:=iD Bc 4 F392 ntmps392
def entryC(dom:Int)(m:Nat)(s:Static):Sp 393 [Bc s,.ref 1 (Aa dom) 0,.ref 1 (Bl m) 0] (Ab (decide (s.domain=dom)&&decide (s.mac=(m:Int)))):=cT F393 ntmps393 λF hF=>by
 conv=>whnf
 constructor<;>intro h
 .refine oO ?_;refine Ar E Aq (zH Ab ?_) E;have h1:s.domain=dom:=kS h;rw[zL h1,yG,wP];simp
 .refine oO ?_;refine Ar E Aq (zH Ab ?_) E;have h1:¬s.domain=dom:=kS h;rw[zK h1,yF]
def entryI(n:Net)(hn:n.Fin)(dom:Int)(m:Nat):Sp 351 [Am n,Aa dom,Bl m] (Aa (Eb n dom m)):=cT F351 ntmps351 λF hF=>by
 have q:=cM n.statics (λs:Static=>decide (s.domain=dom)&&decide (s.mac=(m:Int))) 393 [] [.ref 1 (Aa dom) 0,.ref 1 (Bl m) 0] rfl (λx _=>⟨⟨_,_,F393⟩,entryC dom m x⟩) hn.statics
 conv=>whnf
 refine Bf 4 1 (Aa dom) E E E ?_;refine Bf 5 1 (Bl m) E E E (oO ?_);refine gE q F392 ?_;exact dN
def staticP(n:Net)(dom:Int)(m:Nat):Int:=if 0<=Eb n dom m then (nth n.statics (Eb n dom m)).port else -1
def Asb(n:Net)(hn:n.Fin)(hb:Ac n=true)(dom:Int)(m:Nat):Sp 320 [Am n,Aa dom,Bl m] (Aa (staticP n dom m)):=cT F320 ntmps320 λF hF=>by
 have q:=entryI n hn dom m;have qr:=A2 n hn;rw[hb]at qr;have ab:Eb n dom m<n.statics.length:=Iw _ _;have aa:=staticP.eq_1 n dom m;generalize staticP n dom m=res at *;generalize Eb n dom m=i at *
 conv=>whnf
 refine gE q F351 ?_;constructor<;>intro h
 .rw[zD (by simp at h;omega)]at aa;subst aa;refine oT ?_;exact dN
 .have h0:0<=i:=by simp at h;omega
  have hk:i.toNat<n.statics.length:=by omega
  have e1:nth n.statics i=n.statics[i.toNat]:=Ae hk;rw[zE h0,e1]at aa;refine oO ?_;refine c0 qr F39 (oF ?_);refine⟨E,h0,hk,?_⟩
  conv=>whnf
  exact Ar E Aq (zH Aa aa) E
def knownT(n:Net)(fw:List Bool)(t:List EntryM)(dom from_:Int)(m:Nat):List Int×List Int×Bool :=
 if 0<=staticP n dom m then (C0 n fw from_ [staticP n dom m],[],true)
 else if (findE t m).2=false then ([],[],false)
 else if 0<=(findE t m).1/\inB (A7 n dom) (findE t m).1=true then (C0 n fw from_ [(findE t m).1],[],true)
 else if (findE t m).1<0/\inB (nth n.domains dom).peers (-1-(findE t m).1)=true then (if from_=-1 then ([],[],true) else ([],[-1-(findE t m).1],true))
 else ([],[],false)
def lL{n:Net}(hb:Ac n=true)(dom:Int)(m:Nat)(h:0<=staticP n dom m):staticP n dom m<n.ports.length:=by
 unfold staticP at h|-;split at h
 .rename_i h0;rw[zE h0];have ab:Eb n dom m<n.statics.length:=Iw _ _;have hk:(Eb n dom m).toNat<n.statics.length:=by omega
  simp only[Ac,zG]at hb;have:=allB_iff.1 hb.1.1.1.2 _ hk;simp only[L3,zG,Ag,zJ]at this;rw[Ae hk];exact this.1.1.2.2
 .omega
def knownS(n:Net)(hn:n.Fin)(fw:List Bool)(t:List EntryM)(dom from_:Int)(m:Nat)(hl:An t)(hw:I64 (-1-(findE t m).1))(cm:Xc n fw dom=true):Sp 245 [.ref 12 (T5 n fw dom from_ (A7 n dom)) 0,.sl 3 A9 t,Bl m] (.tup [.sl 1 Aa (knownT n fw t dom from_ m).1,.sl 1 Aa (knownT n fw t dom from_ m).2.1,Ab (knownT n fw t dom from_ m).2.2]):=cT F245 ntmps245 λF hF=>by
 simp only[Xc,zG,zJ]at cm;obtain ⟨⟨hd,gd⟩,hbn⟩:=cm;have nz:=Ch hd;have ss:0<=dom:=nz.1;have ck:dom.toNat<n.domains.length:=by omega
 have e2:nth n.domains dom=n.domains[dom.toNat]:=Ae ck;have fy:=hn.peers _ (zI ck);have aa:=knownT.eq_1 n fw t dom from_ m;have qs:=Asb n hn hbn dom m;have zk:=lL hbn dom m;have qf:=Ay9 t m hl;have qp:∀p:Int,0<=p->p<n.ports.length->_:=λp h0 h1=>Aqc n fw dom from_ (A7 n dom) [p] (by unfold An;simp) (Abu hbn gd (l:=[p]) (λx hx=>by rw[zX]at hx;subst hx;exact⟨h0,h1⟩))
 have ey:∀p,inB (A7 n dom) p=true->0<=p/\p<n.ports.length:=λp hp=>Is p (inB_mem.1 hp)
 have qc:=λx=>Ed (A7 n dom) x (Sm hn dom)
 rw[e2]at aa;obtain ⟨d,dz⟩:=kE (n.domains[dom.toNat]'ck);rw[dz]at aa fy;have qc2:=λx=>Ed d.peers x fy
 generalize knownT n fw t dom from_ m=res at *;generalize staticP n dom m=sp at *;generalize findE t m=fe at *;obtain ⟨w,ok⟩:=fe;dsimp only at aa hw qf;generalize A7 n dom=ml at *
 conv=>whnf
 refine cD qs F320 (gL ?_);constructor<;>intro h1
 .have h2:0<=sp:=by simpa using h1
  rw[zE h2]at aa;subst aa;refine oO ?_;refine Jb 25 Aa [sp] E E ?_;refine Ai 25 E (gE (qp sp h2 (zk h2)) F239 ?_);exact Ao 7 1 Aa E dN
 have h2:¬0<=sp:=by simp at h1;omega
 rw[zD h2]at aa;refine oO ?_;refine c0 qf F321 ?_;cases ok
 .rw[zE rfl]at aa;subst aa;refine oT ?_;exact Ao 6 1 Aa E (Ao 7 1 Aa E dN)
 rw[zD j_]at aa;refine oF ?_;constructor<;>intro h3
 .have h4:0<=w:=by simpa using h3
  refine oO ?_;refine c0 (qc w) F115 ?_;cases a6:inB ml w
  .rw[zD (by simp[a6]),zD q_]at aa;subst aa;refine oF ?_;refine⟨λh5=>yA h5 kO,λ_=>?_⟩;refine oD ?_;refine⟨z_,?_⟩
   ((conv=>whnf);refine aF ?_;refine rg ?_;conv=>whnf)
   exact Ao 6 1 Aa E (Ao 7 1 Aa E dN)
  .rw[zE ⟨h4,a6⟩]at aa;subst aa;refine oT ?_;refine Jb 49 Aa [w] E E ?_;refine Ai 49 E (gE (qp w h4 (ey w a6).2) F239 ?_);exact Ao 7 1 Aa E dN
 have h4:¬0<=w:=by simp at h3;omega
 rw[zD q_]at aa;refine oF ?_;refine⟨λh5=>?_,λh5=>yA h5 kO⟩;refine oD ?_;refine⟨E,ss,ck,?_⟩;rw[dz]
 conv=>whnf
 refine⟨hw,?_⟩
 conv=>whnf
 refine cD (qc2 (-1-w)) F115 ?_;cases a6:inB d.peers (-1-w)
 .rw[zD (by simp[a6])]at aa;subst aa;refine oD ?_;refine⟨z_,?_⟩
  ((conv=>whnf);refine aF ?_;refine rg ?_;conv=>whnf)
  exact Ao 6 1 Aa E (Ao 7 1 Aa E dN)
 rw[zE ⟨by omega,a6⟩]at aa;refine oD ?_;refine⟨z_,?_⟩
 ((conv=>whnf);refine aT ?_;refine rg ?_;conv=>whnf)
 constructor<;>intro h6
 .rw[zE (kS h6)]at aa;subst aa;refine oO ?_;exact Ao 6 1 Aa E (Ao 7 1 Aa E dN)
 .rw[zD (kS h6)]at aa;subst aa;refine oO ?_;refine⟨hw,?_⟩
  conv=>whnf
  exact Ao 6 1 Aa E (Jb 78 Aa [-1-w] E E (Ai 78 E dN))
end
end Go.Sy.Zaa
