/- Parts of a proof. -/
import Derived.Test.YtodbnbfjhjcanaaGreatDoorXB20
set_option maxHeartbeats 4000000
set_option linter.all false
namespace Go.Sy.Zaa
open Go.Proofs Go.Proofs.Tryz
attribute [local irreducible]G DR
set_option maxRecDepth 100000
def bA{n:Net}(hb:Ac n=true)(dom:Int)(m:Nat):(0<=staticP n dom m↔0<=Eb n dom m)/\(0<=Eb n dom m->staticP n dom m=(nth n.statics (Eb n dom m)).port):=by
 refine⟨⟨λh=>?_,λh=>?_⟩,λh=>by rw[staticP,zE h]⟩
 .unfold staticP at h;split at h
  .assumption
  .omega
 .rw[staticP,zE h];have ab:Eb n dom m<n.statics.length:=Iw _ _;have hk:(Eb n dom m).toNat<n.statics.length:=by omega
  simp only[Ac,zG]at hb;have:=allB_iff.1 hb.1.1.1.2 _ hk;simp only[L3,zG,Ag,zJ]at this;rw[Ae hk];exact this.1.1.2.1
def A5g{n:Net}{fw:List Bool}{t:List EntryM}{dom from_:Int}{m:Nat}(hb:Ac n=true)(hr:Lr n fw dom from_=true)(hg:Du m=false):Dv n fw t dom from_ m=if (knownT n fw t dom from_ m).2.2=true then ((knownT n fw t dom from_ m).1,(knownT n fw t dom from_ m).2.1,0) else (C0 n fw from_ (A7 n dom),peersOut n dom from_,0):=by
 obtain ⟨h1,h2⟩:=bA hb dom m;rw[Dv,zD (by rw[hr];decide),zD (by rw[hg];decide)];unfold knownT;by_cases hs:0<=Eb n dom m
 .rw[zE hs,zE (h1.2 hs),h2 hs];rfl
 rw[zD hs,zD (λh=>hs (h1.1 h))];generalize findE t m=fe;obtain ⟨w,ok⟩:=fe;cases ok
 .simp
 simp only[Bool.true_eq_false,if_false,true_and];by_cases ha:0<=w/\inB (A7 n dom) w=true
 .rw[zE ha,zE ha];rfl
 rw[zD ha,zD ha];by_cases hc:w<0/\inB (nth n.domains dom).peers (-1-w)=true
 .rw[zE hc,zE hc];split<;>rfl
 .rw[zD hc,zD hc];rfl
def A5h(n:Net)(hn:n.Fin)(fw:List Bool)(t:List EntryM)(dom from_:Int)(m:Nat)(hl:An t)(hw:I64 (-1-(findE t m).1))(wi:m<18446744073709551616):Sp 188 [Am n,.sl 1 Ab fw,.sl 3 A9 t,Aa dom,Aa from_,Bl m] (.tup [.sl 1 Aa (Dv n fw t dom from_ m).1,.sl 1 Aa (Dv n fw t dom from_ m).2.1,Aa (Dv n fw t dom from_ m).2.2]):=cT F188 ntmps188 λF hF=>by
 cases cm:Xc n fw dom
 .have aa:Dv n fw t dom from_ m=([],[],2):=by
   rw[Dv,zE (by rw[Vx,cm];rfl)]
  rw[aa];have q:=Atb n hn fw dom from_ cm;refine gP q F238 ?_;refine fU ?_;exact Ao 12 1 Aa E (Ao 13 1 Aa E dN)
 have q:=Azs n hn fw dom from_ cm;have qk:=knownS n hn fw t dom from_ m hl hw cm;have qg:=O7 m wi;have dy:=cm;simp only[Xc,zG,zJ]at dy;obtain ⟨⟨hd,gd⟩,hbn⟩:=dy;have qp:=Aqc n fw dom from_ (A7 n dom) (A7 n dom) (Sm hn dom) (Abu hbn gd Is);have qe:=Ath n hn fw dom from_ (A7 n dom) hd;have a7:=Vx n fw dom from_;rw[cm,yG]at a7;have eu:Lr n fw dom from_=false->Dv n fw t dom from_ m=([],[],2):=λh=>by rw[Dv,zE h]
 have hgrp:Lr n fw dom from_=true->Du m=true->Dv n fw t dom from_ m=(C0 n fw from_ (A7 n dom),peersOut n dom from_,0):=λh h2=>by
  rw[Dv,zD (by rw[h];decide),zE h2]
 have kc:=λh h2=>@A5g n fw t dom from_ m hbn h h2
 generalize Dv n fw t dom from_ m=res at *;generalize knownT n fw t dom from_ m=kn at *;obtain ⟨kp,ke,ko⟩:=kn;generalize Lr n fw dom from_=rm at *;generalize (decide (from_=-1)||decide (from_=-2)||inB (A7 n dom) from_)=ok at *;subst a7;generalize A7 n dom=ml at *;dsimp only at kc qk;refine gP q F238 ?_;cases rm
 .rw[eu rfl];refine fU ?_;exact Ao 12 1 Aa E (Ao 13 1 Aa E dN)
 refine gM qg F179 ?_;cases hg:Du m
 .have kc:=kc rfl hg;refine gM qk F245 ?_;cases ko
  .rw[zD j_]at kc;subst kc;refine gM qp F239 ?_;refine gM qe F240 ?_;exact gD
  .rw[zE rfl]at kc;subst kc;exact gD
 .rw[hgrp rfl hg];refine gM qp F239 ?_;refine gM qe F240 ?_;exact gD
def Axn{t:List EntryM}{m:Nat}(hr:tableB t=true)(h:(findE t m).2=true):∃(i:Nat) (_hi:i<t.length),Dy t m=i/\∀j (hj:j<t.length),t[j].mac=m↔j=i:=by
 rcases Qe (λe=>decide (EntryM.mac e=m)) t with ⟨h1,h2⟩|⟨i,hi,h1,h2,h3⟩
 .have h4:Dy t m=-1:=h1;rw[findE,h4,zE j_]at h;cases h
 .have him:t[i].mac=m:=zO h2;refine⟨i,hi,h1,λj hj=>⟨λcn=>?_,λe=>by subst e;exact him⟩⟩;simp only[tableB,zG]at hr;have he:=allB_iff.1 hr.2 j hj;simp only[Uv,zG,zJ]at he;have:=he.2;rw[cn]at this;have h4:Dy t m=i:=h1;omega
def Ajq(t:List EntryM)(q:QueuedM)(now:Int)(ht:TabOK t)(hq:QueuedOK q):Sp 184 [.sl 3 A9 t,B9 q,Aa now] (.sl 3 A9 (learnQ t q now)):=cT F184 ntmps184 λF hF=>by
 have aa:=learnQ.eq_1 t q now;generalize learnQ t q now=res at *;have hl:=ht.short;have gz:=hl;unfold An at gz;have hs:=hq.frame.src;have h1:=hq.peer
 conv=>whnf
 constructor<;>intro h
 .rw[zE (kS h)]at aa;subst aa;refine oO ?_;exact Aj (Ad [(0,55)] E F105 (W9 res gz) E Y E ⟨.inr E,Y⟩) E E (Ai 55 E gI)
 rw[zD (kS h)]at aa;clear h;refine gH ?_ ?_<;>intro h
 .rw[zE (kS h)]at aa;subst aa;refine gF ?_;refine gE (Afl t q.frame.src (-1-q.peer) now hl ht.mac q_) F241 ?_;exact dN
 rw[zD (kS h)]at aa;subst aa;refine oO ?_;refine gE (Afl t q.frame.src q.from_ now hl ht.mac q_) F241 ?_;exact dN
def Av8(k p d:Int):OutM:=⟨k,p,d,[],noF,0⟩
def A4w(k p d:Int)(b:List UInt8)(e:Int):O8 (Av8 k p d) (b,e)=if e≠0 then ⟨5,p,d,[],noF,e⟩ else ⟨k,p,d,b,noF,0⟩:=rfl
def aK(l:List OutM)(k p d:Int)(b:List UInt8)(e:Int)(hl:l.length<100000000000):Sq 187 [If (Av8 k p d),.sl 1 Al b,Aa e,.ptr 0 0] [(0,.box [.osl 1]),(1,.row 9 If l)] (.tup []) [(0,.box [.osl 2]),(1,.non),(2,.row 9 If (l++[O8 (Av8 k p d) (b,e)]))]:=cT F187 ntmps187 λF hF=>by
 have aa:=A4w k p d b e;generalize O8 (Av8 k p d) (b,e)=res at *
 conv=>whnf
 constructor<;>intro h
 .rw[zE (kS h)]at aa;refine oO ?_;refine lH 17 [If ⟨5,p,d,[],noF,e⟩] E (.cons (.agg vL) .nil) E ?_;refine Aj (Ah Γ.toTy 18 E E E E E (.row E) (.lit (e:=If) (l:=[res]) E (by rw[aa];rfl)) j_ kO kO) E E (oO ?_);exact A6 E .nil [(2,18)] [(0,.box [.osl 2]),(1,.non),(2,.row 9 If (l++[res]))] (λ_ h=>h) E E kU
 .rw[zD (kS h)]at aa;refine oO ?_;refine Aj (Ah Γ.toTy 18 E E E E E (.row E) (.lit (e:=If) (l:=[res]) E (by rw[aa];rfl)) j_ kO kO) E E (oO ?_);exact A6 E .nil [(2,18)] [(0,.box [.osl 2]),(1,.non),(2,.row 9 If (l++[res]))] (λ_ h=>h) E E kU
def A49{t:List EntryM}(ht:TabOK t)(m:Nat):I64 (findE t m).1:=by
 unfold findE;split
 .unfold I64;dsimp only;omega
 .rename_i h;have ab:Dy t m<t.length:=Iw _ _;have hk:(Dy t m).toNat<t.length:=by omega
  dsimp only;rw[zR hk];exact ht.wh _ (zI hk)
def Oe{n:Net}{fw:List Bool}{fr:Int}{l:List Int}{p:Int}(h:p∈C0 n fw fr l):p∈l:=(uB.1 h).1
def Aji{n:Net}(hb:Ac n=true)(fw:List Bool)(t:List EntryM)(dom fr:Int)(m:Nat):∀p∈(Dv n fw t dom fr m).1,0<=p/\p<n.ports.length:=by
 intro p hp;unfold Dv at hp;split at hp
 .cases hp
 split at hp
 .exact Is p (Oe hp)
 split at hp
 .rename_i h1;obtain ⟨zl,jn⟩:=bA hb dom m;have h2:=zl.2 h1;have h3:=lL hb dom m h2;have h4:=zX.1 (Oe hp);rw[h4,<-jn h1];exact⟨h2,h3⟩
 split at hp
 .rename_i h1;rw[zX.1 (Oe hp)];exact Is _ (inB_mem.1 h1.2.2)
 split at hp
 .cases hp
 .exact Is p (Oe hp)
def Aif(n:Net)(fw:List Bool)(fr:Int)(l:List Int):(C0 n fw fr l).length<=l.length:=tY _ _
def Aii{n:Net}(hn:n.Fin)(dom fr:Int)(hd:Ag dom n.domains.length=true):(peersOut n dom fr).length<2147483648:=by
 unfold peersOut;split
 .decide
 .have h:=Lw hd;rw[Ae h.2];exact hn.peers _ (zI h.2)
def Adq{n:Net}(hn:n.Fin)(fw:List Bool)(t:List EntryM)(dom fr:Int)(m:Nat):(Dv n fw t dom fr m).1.length<2147483648/\(Dv n fw t dom fr m).2.1.length<2147483648:=by
 have h1:=Alw n dom;have h2:=hn.ports;unfold An at h2;have h3:=λl=>Aif n fw fr l
 unfold Dv;split
 .decide
 rename_i h;have hd:Ag dom n.domains.length=true:=by
  cases hx:Ag dom n.domains.length
  .exact yA (by rw[Lr,hx];rfl) h
  .rfl
 have h4:=Aii hn dom fr hd;split
 .have:=h3 (A7 n dom);exact⟨by dsimp only;omega,h4⟩
 split
 .have:=h3 [(nth n.statics (Eb n dom m)).port];simp only[yM,xG]at this;exact⟨by dsimp only;omega,by show (0:Nat)<2147483648;decide⟩
 split
 .have:=h3 [(findE t m).1];simp only[yM,xG]at this;exact⟨by dsimp only;omega,by show (0:Nat)<2147483648;decide⟩
 split
 .refine⟨by show (0:Nat)<2147483648;decide,?_⟩;dsimp only;split<;>simp
 .have:=h3 (A7 n dom);exact⟨by dsimp only;omega,h4⟩
def An1(n:Net)(hn:n.Fin)(ax:n.Num)(fw:List Bool)(t:List EntryM)(dom:Int)(q:QueuedM)(now:Int)(ht:TabOK t)(hq:QueuedOK q):Sp 109 [Am n,.sl 1 Ab fw,.sl 3 A9 t,Aa dom,B9 q,Aa now] (.tup [.sl 3 A9 (bridgeT n fw t dom q now).1,.sl 9 If (bridgeT n fw t dom q now).2.1,Aa (bridgeT n fw t dom q now).2.2]):=cT F109 ntmps109 λF hF=>by
 have aa:=bridgeT.eq_1 n fw t dom q now;generalize bridgeT n fw t dom q now=res at *;have qf:=floodS n hn fw dom q.from_;have qr:=Xo t ht.short ht.mac
 conv=>whnf
 refine Bf 6 8 (Am n) E E E ?_;refine Bf 10 7 (B9 q) E E E (oO ?_);cases a7:Lr n fw dom q.from_
 .rw[zE (.inl a7)]at aa;subst aa;rw[floodT,zE a7]at qf;refine c0 qf F183 ?_
  (refine oT ?_;refine bT ?_)
  exact Ak 13 [.sl 9 If []] E (.cons .nil .nil) (Ao 12 3 A9 E dN)
 rw[floodT,zD (by rw[a7];decide)]at qf;refine c0 qf F183 (oF ?_);refine c0 qr F104 ?_;cases ki:tableB t
 .rw[zE (.inr ki)]at aa;subst aa;refine oT ?_;exact Ak 13 [.sl 9 If []] E (.cons .nil .nil) (Ao 12 3 A9 E dN)
 rw[zD (by simp[a7,ki])]at aa;have ql:=Ajq t q now ht hq;have hu:=Xy ht hq now;generalize learnQ t q now=u at *;have qro:=Aj1 n hn ax dom q.frame.dst;generalize routerT n dom q.frame.dst=ro at *;obtain ⟨irb,ok⟩:=ro;dsimp only at aa qro;have hbn:Ac n=true:=by
  simp only[Lr,zG]at a7;exact a7.1.2
 refine oF ?_;refine gE ql F184 ?_;refine c0 qro F185 ?_;cases ok;rotate_left
 .rw[zE rfl]at aa;have qh:=Avp n hn ax irb q.frame hq.frame;generalize hopT n irb q.frame=hp at *;obtain ⟨to,g,e⟩:=hp;dsimp only at aa qh;refine oT ?_;refine gE qh F186 ?_;constructor<;>intro h
  .rw[zE (kS h)]at aa;subst aa;refine oO ?_;exact Ak 13 [.sl 9 If []] E (.cons .nil .nil) dN
  .rw[zD (kS h)]at aa;subst aa;refine oO ?_;refine kW ?_;refine lH 84 [If ⟨4,0,to,[],g,0⟩] E (.cons (.agg vL) .nil) E ?_;exact Jb 84 If [⟨4,0,to,[],g,0⟩] E E (Ai 84 E dN)
 rw[zD j_]at aa;have hs:=hq.frame.src;have jf:=hq.frame.dst;have gd:=A49 hu q.frame.dst;have qd:=A5h n hn fw u dom q.from_ q.frame.dst hu.short (by unfold I64 at *;omega) q_;have ru:=Aji hbn fw u dom q.from_ q.frame.dst;have mu:=Adq hn fw u dom q.from_ q.frame.dst;generalize Dv n fw u dom q.from_ q.frame.dst=dc at *;obtain ⟨ports,peers,e0⟩:=dc;dsimp only at aa qd ru mu;obtain ⟨x7,ri⟩:=mu;refine oF ?_;refine gE qd F188 ?_;refine Tq 13 0 1000 9 If E E E E ?_;refine Bg ports.length (λj=>[(3,Aa dom),(6,.ref 8 (Am n) 0),(10,.ref 7 (B9 q) 0),(12,.sl 3 A9 u),(13,.ptr 13 0),(23,.clo (.func 187) [] [.ptr 13 0]),(25,.sl 1 Aa peers),(100,.sl 1 Aa ports),(101,Aa ports.length),(102,Aa j)])
  (λj=>[(13,.box [.osl 1000]),(1000,.row 9 If ((ports.take j).map (Si n dom q.frame)))]) [(13,13),(1000,1000)] kU ?_
 intro j hj;refine gH ?_ ?_<;>intro h
 .have ab:j<ports.length:=qA h;have ai:(j:Int).toNat<ports.length:=kS ab;obtain ⟨p,hp⟩:=kE (ports[j]);have e1:ports[(j:Int).toNat]'ai=p:=hp;have hs:(ports.take (j+1)).map (Si n dom q.frame)=(ports.take j).map (Si n dom q.frame)++[Si n dom q.frame p]:=by
   rw[yD ab,wZ,hp];rfl
  have mh:((ports.take j).map (Si n dom q.frame)).length=j:=by rw[yW,zY];omega
  have km:=ru p (by rw[<-hp];exact zI ab);have zm:p.toNat<n.ports.length:=by omega
  have ql:=A1r n hn p dom q.frame hq.frame;have hop:Si n dom q.frame p=O8 (Av8 (if (nth n.ports p).link<0 then 1 else 2) p 0) ((leaveT n p dom q.frame).1,(leaveT n p dom q.frame).2):=rfl;rw[hop,Ae zm]at hs;clear hop;obtain ⟨acc,iy⟩:=kE ((ports.take j).map (Si n dom q.frame));rw[iy]at hs mh|-;obtain ⟨x,hx⟩:=kE (n.ports[p.toNat]'zm);rw[hx]at hs;clear h;refine oO ?_;refine⟨E,by omega,ai,?_⟩;rw[e1]
  conv=>whnf
  refine⟨E,km.1,zm,?_⟩;rw[hx]
  conv=>whnf
  constructor<;>intro h
  .rw[zD (qA h)]at hs;refine oO ?_;refine gE ql F189 ?_;refine Aj (Mm [(0,13),(1,1000),(2,1001)] [] (Aw E E F187) (aK acc 2 p 0 (leaveT n p dom q.frame).1 (leaveT n p dom q.frame).2 q_) (.cons (.agg vL) vL) ⟨E,E,Y⟩ E kB E) E E (gF ?_);exact Az [(13,13),(1000,1001)] ab ⟨kA,⟨.inl E,E,.inl (zH (Ob.row 9 If) hs),E,Y⟩,E,E⟩
  .rw[zE (qB h)]at hs;refine oO ?_;refine gE ql F189 ?_;refine Aj (Mm [(0,13),(1,1000),(2,1001)] [] (Aw E E F187) (aK acc 1 p 0 (leaveT n p dom q.frame).1 (leaveT n p dom q.frame).2 q_) (.cons (.agg vL) vL) ⟨E,E,Y⟩ E kB E) E E (gF ?_);exact Az [(13,13),(1000,1001)] ab ⟨kA,⟨.inl E,E,.inl (zH (Ob.row 9 If) hs),E,Y⟩,E,E⟩
 have gl:j=ports.length:=qB h;subst gl;clear h;rw[yN];obtain ⟨ph,vc⟩:=kE (ports.map (Si n dom q.frame));have hal0:ph.length=ports.length:=by rw[<-vc,yW]
 rw[vc]at aa|-;refine oO ?_;refine Bg peers.length (λj=>[(3,Aa dom),(6,.ref 8 (Am n) 0),(10,.ref 7 (B9 q) 0),(12,.sl 3 A9 u),(13,.ptr 13 0),(23,.clo (.func 187) [] [.ptr 13 0]),(130,.sl 1 Aa peers),(131,Aa peers.length),(132,Aa j)])
  (λj=>[(13,.box [.osl 1000]),(1000,.row 9 If (ph++(peers.take j).map (Vh n dom q.frame)))]) [(13,13),(1000,1000)] ⟨⟨rfl,rfl,rfl,rfl,rfl,rfl,rfl,rfl,rfl,rfl,rfl,rfl,rfl,rfl,rfl,rfl,rfl,rfl,trivial⟩,⟨.inl rfl,rfl,.inl (zH (Ob.row 9 If) y_),rfl,trivial⟩,rfl,rfl⟩ ?_
 intro j hj;refine gH ?_ ?_<;>intro h
 .have ab:j<peers.length:=qA h;have ai:(j:Int).toNat<peers.length:=kS ab;obtain ⟨p,hp⟩:=kE (peers[j]);have e1:peers[(j:Int).toNat]'ai=p:=hp;have hs:ph++(peers.take (j+1)).map (Vh n dom q.frame)=(ph++(peers.take j).map (Vh n dom q.frame))++[Vh n dom q.frame p]:=by
   rw[yD ab,wZ,hp,xF];rfl
  have mh:(ph++(peers.take j).map (Vh n dom q.frame)).length<=ports.length+j:=by rw[zQ,yW,zY];omega
  have ql:=Aq6 n hn ax dom p q.frame hq.frame;have hop:Vh n dom q.frame p=O8 (Av8 3 0 p) ((meshT n dom p q.frame).1,(meshT n dom p q.frame).2):=rfl;rw[hop]at hs;clear hop;obtain ⟨acc,iy⟩:=kE (ph++(peers.take j).map (Vh n dom q.frame));rw[iy]at hs mh|-;clear h;refine oO ?_;refine⟨E,by omega,ai,?_⟩;rw[e1]
  conv=>whnf
  refine gE ql F190 ?_;refine Aj (Mm [(0,13),(1,1000),(2,1001)] [] (Aw E E F187) (aK acc 3 0 p (meshT n dom p q.frame).1 (meshT n dom p q.frame).2 q_) (.cons (.agg vL) vL) ⟨E,E,Y⟩ E kB E) E E (gF ?_);exact Az [(13,13),(1000,1001)] ab ⟨kA,⟨.inl E,E,.inl (zH (Ob.row 9 If) hs),E,Y⟩,E,E⟩
 have gl:j=peers.length:=qB h;subst gl;clear h;rw[yN];subst aa;refine oO ?_;refine kW ?_;exact Ai 1000 E dN
def Ua{l:List QueuedM}(h:J9 l):l.length<1000000/\Xl l:=⟨by have:=h.1;omega,λq hq=>by have:=(h.2 q hq).frame.body;omega⟩
def dA{k:Type}{l:List k}{i:Nat}(h:i<l.length)(d:k):(l[i]?).getD d=l[i]:=by
 rw[zR h];rfl
def placeB_iff{d:Int}{k:Nat}:Ag d k=true↔0<=d/\d.toNat<k:=by
 simp only[Ag,zG,zJ];omega
def Ajn:=iJ A9 3 F105 ntmps105
def loadT(m:MacM)(dom:Int)(t:List EntryM):MacM×Int:=if Ag dom m.queues.length=true/\tableB t=true then (Ez m dom t,0) else (m,2)
def Azk(n:Net)(m:MacM)(d:Bool)(dom:Int)(t:List EntryM)(hq:m.tables.length=m.queues.length)(hl:An t)(m6:∀e∈t,e.mac<18446744073709551616):Sq 50 [.ptr 0 0,Aa dom,.sl 3 A9 t] (D1 n m d) (Aa (loadT m dom t).2) (D1 n (loadT m dom t).1 d):=cT F50 ntmps50 λF hF=>by
 have gz:=hl;unfold An at gz;have aa:=loadT.eq_1 m dom t;generalize loadT m dom t=res at *;have h1:=Ah0 n m d dom;have ay:=placeB_iff (d:=dom) (k:=m.queues.length);generalize Ag dom m.queues.length=b at *
 ((conv=>whnf);refine aF ?_;refine rg ?_;conv=>whnf)
 refine Aj (Ad [] E F103 h1 E kA E kB) E E (oO ?_);cases b
 .rw[zD y_]at aa;subst aa
  (refine⟨λ_=>?_,λh=>False.elim (yA h j_)⟩;refine rg ?_;(conv=>whnf);refine aT ?_;refine rg ?_;conv=>whnf)
  exact done E Aq [] (D1 n m d) (λ_ h=>h) E E kU
 have hd:=ay.1 rfl
 (refine⟨λh=>False.elim (yA h j_),λ_=>?_⟩;refine rg ?_;conv=>whnf)
 refine c0 (Xo t hl m6) F104 ?_;generalize tableB t=c at *;refine oO ?_;cases c
 .rw[zD y_]at aa;subst aa
  (refine⟨λ_=>?_,λh=>False.elim (yA h j_)⟩;refine rg ?_;conv=>whnf)
  exact done E Aq [] (D1 n m d) (λ_ h=>h) E E kU
 rw[zE ⟨rfl,rfl⟩]at aa;subst aa
 (refine⟨λh=>False.elim (yA h j_),λ_=>?_⟩;refine rg ?_;conv=>whnf)
 refine cD (Ajn t gz) F105 (oD ?_);refine⟨hd.1,by omega,?_⟩
 conv=>whnf
 refine⟨E,by omega,t,E,E,?_⟩
 conv=>whnf
 refine kW ?_;exact done E Aq [] (D1 n (Ez m dom t) d) (λ_ h=>h) E E kU
def Avf(n:Net)(m:MacM)(d:Bool)(dom:Int)(hl:J9 (queueL m dom)):Sq 52 [.ptr 0 0,Aa dom] (D1 n m d) (.sl 7 B9 (if Ag dom m.queues.length then queueL m dom else [])) (D1 n m d):=cT F52 ntmps52 λF hF=>by
 have h1:=Ah0 n m d dom;have ay:=placeB_iff (d:=dom) (k:=m.queues.length);generalize Ag dom m.queues.length=b at *;have hb:=Ua hl;have h2:=Abr _ (-1) hb.1 hb.2;have h3:takeT (queueL m dom) (-1)=(noQ,queueL m dom,false):=by rw[takeT];exact zE (.inl j_)
 rw[h3]at h2;clear h3 hb hl;have aa:=queueL.eq_1 m dom;generalize queueL m dom=res at *
 conv=>whnf
 refine Aj (Ad [] E F103 h1 E kA E kB) E E (oO ?_);cases b
 ·(refine⟨λ_=>?_,λh=>False.elim (yA h j_)⟩;refine rg ?_;conv=>whnf)
  refine Ao 4 7 B9 E ?_;exact done E Aq [] (D1 n m d) (λ_ h=>h) E E kU
 have hd:=ay.1 rfl;have ab:dom.toNat<m.queues.length:=hd.2;rw[dA ab]at aa;subst aa
 (refine⟨λh=>False.elim (yA h j_),λ_=>?_⟩;refine rg ?_;conv=>whnf)
 refine⟨hd.1,by omega,?_⟩
 conv=>whnf
 refine⟨E,ab,?_⟩
 conv=>whnf
 refine gE h2 F106 ?_;exact done E Aq [] (D1 n m d) (λ_ h=>h) E E kU
def Ya(m:MacM):Prop:=∀i,0<=m.drops i/\m.drops i<=1000000000000
def bD(n:Net)(m:MacM)(d:Bool)(dom:Int)(q:QueuedM)(e:Int)(he:0<=e/\e<64)(hd:e=0->0<=dom/\dom.toNat<m.queues.length)(hb:Ya m)(hl:J9 (queueL m dom))(hq:QueuedOK q):Sq 108 [.ptr 0 0,Aa dom,B9 q,Aa e] (D1 n m d) (.tup []) (D1 n (comeM m dom q e) d):=cT F108 ntmps108 λF hF=>by
 have l7:=Ua hl;have hp:=Ak5 _ q l7.1 l7.2 (by have:=hq.frame.body;omega);have h1:=Anj n m d e he.1 he.2 (hb _);have h3:=Anj n m d 3 j_ j_ (hb _);have aa:=comeM.eq_1 m dom q e;generalize comeM m dom q e=res at *
 conv=>whnf
 constructor<;>intro h
 .rw[zE (kS h)]at aa;subst aa;refine oO ?_;refine Aj (Ad [] E F111 h1 E kA E kB) E E (oO ?_);exact done E .nil [] (D1 n (De m e) d) (λ_ h=>h) E E kU
 have h0:e=0:=kS h;have hd:=hd h0;rw[zD (by rw[h0];decide)]at aa;clear h l7 h1 hl he;have vd:=queueL.eq_1 m dom;rw[dA hd.2]at vd;generalize queueL m dom=l at *;generalize pushT l q=r at *;obtain ⟨l2,ok⟩:=r;subst vd;refine oO ?_;refine⟨hd.1,hd.2,?_⟩
 conv=>whnf
 refine⟨E,hd.2,?_⟩
 conv=>whnf
 refine cD hp F182 (gL ?_);cases ok
 .rw[zD y_]at aa;subst aa
  (refine⟨λ_=>?_,λh=>False.elim (by simp at h)⟩;refine rg ?_;conv=>whnf)
  refine Aj (Ad [] E F111 h3 E kA E kB) E E (oO ?_);exact done E .nil [] (D1 n (De m 3) d) (λ_ h=>h) E E kU
 .rw[zE rfl]at aa;subst aa
  (refine⟨λh=>False.elim (by simp at h),λ_=>?_⟩;refine rg ?_;conv=>whnf)
  refine⟨hd.1,hd.2,?_⟩
  conv=>whnf
  refine⟨E,hd.2,l2,E,E,?_⟩
  conv=>whnf
  exact A6 E .nil [] (D1 n (setQ m dom l2) d) (λ_ h=>h) E E kU
def Ako(n:Net)(m:MacM)(d:Bool)(dom at_:Int)(hl:J9 (queueL m dom)):Sq 58 [.ptr 0 0,Aa dom,Aa at_] (D1 n m d) (.tup [B9 (takeM m dom at_).2.1,Ab (takeM m dom at_).2.2]) (D1 n (takeM m dom at_).1 d):=cT F58 ntmps58 λF hF=>by
 have l7:=Ua hl;have hp:=Abr _ at_ l7.1 l7.2;have h1:=Ah0 n m d dom;have ay:=placeB_iff (d:=dom) (k:=m.queues.length);have aa:=takeM.eq_1 m dom at_;generalize takeM m dom at_=res at *;generalize Ag dom m.queues.length=b at *;have vd:=queueL.eq_1 m dom;clear hl l7;generalize queueL m dom=l at *;generalize takeT l at_=r at *;obtain ⟨q,l2,ok⟩:=r
 conv=>whnf
 refine Aj (Ad [] E F103 h1 E kA E kB) E E (oO ?_);cases b
 .rw[zE rfl]at aa;subst aa
  (refine⟨λ_=>?_,λh=>False.elim (yA h j_)⟩;refine rg ?_;conv=>whnf)
  refine Ak 6 [Aa 0,Aa 0,Aa 0,Bl 0,Bl 0,Aa 0,.sl 1 Al []] E vL ?_;exact done E (.cons (.cell E E E E) Aq) [] (D1 n m d) (λ_ h=>h) E E kU
 have hd:=ay.1 rfl;rw[dA hd.2]at vd;subst vd;rw[zD y_]at aa;subst aa
 (refine⟨λh=>False.elim (yA h j_),λ_=>?_⟩;refine rg ?_;conv=>whnf)
 refine⟨hd.1,hd.2,?_⟩
 conv=>whnf
 refine⟨E,hd.2,?_⟩
 conv=>whnf
 refine gE hp F106 ?_;refine⟨hd.1,hd.2,?_⟩
 conv=>whnf
 refine⟨E,hd.2,l2,E,E,?_⟩
 conv=>whnf
 exact done E (.cons (.cell E E E E) Aq) [] (D1 n (setQ m dom l2) d) (λ_ h=>h) E E kU
def Apr(n:Net)(hn:n.Fin)(m:MacM)(d:Bool)(J D:Int)(ax:MacOK n m J D)(hJ:J<1000000000000)(hD:D<=1000000000000)(port:Int)(b:List UInt8)(hb:b.length<100000):Sq 56 [.ptr 0 0,Aa port,.sl 1 Al b] (D1 n m d) (.tup []) (D1 n (injectT n m port b) d):=cT F56 ntmps56 λF hF=>by
 have aa:=injectT.eq_1 n m port b;generalize injectT n m port b=res at *;have ay:=placeB_iff (d:=port) (k:=n.ports.length);have jc:=ax.inj;have aq:MacOK n ⟨m.up,m.tables,m.queues,m.now,m.injected+1,m.drops⟩ (J+1) D:=⟨ax.up,ax.tabs,ax.ques,ax.tab,ax.que,ax.now,⟨by dsimp only;omega,by dsimp only;omega⟩,ax.drp⟩
 have fh:Ya ⟨m.up,m.tables,m.queues,m.now,m.injected+1,m.drops⟩:=λi=>⟨(ax.drp i).1,by have:=(ax.drp i).2;dsimp only at *;omega⟩
 have he:=Adf n port b;have gi:=aB (n:=n) (port:=port) (b:=b);have q1:=Anf n hn port b hb;have hfr:=lA n port b;generalize enterT n port b=r at *;have q2:=λ (hp:0<=port/\port.toNat<n.ports.length)=>bD n ⟨m.up,m.tables,m.queues,m.now,m.injected+1,m.drops⟩ d r.1 ⟨port,0,m.injected+1,r.2.1⟩ r.2.2 ⟨he.1,by have:=he.2;omega⟩ (λ h=>by
  have:=gi h;exact⟨this.1,by show r.1.toNat<m.queues.length;rw[ax.ques];exact this.2⟩) fh (Jd aq _) (Ki hfr _ ⟨by omega,by have:=hn.ports;unfold An at this;omega⟩ j_)
 conv=>whnf
 constructor<;>intro h
 .have h:=zO h;rw[zE (.inl (by cases hx:Ag port n.ports.length;rfl;exact yA (ay.1 hx) q_))]at aa;subst aa
  (refine oT ?_;refine bT ?_)
  (skip)
  exact done E .nil [] (D1 n res d) (λ_ h=>h) E E kU
 have h0:=zT h;clear h;refine gH ?_ ?_<;>intro h
 .have h:=zO h;rw[zE (.inl (by cases hx:Ag port n.ports.length;rfl;exact yA (ay.1 hx) q_))]at aa;subst aa;refine oT ?_
  (skip)
  exact done E .nil [] (D1 n res d) (λ_ h=>h) E E kU
 have h1:=zT h;clear h;have hp:0<=port/\port.toNat<n.ports.length:=by omega
 rw[ay.2 hp,Ae hp.2]at aa;obtain ⟨p,j7⟩:=kE (n.ports[port.toNat]'hp.2);rw[j7]at aa;refine oO ?_;refine⟨E,hp.1,hp.2,?_⟩;rw[j7]
 conv=>whnf
 constructor<;>intro h
 .have h:=zO h;rw[zE (.inr h)]at aa;subst aa;refine oO ?_;exact done E .nil [] (D1 n res d) (λ_ h=>h) E E kU
 have h2:=zT h;clear h;rw[zD kO]at aa;subst aa;refine gF ?_;refine gE q1 F107 ?_;refine Ce (Ad [] E F108 (q2 hp) E kA E kB) z_ E (gL ?_);refine A6 E .nil [] (D1 n (comeM _ _ _ _) d) (λ_ h=>h) E E kU
def Aa6(n:Net)(hn:n.Fin)(m:MacM)(d:Bool)(J D:Int)(ax:MacOK n m J D)(hD:D<=1000000000000)(o:OutM)(ho:OutOK n o)(origin:Int):Sq 112 [.ptr 0 0,If o,Aa origin] (D1 n m d) (.sl 3 En (goesM n m o origin).2) (D1 n (goesM n m o origin).1 d):=cT F112 ntmps112 λF hF=>by
 have aa:=goesM.eq_1 n m o origin;generalize goesM n m o origin=res at *;have fh:Ya m:=λi=>⟨(ax.drp i).1,by have:=(ax.drp i).2;omega⟩
 have mj:o.bytes.length<100000:=by have:=ho.bytes;omega
 have a6:∀{x:Int},DomIn n x->0<=x/\x.toNat<m.queues.length:=λh=>by rw[ax.ques];exact h
 conv=>whnf
 constructor<;>intro h
 .have h1:o.kind=1:=by simpa using h
  rw[zE h1]at aa;subst aa;refine oO ?_;refine Jb 34 En [⟨o.port,origin,o.bytes⟩] E E (Ai 34 E ?_);exact done E Aq [] (D1 n m d) (λ_ h=>h) E E kU
 have h1:¬o.kind=1:=kS h;rw[zD h1]at aa;clear h;refine gH ?_ ?_<;>intro h
 .have h2:o.kind=2:=by simpa using h
  rw[zE h2]at aa;have q1:=Aq7 n hn o.port o.bytes mj;have he:=Aw2 n o.port o.bytes;have hd:=λh=>a6 (Af9 (n:=n) (port:=o.port) (b:=o.bytes) h)
  have hf:=Amc n o.port o.bytes;have ht:=Amb hn o.port o.bytes;generalize linkT n o.port o.bytes=r at *;have q2:=bD n m d r.2.1 ⟨r.1,0,origin,r.2.2.1⟩ r.2.2.2 he hd fh (Jd ax _) (Ki hf _ q_ j_);subst aa;refine oO ?_;refine cD q1 F193 (gL ?_);refine kW ?_;refine Aj (Ad [] E F108 q2 E kA E kB) E E (oO ?_);refine Ao 6 3 En E ?_;exact done E Aq [] (D1 n (comeM _ _ _ _) d) (λ_ h=>h) E E kU
 have h2:¬o.kind=2:=kS h;rw[zD h2]at aa;clear h;refine gH ?_ ?_<;>intro h
 .have h2:o.kind=3:=by simpa using h
  rw[zE h2]at aa;have q1:=Aq8 n hn o.bytes mj;have he:=Ax0 n o.bytes;have hd:=λh=>a6 (lB (n:=n) (b:=o.bytes) h).2
  have hf:=Ans n o.bytes;have ht:=Adt hn o.bytes;generalize comeT n o.bytes=r at *;have q2:=bD n m d r.2.1 ⟨-1,r.1,origin,r.2.2.1⟩ r.2.2.2 he hd fh (Jd ax _) (Ki hf _ j_ ht);subst aa;refine oO ?_;refine cD q1 F194 (gL ?_);refine kW ?_;refine Aj (Ad [] E F108 q2 E kA E kB) E E (oO ?_);refine Ao 6 3 En E ?_;exact done E Aq [] (D1 n (comeM _ _ _ _) d) (λ_ h=>h) E E kU
 have h3:¬o.kind=3:=kS h;rw[zD h3]at aa;clear h;refine gH ?_ ?_<;>intro h
 .have h4:o.kind=4:=by simpa using h
  rw[zE h4]at aa;have hf:=ho.frame h4;have q2:=bD n m d o.domain ⟨-2,0,origin,o.frame⟩ 0 j_ (λ_=>a6 hf.2) fh (Jd ax _) (Ki hf.1 _ j_ j_);subst aa;refine oO ?_;refine Aj (Ad [] E F108 q2 E kA E kB) E E (oO ?_);refine Ao 6 3 En E ?_;exact done E Aq [] (D1 n (comeM _ _ _ _) d) (λ_ h=>h) E E kU
 have h4:¬o.kind=4:=kS h;rw[zD h4]at aa;have h5:o.kind=5:=by have:=ho.kind;omega
 have he:=ho.err h5;have q2:=Anj n m d o.error he.1 he.2 (fh _);subst aa;clear h;refine oO ?_;refine Aj (Ad [] E F111 q2 E kA E kB) E E (oO ?_);refine Ao 6 3 En E ?_;exact done E Aq [] (D1 n (De m o.error) d) (λ_ h=>h) E E kU
end Go.Sy.Zaa
