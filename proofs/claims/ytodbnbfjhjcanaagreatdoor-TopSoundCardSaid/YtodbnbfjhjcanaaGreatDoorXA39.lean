/- Parts of a proof. -/
import Derived.Test.YtodbnbfjhjcanaaGreatDoorXA38
set_option maxHeartbeats 4000000
set_option linter.all false
namespace Go.Sy.Zaa
open Go.Proofs Go.Proofs.Tryz
section
attribute [local irreducible]G DR
set_option maxRecDepth 100000
def Ars(n:Net)(fw:List Bool)(l:List Int):Prop:=∀p∈l,0<=p/\p<n.ports.length/\(nth n.ports p).link<fw.length
def Ant(n:Net)(fw:List Bool)(at_ from_:Int)(ml l:List Int)(hl:An l)(hp:Ars n fw l):Sp 239 [.ref 12 (Tf n fw at_ from_ ml) 0,.sl 1 Aa l] (.sl 1 Aa (H2 n fw from_ l)):=cT F239 ntmps239 λF hF=>by
 have q:=lH l (λp=>decide (p=from_)||!(usableB n fw p)) 306 [] [.ref 1 (.ref 12 (Tf n fw at_ from_ ml) 0) 0] rfl rfl (λp h=>⟨⟨_,_,F306⟩,portsC n fw at_ from_ ml p (hp p h).1 (hp p h).2.1 (hp p h).2.2⟩) hl;unfold An at hl
 conv=>whnf
 refine Ba 2 1 (.ref 12 (Tf n fw at_ from_ ml) 0) E E E (oO ?_);refine Ai (Ad [(0,55)] E F170 (Ahf l hl) E q_ E ⟨.inr E,q_⟩) E E (oO ?_);refine Ai (Ad [(0,55),(1,56)] E F308 q E ⟨E,q_⟩ E kB) E E (oO ?_);exact Aj 56 E dN
def Aqu(n:Net)(hn:n.Fin)(fw:List Bool)(dom from_:Int)(ml:List Int)(hd:Af dom n.domains.length=true):Sp 240 [.ref 12 (Tf n fw dom from_ ml) 0] (.sl 1 Aa (peersOut n dom from_)):=cT F240 ntmps240 λF hF=>by
 have m6:=B3 hd;have r7:0<=dom:=m6.1;have cm:dom.toNat<n.domains.length:=by omega
 have e2:nth n.domains dom=n.domains[dom.toNat]:=Ag cm;have gp:=hn.peers _ (zI cm);have aa:=peersOut.eq_1 n dom from_;generalize peersOut n dom from_=res at *;rw[e2]at aa;obtain ⟨d,dz⟩:=kE (n.domains[dom.toNat]'cm);rw[dz]at aa gp;have qc:=Kk d.peers gp
 conv=>whnf
 constructor<;>intro h
 .rw[zE (kS h)]at aa;subst aa;refine oO ?_;exact Ao 2 1 Aa E dN
 .rw[zD (kS h)]at aa;subst aa;refine oO ?_;refine⟨E,r7,cm,?_⟩;rw[dz]
  conv=>whnf
  refine cD qc F170 (gM ?_);exact dN
def We(n:Net)(fw:List Bool)(dom:Int):Bool:=Af dom n.domains.length&&decide (fw.length=n.links.length)&&Ac n
def Aqo(n:Net)(hn:n.Fin)(fw:List Bool)(dom from_:Int)(h:We n fw dom=false):Sp 238 [Am n,.sl 1 Ab fw,Aa dom,Aa from_] (.tup [.val (.pointer none),Ab false]):=cT F238 ntmps238 λF hF=>by
 have qr:=A0 n hn
 conv=>whnf
 constructor<;>intro h1
 ·(refine oT ?_;refine bT ?_;refine bT ?_)
  exact dN
 refine oO ?_;constructor<;>intro h2
 ·(refine oT ?_;refine bT ?_)
  exact dN
 refine oO ?_;constructor<;>intro h3
 .refine oT ?_;exact dN
 refine oO ?_;refine c0 qr F39 ?_;cases hbn:Ac n
 .refine oT ?_;exact dN
 .exfalso;have h4:Af dom n.domains.length=true:=Et ⟨by simp at h1;omega,by simp at h2;omega⟩;have h5:fw.length=n.links.length:=by simp at h3;omega
  simp[We,h4,h5,hbn]at h
def Aww(n:Net)(hn:n.Fin)(fw:List Bool)(dom from_:Int)(h:We n fw dom=true):Sp 238 [Am n,.sl 1 Ab fw,Aa dom,Aa from_] (.tup [.ref 12 (Tf n fw dom from_ (Bl n dom)) 0,Ab (decide (from_=-1)||decide (from_=-2)||inB (Bl n dom) from_)]):=cT F238 ntmps238 λF hF=>by
 have qr:=A0 n hn;simp only[We,zG,zJ]at h;obtain ⟨⟨hd,je⟩,hbn⟩:=h;rw[hbn]at qr;have m6:=B3 hd;have qm:=Qu n hn dom;have qc:=D3 (Bj n dom) from_ (Kw n hn dom);have wy:Bj n dom=Bl n dom:=by rw[Bj,zE ⟨⟨m6.1,m6.2⟩,hbn⟩]
 rw[wy]at qm qc;generalize Bl n dom=ml at *
 conv=>whnf
 refine⟨λh1=>zX h1 kO,λ_=>?_⟩;refine oO ?_;refine⟨λh1=>zX h1 kO,λ_=>?_⟩;refine oO ?_;refine⟨λh1=>zX h1 kO,λ_=>?_⟩;refine oO ?_;refine c0 qr F39 (oF ?_);refine cD qm F116 (gM ?_);constructor<;>intro h1
 .have h2:from_=-1:=by simpa using h1
  refine Ba 41 12 (Tf n fw dom from_ ml) E E E (oT ?_);exact Aq E (.cons .tmp Ap) (zH (λz=>SV.tup [_,Ab z]) (by simp[h2])) E
 have h2:¬from_=-1:=kS h1;refine Ba 41 12 (Tf n fw dom from_ ml) E E E (oO ?_);constructor<;>intro h3
 .have h4:from_=-2:=by simpa using h3
  refine oO ?_;exact Aq E (.cons .tmp Ap) (zH (λz=>SV.tup [_,Ab z]) (by simp[h4])) E
 have h4:¬from_=-2:=kS h3;refine oO ?_;refine gE qc F115 ?_;exact Aq E (.cons .tmp Ap) (zH (λz=>SV.tup [_,Ab z]) (by simp[h2,h4])) E
def Agf{n:Net}(hb:Ac n=true){p:Int}(h0:0<=p)(hp:p<n.ports.length):(nth n.ports p).link<n.links.length:=by
 have hk:p.toNat<n.ports.length:=by omega
 have e1:nth n.ports p=n.ports[p.toNat]:=Ag hk;rw[e1];by_cases hl:0<=n.ports[p.toNat].link
 .have:=I2 hb hk hl;omega
 .omega
def oL{n:Net}{fw:List Bool}(hb:Ac n=true)(hf:fw.length=n.links.length){l:List Int}(h:∀p∈l,0<=p/\p<n.ports.length):Ars n fw l:=λp hp=>
 ⟨(h p hp).1,(h p hp).2,by rw[hf];exact Agf hb (h p hp).1 (h p hp).2⟩
def Ih{n:Net}{dom:Int}:∀p∈Bl n dom,0<=p/\p<n.ports.length:=λp hp=>by
 rw[Bl,filtI_mem]at hp;exact⟨hp.1,hp.2.1⟩
def Qv{n:Net}(hn:n.Fin)(dom:Int):An (Bl n dom):=by
 have h1:=I7 (Uk n (nth n.domains dom)) n.ports.length;have h2:=hn.ports;unfold An at *;rw[Bl];omega
def U2(n:Net)(fw:List Bool)(dom from_:Int):Ui n fw dom from_=(We n fw dom&&(decide (from_=-1)||decide (from_=-2)||inB (Bl n dom) from_)):=rfl
def floodS(n:Net)(hn:n.Fin)(fw:List Bool)(dom from_:Int):Sp 183 [Am n,.sl 1 Ab fw,Aa dom,Aa from_] (.tup [.sl 1 Aa (floodT n fw dom from_).1,.sl 1 Aa (floodT n fw dom from_).2.1,Aa (floodT n fw dom from_).2.2]):=cT F183 ntmps183 λF hF=>by
 have aa:=floodT.eq_1 n fw dom from_;generalize floodT n fw dom from_=res at *;rw[U2]at aa;cases cd:We n fw dom
 .rw[cd,yC,zE rfl]at aa;subst aa;have q:=Aqo n hn fw dom from_ cd
  conv=>whnf
  refine c0 q F238 (oT ?_);exact Ao 8 1 Aa E (Ao 9 1 Aa E dN)
 rw[cd,yD]at aa;have q:=Aww n hn fw dom from_ cd;have dx:=cd;simp only[We,zG,zJ]at dx;obtain ⟨⟨hd,je⟩,hbn⟩:=dx;have qp:=Ant n fw dom from_ (Bl n dom) (Bl n dom) (Qv hn dom) (oL hbn je Ih);have qe:=Aqu n hn fw dom from_ (Bl n dom) hd;generalize (decide (from_=-1)||decide (from_=-2)||inB (Bl n dom) from_)=ok at *;generalize Bl n dom=ml at *
 conv=>whnf
 refine c0 q F238 ?_;cases ok
 .rw[zE rfl]at aa;subst aa;refine oT ?_;exact Ao 8 1 Aa E (Ao 9 1 Aa E dN)
 rw[zD y_]at aa;subst aa;refine oF ?_;refine gE qp F239 ?_;refine gE qe F240 ?_;exact dN
def aM:=iD Bb 4 F392 ntmps392
def entryC(dom:Int)(m:Nat)(s:Static):Sp 393 [Bb s,.ref 1 (Aa dom) 0,.ref 1 (Bi m) 0] (Ab (decide (s.domain=dom)&&decide (s.mac=(m:Int)))):=cT F393 ntmps393 λF hF=>by
 conv=>whnf
 constructor<;>intro h
 .refine oO ?_;refine Aq E Ap (zH Ab ?_) E;have h1:s.domain=dom:=kS h;rw[zK h1,yD,wO];simp
 .refine oO ?_;refine Aq E Ap (zH Ab ?_) E;have h1:¬s.domain=dom:=kS h;rw[zL h1,yC]
def entryI(n:Net)(hn:n.Fin)(dom:Int)(m:Nat):Sp 351 [Am n,Aa dom,Bi m] (Aa (E8 n dom m)):=cT F351 ntmps351 λF hF=>by
 have q:=aM n.statics (λs:Static=>decide (s.domain=dom)&&decide (s.mac=(m:Int))) 393 [] [.ref 1 (Aa dom) 0,.ref 1 (Bi m) 0] rfl (λx _=>⟨⟨_,_,F393⟩,entryC dom m x⟩) hn.statics
 conv=>whnf
 refine Ba 4 1 (Aa dom) E E E ?_;refine Ba 5 1 (Bi m) E E E (oO ?_);refine gE q F392 ?_;exact dN
def staticP(n:Net)(dom:Int)(m:Nat):Int:=if 0<=E8 n dom m then (nth n.statics (E8 n dom m)).port else -1
def Apr(n:Net)(hn:n.Fin)(hb:Ac n=true)(dom:Int)(m:Nat):Sp 320 [Am n,Aa dom,Bi m] (Aa (staticP n dom m)):=cT F320 ntmps320 λF hF=>by
 have q:=entryI n hn dom m;have qr:=A0 n hn;rw[hb]at qr;have ab:E8 n dom m<n.statics.length:=Il _ _;have aa:=staticP.eq_1 n dom m;generalize staticP n dom m=res at *;generalize E8 n dom m=i at *
 conv=>whnf
 refine gE q F351 ?_;constructor<;>intro h
 .rw[zD (by simp at h;omega)]at aa;subst aa;refine oT ?_;exact dN
 .have h0:0<=i:=by simp at h;omega
  have hk:i.toNat<n.statics.length:=by omega
  have e1:nth n.statics i=n.statics[i.toNat]:=Ag hk;rw[zE h0,e1]at aa;refine oO ?_;refine c0 qr F39 (oF ?_);refine⟨E,h0,hk,?_⟩
  conv=>whnf
  exact Aq E Ap (zH Aa aa) E
def knownT(n:Net)(fw:List Bool)(t:List EntryM)(dom from_:Int)(m:Nat):List Int×List Int×Bool :=
 if 0<=staticP n dom m then (H2 n fw from_ [staticP n dom m],[],true)
 else if (findE t m).2=false then ([],[],false)
 else if 0<=(findE t m).1/\inB (Bl n dom) (findE t m).1=true then (H2 n fw from_ [(findE t m).1],[],true)
 else if (findE t m).1<0/\inB (nth n.domains dom).peers (-1-(findE t m).1)=true then (if from_=-1 then ([],[],true) else ([],[-1-(findE t m).1],true))
 else ([],[],false)
def dV{n:Net}(hb:Ac n=true)(dom:Int)(m:Nat)(h:0<=staticP n dom m):staticP n dom m<n.ports.length:=by
 unfold staticP at h|-;split at h
 .rename_i h0;rw[zE h0];have ab:E8 n dom m<n.statics.length:=Il _ _;have hk:(E8 n dom m).toNat<n.statics.length:=by omega
  simp only[Ac,zG]at hb;have:=allB_iff.1 hb.1.1.1.2 _ hk;simp only[Ll,zG,Af,zJ]at this;rw[Ag hk];exact this.1.1.2.2
 .omega
def knownS(n:Net)(hn:n.Fin)(fw:List Bool)(t:List EntryM)(dom from_:Int)(m:Nat)(hl:An t)(hw:I64 (-1-(findE t m).1))(cd:We n fw dom=true):Sp 245 [.ref 12 (Tf n fw dom from_ (Bl n dom)) 0,.sl 3 A5 t,Bi m] (.tup [.sl 1 Aa (knownT n fw t dom from_ m).1,.sl 1 Aa (knownT n fw t dom from_ m).2.1,Ab (knownT n fw t dom from_ m).2.2]):=cT F245 ntmps245 λF hF=>by
 simp only[We,zG,zJ]at cd;obtain ⟨⟨hd,je⟩,hbn⟩:=cd;have m6:=B3 hd;have r7:0<=dom:=m6.1;have cm:dom.toNat<n.domains.length:=by omega
 have e2:nth n.domains dom=n.domains[dom.toNat]:=Ag cm;have gp:=hn.peers _ (zI cm);have aa:=knownT.eq_1 n fw t dom from_ m;have qs:=Apr n hn hbn dom m;have zc:=dV hbn dom m;have qf:=Awc t m hl;have qp:∀p:Int,0<=p->p<n.ports.length->_:=λp h0 h1=>Ant n fw dom from_ (Bl n dom) [p] (by unfold An;simp) (oL hbn je (l:=[p]) (λx hx=>by rw[zZ]at hx;subst hx;exact⟨h0,h1⟩))
 have jt:∀p,inB (Bl n dom) p=true->0<=p/\p<n.ports.length:=λp hp=>Ih p (inB_mem.1 hp)
 have qc:=λx=>D3 (Bl n dom) x (Qv hn dom)
 rw[e2]at aa;obtain ⟨d,dz⟩:=kE (n.domains[dom.toNat]'cm);rw[dz]at aa gp;have qc2:=λx=>D3 d.peers x gp
 generalize knownT n fw t dom from_ m=res at *;generalize staticP n dom m=sp at *;generalize findE t m=fe at *;obtain ⟨w,ok⟩:=fe;dsimp only at aa hw qf;generalize Bl n dom=ml at *
 conv=>whnf
 refine cD qs F320 (gM ?_);constructor<;>intro h1
 .have h2:0<=sp:=by simpa using h1
  rw[zE h2]at aa;subst aa;refine oO ?_;refine O0 25 Aa [sp] E E ?_;refine Aj 25 E (gE (qp sp h2 (zc h2)) F239 ?_);exact Ao 7 1 Aa E dN
 have h2:¬0<=sp:=by simp at h1;omega
 rw[zD h2]at aa;refine oO ?_;refine c0 qf F321 ?_;cases ok
 .rw[zE rfl]at aa;subst aa;refine oT ?_;exact Ao 6 1 Aa E (Ao 7 1 Aa E dN)
 rw[zD y_]at aa;refine oF ?_;constructor<;>intro h3
 .have h4:0<=w:=by simpa using h3
  refine oO ?_;refine c0 (qc w) F115 ?_;cases az:inB ml w
  .rw[zD (by simp[az]),zD z_]at aa;subst aa;refine oF ?_;refine⟨λh5=>zX h5 kO,λ_=>?_⟩;refine oD ?_;refine⟨j_,?_⟩
   ((conv=>whnf);refine aF ?_;refine rg ?_;conv=>whnf)
   exact Ao 6 1 Aa E (Ao 7 1 Aa E dN)
  .rw[zE ⟨h4,az⟩]at aa;subst aa;refine oT ?_;refine O0 49 Aa [w] E E ?_;refine Aj 49 E (gE (qp w h4 (jt w az).2) F239 ?_);exact Ao 7 1 Aa E dN
 have h4:¬0<=w:=by simp at h3;omega
 rw[zD z_]at aa;refine oF ?_;refine⟨λh5=>?_,λh5=>zX h5 kO⟩;refine oD ?_;refine⟨E,r7,cm,?_⟩;rw[dz]
 conv=>whnf
 refine⟨hw,?_⟩
 conv=>whnf
 refine cD (qc2 (-1-w)) F115 ?_;cases az:inB d.peers (-1-w)
 .rw[zD (by simp[az])]at aa;subst aa;refine oD ?_;refine⟨j_,?_⟩
  ((conv=>whnf);refine aF ?_;refine rg ?_;conv=>whnf)
  exact Ao 6 1 Aa E (Ao 7 1 Aa E dN)
 rw[zE ⟨by omega,az⟩]at aa;refine oD ?_;refine⟨j_,?_⟩
 ((conv=>whnf);refine aT ?_;refine rg ?_;conv=>whnf)
 constructor<;>intro h6
 .rw[zE (kS h6)]at aa;subst aa;refine oO ?_;exact Ao 6 1 Aa E (Ao 7 1 Aa E dN)
 .rw[zD (kS h6)]at aa;subst aa;refine oO ?_;refine⟨hw,?_⟩
  conv=>whnf
  exact Ao 6 1 Aa E (O0 78 Aa [-1-w] E E (Aj 78 E dN))
def Zm{n:Net}(hb:Ac n=true)(dom:Int)(m:Nat):(0<=staticP n dom m↔0<=E8 n dom m)/\(0<=E8 n dom m->staticP n dom m=(nth n.statics (E8 n dom m)).port):=by
 refine⟨⟨λh=>?_,λh=>?_⟩,λh=>by rw[staticP,zE h]⟩
 .unfold staticP at h;split at h
  .assumption
  .omega
 .rw[staticP,zE h];have ab:E8 n dom m<n.statics.length:=Il _ _;have hk:(E8 n dom m).toNat<n.statics.length:=by omega
  simp only[Ac,zG]at hb;have:=allB_iff.1 hb.1.1.1.2 _ hk;simp only[Ll,zG,Af,zJ]at this;rw[Ag hk];exact this.1.1.2.1
def A2k{n:Net}{fw:List Bool}{t:List EntryM}{dom from_:Int}{m:Nat}(hb:Ac n=true)(hr:Ui n fw dom from_=true)(hg:E1 m=false):D2 n fw t dom from_ m=if (knownT n fw t dom from_ m).2.2=true then ((knownT n fw t dom from_ m).1,(knownT n fw t dom from_ m).2.1,0) else (H2 n fw from_ (Bl n dom),peersOut n dom from_,0):=by
 obtain ⟨h1,h2⟩:=Zm hb dom m;rw[D2,zD (by rw[hr];decide),zD (by rw[hg];decide)];unfold knownT;by_cases hs:0<=E8 n dom m
 .rw[zE hs,zE (h1.2 hs),h2 hs];rfl
 rw[zD hs,zD (λh=>hs (h1.1 h))];generalize findE t m=fe;obtain ⟨w,ok⟩:=fe;cases ok
 .simp
 simp only[Bool.true_eq_false,if_false,true_and];by_cases ha:0<=w/\inB (Bl n dom) w=true
 .rw[zE ha,zE ha];rfl
 rw[zD ha,zD ha];by_cases hc:w<0/\inB (nth n.domains dom).peers (-1-w)=true
 .rw[zE hc,zE hc];split<;>rfl
 .rw[zD hc,zD hc];rfl
def A2l(n:Net)(hn:n.Fin)(fw:List Bool)(t:List EntryM)(dom from_:Int)(m:Nat)(hl:An t)(hw:I64 (-1-(findE t m).1))(vw:m<18446744073709551616):Sp 188 [Am n,.sl 1 Ab fw,.sl 3 A5 t,Aa dom,Aa from_,Bi m] (.tup [.sl 1 Aa (D2 n fw t dom from_ m).1,.sl 1 Aa (D2 n fw t dom from_ m).2.1,Aa (D2 n fw t dom from_ m).2.2]):=cT F188 ntmps188 λF hF=>by
 cases cd:We n fw dom
 .have aa:D2 n fw t dom from_ m=([],[],2):=by
   rw[D2,zE (by rw[U2,cd];rfl)]
  rw[aa];have q:=Aqo n hn fw dom from_ cd;refine gP q F238 ?_;refine fU ?_;exact Ao 12 1 Aa E (Ao 13 1 Aa E dN)
 have q:=Aww n hn fw dom from_ cd;have qk:=knownS n hn fw t dom from_ m hl hw cd;have qg:=Oe m vw;have dx:=cd;simp only[We,zG,zJ]at dx;obtain ⟨⟨hd,je⟩,hbn⟩:=dx;have qp:=Ant n fw dom from_ (Bl n dom) (Bl n dom) (Qv hn dom) (oL hbn je Ih);have qe:=Aqu n hn fw dom from_ (Bl n dom) hd;have bz:=U2 n fw dom from_;rw[cd,yD]at bz;have ef:Ui n fw dom from_=false->D2 n fw t dom from_ m=([],[],2):=λh=>by rw[D2,zE h]
 have hgrp:Ui n fw dom from_=true->E1 m=true->D2 n fw t dom from_ m=(H2 n fw from_ (Bl n dom),peersOut n dom from_,0):=λh h2=>by
  rw[D2,zD (by rw[h];decide),zE h2]
 have jo:=λh h2=>@A2k n fw t dom from_ m hbn h h2
 generalize D2 n fw t dom from_ m=res at *;generalize knownT n fw t dom from_ m=kn at *;obtain ⟨kp,ke,ko⟩:=kn;generalize Ui n fw dom from_=rm at *;generalize (decide (from_=-1)||decide (from_=-2)||inB (Bl n dom) from_)=ok at *;subst bz;generalize Bl n dom=ml at *;dsimp only at jo qk;refine gP q F238 ?_;cases rm
 .rw[ef rfl];refine fU ?_;exact Ao 12 1 Aa E (Ao 13 1 Aa E dN)
 refine gN qg F179 ?_;cases hg:E1 m
 .have jo:=jo rfl hg;refine gN qk F245 ?_;cases ko
  .rw[zD y_]at jo;subst jo;refine gN qp F239 ?_;refine gN qe F240 ?_;exact gD
  .rw[zE rfl]at jo;subst jo;exact gD
 .rw[hgrp rfl hg];refine gN qp F239 ?_;refine gN qe F240 ?_;exact gD
end
section
structure TabOK(t:List EntryM):Prop where
 short:An t
 mac:∀e∈t,e.mac<18446744073709551616
 wh:∀e∈t,I64 e.where_
structure QueuedOK(q:QueuedM):Prop where
 frame:FrameOK q.frame
 from_:-2<=q.from_/\q.from_<1099511627776
 peer:0<=q.peer/\q.peer<1099511627776
def Jb(l:List QueuedM):Prop:=l.length<=64/\∀q∈l,QueuedOK q
structure MacOK(n:Net)(m:MacM)(J D:Int):Prop where
 up:m.up.length=n.links.length
 tabs:m.tables.length=n.domains.length
 ques:m.queues.length=n.domains.length
 tab:∀t∈m.tables,TabOK t
 que:∀l∈m.queues,Jb l
 now:0<=m.now/\m.now<=1099511627776
 inj:0<=m.injected/\m.injected<=J
 drp:∀i,0<=m.drops i/\m.drops i<=D
def J5{f:FrameM}(hf:FrameOK f){a b:Int}(c:Int)(h1:-2<=a/\a<1099511627776)(h2:0<=b/\b<1099511627776):QueuedOK ⟨a,b,c,f⟩:=⟨hf,h1,h2⟩
def Axy:QueuedOK noQ:=⟨Ef,by decide,by decide⟩
def cZ:TabOK []:=⟨by unfold An;decide,λ_ h=>(by cases h),λ_ h=>(by cases h)⟩
def eO:Jb []:=⟨by decide,λ_ h=>(by cases h)⟩
def aE{k:Type}{l:List k}{i:Nat}{x y:k}(h:y∈l.set i x):y=x\/y∈l:=by
 rcases uT h with h|h
 .exact .inr h
 .exact .inl h
def Om{k:Type}{l:List k}{i:Nat}{d:k}(h:i<l.length):(l[i]?).getD d∈l:=by
 rw[zR h];exact zI h
def Ie{n:Net}{m:MacM}{J D:Int}(h:MacOK n m J D)(dom:Int):Jb (queueL m dom):=by
 unfold queueL;by_cases hd:dom.toNat<m.queues.length
 .exact h.que _ (Om hd)
 .rw[xV z_];exact eO
def cI{n:Net}{m:MacM}{J D:Int}(h:MacOK n m J D)(dom:Int):TabOK (tableL m dom):=by
 unfold tableL;by_cases hd:dom.toNat<m.tables.length
 .exact h.tab _ (Om hd)
 .rw[xV z_];exact cZ
theorem MacOK.mono{n:Net}{m:MacM}{J D J' D':Int}(h:MacOK n m J D)(h1:J<=J')(h2:D<=D'):MacOK n m J' D' :=
 ⟨h.up,h.tabs,h.ques,h.tab,h.que,h.now,⟨h.inj.1,by have:=h.inj.2;omega⟩,λi=>⟨(h.drp i).1,by have:=(h.drp i).2;omega⟩⟩
def V7{n:Net}{m:MacM}{J D:Int}(h:MacOK n m J D)(_hD:0<=D)(e:Int):MacOK n (C1 m e) J (D+1):=by
 refine⟨h.up,h.tabs,h.ques,h.tab,h.que,h.now,h.inj,λi=>?_⟩;have:=h.drp i;show 0<=(if i=e.toNat then m.drops i+1 else m.drops i)/\(if i=e.toNat then m.drops i+1 else m.drops i)<=D+1;split<;>omega
def Aqn{n:Net}{m:MacM}{J D:Int}(h:MacOK n m J D)(dom:Int){l:List QueuedM}(hl:Jb l):MacOK n (setQ m dom l) J D:=by
 refine⟨h.up,h.tabs,by rw[setQ];simp[h.ques],h.tab,λx hx=>?_,h.now,h.inj,h.drp⟩;rcases aE hx with rfl|hx
 .exact hl
 .exact h.que x hx
def Af2{n:Net}{m:MacM}{J D:Int}(h:MacOK n m J D)(dom:Int){l:List EntryM}(hl:TabOK l):MacOK n (setT m dom l) J D:=by
 refine⟨h.up,by rw[setT];simp[h.tabs],h.ques,λx hx=>?_,h.que,h.now,h.inj,h.drp⟩;rcases aE hx with rfl|hx
 .exact hl
 .exact h.tab x hx
def Aw6{l:List QueuedM}(hl:Jb l){q:QueuedM}(hq:QueuedOK q):Jb (pushT l q).1:=by
 unfold pushT;split
 .exact hl
 .refine⟨by simp;omega,λx hx=>?_⟩;rcases yI.1 hx with hx|hx
  .exact hl.2 x hx
  .rw[zZ.1 hx];exact hq
def Av7{l:List QueuedM}(hl:Jb l)(at_:Int):QueuedOK (takeT l at_).1/\Jb (takeT l at_).2.1:=by
 unfold takeT;split
 .exact⟨Axy,hl⟩
 .rename_i h;refine⟨hl.2 _ (Om z_),?_,λx hx=>hl.2 x (uK hx)⟩;have:=List.length_eraseIdx_le l at_.toNat;have:=hl.1;show (l.eraseIdx at_.toNat).length<=64;omega
def bK{n:Net}{m:MacM}{J D:Int}(h:MacOK n m J D)(hD:0<=D)(dom:Int){q:QueuedM}(hq:QueuedOK q)(e:Int):MacOK n (comeM m dom q e) J (D+1):=by
 unfold comeM;split
 .exact V7 h hD e
 split
 .exact(Aqn h dom (Aw6 (Ie h dom) hq)).mono (xN _) z_
 .exact V7 h hD 3
def Zj{n:Net}{m:MacM}{J D:Int}(h:MacOK n m J D)(dom at_:Int):MacOK n (takeM m dom at_).1 J D/\QueuedOK (takeM m dom at_).2.1:=by
 unfold takeM;split
 .exact⟨h,Axy⟩
 .have:=Av7 (Ie h dom) at_;exact⟨Aqn h dom this.2,this.1⟩
def Ao2{n:Net}(hn:n.Fin){m:MacM}{J D:Int}(h:MacOK n m J D)(_hJ:0<=J)(hD:0<=D)(port:Int)(b:List UInt8):MacOK n (injectT n m port b) (J+1) (D+1):=by
 unfold injectT;split
 .exact h.mono z_ z_
 .rename_i hc;have hp:Af port n.ports.length=true:=by cases hx:Af port n.ports.length;exact zX (.inl hx) hc;rfl
  have j0:=B3 hp;have hs:=hn.ports;unfold An at hs;have h1:=h.inj;have hm:MacOK n ⟨m.up,m.tables,m.queues,m.now,m.injected+1,m.drops⟩ (J+1) D:=⟨h.up,h.tabs,h.ques,h.tab,h.que,h.now,(by show 0<=m.injected+1/\m.injected+1<=J+1;omega),h.drp⟩
  exact bK hm hD _ (J5 (dK _ _ _) _ z_ z_) _
structure OutOK(n:Net)(o:OutM):Prop where
 kind:1<=o.kind/\o.kind<=5
 bytes:o.bytes.length<=1518
 frame:o.kind=4->FrameOK o.frame/\DomIn n o.domain
 err:o.kind=5->Cd o.error
def Atd{n:Net}(hn:n.Fin)(port:Int):-1<=Bv n port/\Bv n port<2147483648:=by
 unfold Bv;split
 .rename_i h;obtain ⟨⟨h1,h2⟩,h3,hb⟩:=h;have hk:port.toNat<n.ports.length:=by omega
  rw[Ag hk]at h3|-;have hl:=(I2 hb hk h3).1;rw[Ag hl];simp only[Ac,zG]at hb;have xj:=allB_iff.1 hb.1.1.1.1.2 _ hl;simp only[Qb,zG]at xj;have ha:=B3 xj.1.1.1.1;have dx:=B3 xj.1.1.1.2;have hs:=hn.ports;unfold An at hs;split<;>omega
 .omega
def Aj5{n:Net}(hn:n.Fin)(port:Int)(b:List UInt8):0<=(linkT n port b).1/\(linkT n port b).1<1099511627776:=by
 have:=Atd hn port;unfold linkT;split<;>dsimp only<;>omega
def Abh{n:Net}(hn:n.Fin)(b:List UInt8):0<=(comeT n b).1/\(comeT n b).1<1099511627776:=by
 by_cases h:(comeT n b).2.2.2=0
 .have:=(Sx h).1;have hs:=hn.domains;unfold An at hs;unfold DomIn at this;omega
 .unfold comeT at h|-;split
  .decide
  rename_i h1;rw[zD h1]at h;split
  .exact⟨xN _,by dsimp only;omega⟩
  rename_i h1;rw[zD h1]at h;split
  .decide
  rename_i h1;rw[zD h1]at h;split
  .decide
  rename_i h1;rw[zD h1]at h;exact zX E h
def Azi{n:Net}(hn:n.Fin){m:MacM}{J D:Int}(h:MacOK n m J D)(hD:0<=D){o:OutM}(ho:OutOK n o)(origin:Int):MacOK n (goesM n m o origin).1 J (D+1):=by
 unfold goesM;split
 .exact h.mono (xN _) z_
 split
 .have:=Aj5 hn o.port o.bytes;exact bK h hD _ (J5 (Aj6 _ _ _) _ z_ z_) _
 split
 .exact bK h hD _ (J5 (Ale _ _) _ z_ (Abh hn o.bytes)) _
 split
 .rename_i h4;exact bK h hD o.domain (J5 (a:=-2) (b:=0) (ho.frame h4).1 origin y_ y_) 0
 .exact V7 h hD _
def Vz{n:Net}(hn:n.Fin)(origin:Int):∀(l:List OutM) {m:MacM} {J D:Int},MacOK n m J D->0<=D->(∀o∈l,OutOK n o)->MacOK n (goesL n m origin l).1 J (D+l.length)
 |[],m,J,D,h,_,_=>by
  rw[goesL];exact h.mono (xN _) qq
 |o::l,m,J,D,h,hD,ho=>by
  rw[goesL];have:=Vz hn origin l (Azi hn h hD (ho o qq) origin) z_ (λx hx=>ho x (by simp[hx]));exact this.mono (xN _) (by simp only[yL];omega)
def Ajz{n:Net}{o:OutM}{r:List UInt8×Int}(hk:1<=o.kind/\o.kind<=3)(hr:r.1.length<=1518)(he:Cd r.2):OutOK n (Sf o r):=by
 unfold Sf;split
 .exact⟨⟨by dsimp only;omega,by dsimp only;omega⟩,by simp,λh=>zX h (by dsimp only;omega),λ_=>he⟩
 .exact⟨⟨hk.1,by have:=hk.2;dsimp only;omega⟩,hr,λh=>by have:=hk.2;dsimp only at h;omega,λh=>by have:=hk.2;dsimp only at h;omega⟩
def Aua{t:List EntryM}(h:TabOK t){m:Nat}(hm:m<18446744073709551616){wh:Int}(hw:I64 wh)(now:Int):TabOK (learnT t m wh now):=by
 have hs:=h.short;unfold An at hs;have key:∀e:EntryM,e∈learnT t m wh now->e∈t\/e=⟨m,wh,now⟩:=λe he=>by
  unfold learnT at he;split at he
  .exact .inl he
  split at he
  .rcases aE he with h|h
   .exact .inr h
   .exact .inl h
  .rcases yI.1 he with h|h
   .split at h
    .exact .inl (uK h)
    .exact .inl h
   .exact .inr (zZ.1 h)
 refine⟨?_,λe he=>?_,λe he=>?_⟩
 .unfold learnT;split
  .exact h.short
  rename_i hb;have h8:t.length<=8:=by
   have:tableB t=true:=by cases hx:tableB t;exact zX (.inl hx) hb;rfl
   simp only[tableB,zG,zJ]at this;exact this.1
  split
  .unfold An;simp;omega
  .unfold An;split
   .have:=List.length_eraseIdx_le t (oldestU t t.length);simp only[zU,yL,xK];omega
   .simp only[zU,yL,xK];omega
 .rcases key e he with h1|rfl
  .exact h.mac e h1
  .exact hm
 .rcases key e he with h1|rfl
  .exact h.wh e h1
  .exact hw
def Ww{t:List EntryM}(h:TabOK t){q:QueuedM}(hq:QueuedOK q)(now:Int):TabOK (learnQ t q now):=by
 unfold learnQ;split
 .exact h
 .have hs:=hq.frame.src;refine Aua h z_ ?_ now;have h1:=hq.from_;have h2:=hq.peer;unfold I64;split<;>omega
def A2v{t:List EntryM}(h:TabOK t)(now:Int):TabOK (ageT t now):=by
 unfold ageT;split
 .exact h
 .have hs:=h.short;unfold An at hs;refine⟨?_,λe he=>h.mac e (List.mem_filter.1 he).1,λe he=>h.wh e (List.mem_filter.1 he).1⟩;unfold An;exact Nat.lt_of_le_of_lt (tR _ _) hs
def Ajs(n:Net)(dom:Int):(Bl n dom).length<=n.ports.length:=by
 rw[Bl];have:=I7 (Uk n (nth n.domains dom)) n.ports.length;exact this
attribute [local irreducible]G DR
set_option maxRecDepth 100000
def Ahk(t:List EntryM)(q:QueuedM)(now:Int)(ht:TabOK t)(hq:QueuedOK q):Sp 184 [.sl 3 A5 t,Bz q,Aa now] (.sl 3 A5 (learnQ t q now)):=cT F184 ntmps184 λF hF=>by
 have aa:=learnQ.eq_1 t q now;generalize learnQ t q now=res at *;have hl:=ht.short;have gd:=hl;unfold An at gd;have hs:=hq.frame.src;have h1:=hq.peer
 conv=>whnf
 constructor<;>intro h
 .rw[zE (kS h)]at aa;subst aa;refine oO ?_;exact Ai (Ad [(0,55)] E F105 (V9 res gd) E q_ E ⟨.inr E,q_⟩) E E (Aj 55 E gJ)
 rw[zD (kS h)]at aa;clear h;refine gH ?_ ?_<;>intro h
 .rw[zE (kS h)]at aa;subst aa;refine gF ?_;refine gE (Adk t q.frame.src (-1-q.peer) now hl ht.mac z_) F241 ?_;exact dN
 rw[zD (kS h)]at aa;subst aa;refine oO ?_;refine gE (Adk t q.frame.src q.from_ now hl ht.mac z_) F241 ?_;exact dN
def Atc(k p d:Int):OutM:=⟨k,p,d,[],noF,0⟩
def A1x(k p d:Int)(b:List UInt8)(e:Int):Sf (Atc k p d) (b,e)=if e≠0 then ⟨5,p,d,[],noF,e⟩ else ⟨k,p,d,b,noF,0⟩:=rfl
def Y9(l:List OutM)(k p d:Int)(b:List UInt8)(e:Int)(hl:l.length<100000000000):Sq 187 [H3 (Atc k p d),.sl 1 Al b,Aa e,.ptr 0 0] [(0,.box [.osl 1]),(1,.row 9 H3 l)] (.tup []) [(0,.box [.osl 2]),(1,.non),(2,.row 9 H3 (l++[Sf (Atc k p d) (b,e)]))]:=cT F187 ntmps187 λF hF=>by
 have aa:=A1x k p d b e;generalize Sf (Atc k p d) (b,e)=res at *
 conv=>whnf
 constructor<;>intro h
 .rw[zE (kS h)]at aa;refine oO ?_;refine Aqc 17 [H3 ⟨5,p,d,[],noF,e⟩] E (.cons (.agg vL) .nil) E ?_;refine Ai (Ah Γ.toTy 18 E E E E E (.row E) (.lit (e:=H3) (l:=[res]) E (by rw[aa];rfl)) y_ kO kO) E E (oO ?_);exact A2 E .nil [(2,18)] [(0,.box [.osl 2]),(1,.non),(2,.row 9 H3 (l++[res]))] (λ_ h=>h) E E kU
 .rw[zD (kS h)]at aa;refine oO ?_;refine Ai (Ah Γ.toTy 18 E E E E E (.row E) (.lit (e:=H3) (l:=[res]) E (by rw[aa];rfl)) y_ kO kO) E E (oO ?_);exact A2 E .nil [(2,18)] [(0,.box [.osl 2]),(1,.non),(2,.row 9 H3 (l++[res]))] (λ_ h=>h) E E kU
def A2c{t:List EntryM}(ht:TabOK t)(m:Nat):I64 (findE t m).1:=by
 unfold findE;split
 .unfold I64;dsimp only;omega
 .rename_i h;have ab:Iy t m<t.length:=Il _ _;have hk:(Iy t m).toNat<t.length:=by omega
  dsimp only;rw[zR hk];exact ht.wh _ (zI hk)
def Mp{n:Net}{fw:List Bool}{fr:Int}{l:List Int}{p:Int}(h:p∈H2 n fw fr l):p∈l:=(List.mem_filter.1 h).1
def Ahd{n:Net}(hb:Ac n=true)(fw:List Bool)(t:List EntryM)(dom fr:Int)(m:Nat):∀p∈(D2 n fw t dom fr m).1,0<=p/\p<n.ports.length:=by
 intro p hp;unfold D2 at hp;split at hp
 .cases hp
 split at hp
 .exact Ih p (Mp hp)
 split at hp
 .rename_i h1;obtain ⟨hs1,my⟩:=Zm hb dom m;have h2:=hs1.2 h1;have h3:=dV hb dom m h2;have h4:=zZ.1 (Mp hp);rw[h4,<-my h1];exact⟨h2,h3⟩
 split at hp
 .rename_i h1;rw[zZ.1 (Mp hp)];exact Ih _ (inB_mem.1 h1.2.2)
 split at hp
 .cases hp
 .exact Ih p (Mp hp)
def Age(n:Net)(fw:List Bool)(fr:Int)(l:List Int):(H2 n fw fr l).length<=l.length:=tR _ _
def Agh{n:Net}(hn:n.Fin)(dom fr:Int)(hd:Af dom n.domains.length=true):(peersOut n dom fr).length<2147483648:=by
 unfold peersOut;split
 .decide
 .have h:=Iq hd;rw[Ag h.2];exact hn.peers _ (zI h.2)
def Abf{n:Net}(hn:n.Fin)(fw:List Bool)(t:List EntryM)(dom fr:Int)(m:Nat):(D2 n fw t dom fr m).1.length<2147483648/\(D2 n fw t dom fr m).2.1.length<2147483648:=by
 have h1:=Ajs n dom;have h2:=hn.ports;unfold An at h2;have h3:=λl=>Age n fw fr l
 unfold D2;split
 .decide
 rename_i h;have hd:Af dom n.domains.length=true:=by
  cases hx:Af dom n.domains.length
  .exact zX (by rw[Ui,hx];rfl) h
  .rfl
 have h4:=Agh hn dom fr hd;split
 .have:=h3 (Bl n dom);exact⟨by dsimp only;omega,h4⟩
 split
 .have:=h3 [(nth n.statics (E8 n dom m)).port];simp only[yL,xK]at this;exact⟨by dsimp only;omega,by show (0:Nat)<2147483648;decide⟩
 split
 .have:=h3 [(findE t m).1];simp only[yL,xK]at this;exact⟨by dsimp only;omega,by show (0:Nat)<2147483648;decide⟩
 split
 .refine⟨by show (0:Nat)<2147483648;decide,?_⟩;dsimp only;split<;>simp
 .have:=h3 (Bl n dom);exact⟨by dsimp only;omega,h4⟩
def Aln(n:Net)(hn:n.Fin)(ax:n.Num)(fw:List Bool)(t:List EntryM)(dom:Int)(q:QueuedM)(now:Int)(ht:TabOK t)(hq:QueuedOK q):Sp 109 [Am n,.sl 1 Ab fw,.sl 3 A5 t,Aa dom,Bz q,Aa now] (.tup [.sl 3 A5 (bridgeT n fw t dom q now).1,.sl 9 H3 (bridgeT n fw t dom q now).2.1,Aa (bridgeT n fw t dom q now).2.2]):=cT F109 ntmps109 λF hF=>by
 have aa:=bridgeT.eq_1 n fw t dom q now;generalize bridgeT n fw t dom q now=res at *;have qf:=floodS n hn fw dom q.from_;have qr:=Wn t ht.short ht.mac
 conv=>whnf
 refine Ba 6 8 (Am n) E E E ?_;refine Ba 10 7 (Bz q) E E E (oO ?_);cases bz:Ui n fw dom q.from_
 .rw[zE (.inl bz)]at aa;subst aa;rw[floodT,zE bz]at qf;refine c0 qf F183 ?_
  (refine oT ?_;refine bT ?_)
  exact Ak 13 [.sl 9 H3 []] E (.cons .nil .nil) (Ao 12 3 A5 E dN)
 rw[floodT,zD (by rw[bz];decide)]at qf;refine c0 qf F183 (oF ?_);refine c0 qr F104 ?_;cases jz:tableB t
 .rw[zE (.inr jz)]at aa;subst aa;refine oT ?_;exact Ak 13 [.sl 9 H3 []] E (.cons .nil .nil) (Ao 12 3 A5 E dN)
 rw[zD (by simp[bz,jz])]at aa;have ql:=Ahk t q now ht hq;have hu:=Ww ht hq now;generalize learnQ t q now=u at *;have qro:=Ahu n hn ax dom q.frame.dst;generalize routerT n dom q.frame.dst=ro at *;obtain ⟨irb,ok⟩:=ro;dsimp only at aa qro;have hbn:Ac n=true:=by
  simp only[Ui,zG]at bz;exact bz.1.2
 refine oF ?_;refine gE ql F184 ?_;refine c0 qro F185 ?_;cases ok;rotate_left
 .rw[zE rfl]at aa;have qh:=Asx n hn ax irb q.frame hq.frame;generalize hopT n irb q.frame=hp at *;obtain ⟨to,g,e⟩:=hp;dsimp only at aa qh;refine oT ?_;refine gE qh F186 ?_;constructor<;>intro h
  .rw[zE (kS h)]at aa;subst aa;refine oO ?_;exact Ak 13 [.sl 9 H3 []] E (.cons .nil .nil) dN
  .rw[zD (kS h)]at aa;subst aa;refine oO ?_;refine kW ?_;refine Aqc 84 [H3 ⟨4,0,to,[],g,0⟩] E (.cons (.agg vL) .nil) E ?_;exact O0 84 H3 [⟨4,0,to,[],g,0⟩] E E (Aj 84 E dN)
 rw[zD y_]at aa;have hs:=hq.frame.src;have jc:=hq.frame.dst;have je:=A2c hu q.frame.dst;have qd:=A2l n hn fw u dom q.from_ q.frame.dst hu.short (by unfold I64 at *;omega) z_;have p7:=Ahd hbn fw u dom q.from_ q.frame.dst;have nk:=Abf hn fw u dom q.from_ q.frame.dst;generalize D2 n fw u dom q.from_ q.frame.dst=dc at *;obtain ⟨ports,peers,e0⟩:=dc;dsimp only at aa qd p7 nk;obtain ⟨xa,pj⟩:=nk;refine oF ?_;refine gE qd F188 ?_;refine O1 13 0 1000 9 H3 E E E E ?_;refine A8 ports.length (λj=>[(3,Aa dom),(6,.ref 8 (Am n) 0),(10,.ref 7 (Bz q) 0),(12,.sl 3 A5 u),(13,.ptr 13 0),(23,.clo (.func 187) [] [.ptr 13 0]),(25,.sl 1 Aa peers),(100,.sl 1 Aa ports),(101,Aa ports.length),(102,Aa j)])
  (λj=>[(13,.box [.osl 1000]),(1000,.row 9 H3 ((ports.take j).map (lA n dom q.frame)))]) [(13,13),(1000,1000)] kU ?_
 intro j hj;refine gH ?_ ?_<;>intro h
 .have ab:j<ports.length:=qA h;have aj:(j:Int).toNat<ports.length:=kS ab;obtain ⟨p,hp⟩:=kE (ports[j]);have e1:ports[(j:Int).toNat]'aj=p:=hp;have hs:(ports.take (j+1)).map (lA n dom q.frame)=(ports.take j).map (lA n dom q.frame)++[lA n dom q.frame p]:=by
   rw[yA ab,xY,hp];rfl
  have lp:((ports.take j).map (lA n dom q.frame)).length=j:=by rw[yZ,zW];omega
  have j0:=p7 p (by rw[<-hp];exact zI ab);have yu:p.toNat<n.ports.length:=by omega
  have ql:=Ayy n hn p dom q.frame hq.frame;have hop:lA n dom q.frame p=Sf (Atc (if (nth n.ports p).link<0 then 1 else 2) p 0) ((leaveT n p dom q.frame).1,(leaveT n p dom q.frame).2):=rfl;rw[hop,Ag yu]at hs;clear hop;obtain ⟨acc,gy⟩:=kE ((ports.take j).map (lA n dom q.frame));rw[gy]at hs lp|-;obtain ⟨x,hx⟩:=kE (n.ports[p.toNat]'yu);rw[hx]at hs;clear h;refine oO ?_;refine⟨E,by omega,aj,?_⟩;rw[e1]
  conv=>whnf
  refine⟨E,j0.1,yu,?_⟩;rw[hx]
  conv=>whnf
  constructor<;>intro h
  .rw[zD (qA h)]at hs;refine oO ?_;refine gE ql F189 ?_;refine Ai (Kg [(0,13),(1,1000),(2,1001)] [] (Aw E E F187) (Y9 acc 2 p 0 (leaveT n p dom q.frame).1 (leaveT n p dom q.frame).2 z_) (.cons (.agg vL) vL) ⟨E,E,q_⟩ E kB E) E E (gF ?_);exact Ax [(13,13),(1000,1001)] ab ⟨kA,⟨.inl E,E,.inl (zH (Ob.row 9 H3) hs),E,q_⟩,E,E⟩
  .rw[zE (qB h)]at hs;refine oO ?_;refine gE ql F189 ?_;refine Ai (Kg [(0,13),(1,1000),(2,1001)] [] (Aw E E F187) (Y9 acc 1 p 0 (leaveT n p dom q.frame).1 (leaveT n p dom q.frame).2 z_) (.cons (.agg vL) vL) ⟨E,E,q_⟩ E kB E) E E (gF ?_);exact Ax [(13,13),(1000,1001)] ab ⟨kA,⟨.inl E,E,.inl (zH (Ob.row 9 H3) hs),E,q_⟩,E,E⟩
 have ej:j=ports.length:=qB h;subst ej;clear h;rw[yM];obtain ⟨oc,uk⟩:=kE (ports.map (lA n dom q.frame));have hal0:oc.length=ports.length:=by rw[<-uk,yZ]
 rw[uk]at aa|-;refine oO ?_;refine A8 peers.length (λj=>[(3,Aa dom),(6,.ref 8 (Am n) 0),(10,.ref 7 (Bz q) 0),(12,.sl 3 A5 u),(13,.ptr 13 0),(23,.clo (.func 187) [] [.ptr 13 0]),(130,.sl 1 Aa peers),(131,Aa peers.length),(132,Aa j)])
  (λj=>[(13,.box [.osl 1000]),(1000,.row 9 H3 (oc++(peers.take j).map (oQ n dom q.frame)))]) [(13,13),(1000,1000)] ⟨⟨rfl,rfl,rfl,rfl,rfl,rfl,rfl,rfl,rfl,rfl,rfl,rfl,rfl,rfl,rfl,rfl,rfl,rfl,trivial⟩,⟨.inl rfl,rfl,.inl (zH (Ob.row 9 H3) qq),rfl,trivial⟩,rfl,rfl⟩ ?_
 intro j hj;refine gH ?_ ?_<;>intro h
 .have ab:j<peers.length:=qA h;have aj:(j:Int).toNat<peers.length:=kS ab;obtain ⟨p,hp⟩:=kE (peers[j]);have e1:peers[(j:Int).toNat]'aj=p:=hp;have hs:oc++(peers.take (j+1)).map (oQ n dom q.frame)=(oc++(peers.take j).map (oQ n dom q.frame))++[oQ n dom q.frame p]:=by
   rw[yA ab,xY,hp,xF];rfl
  have lp:(oc++(peers.take j).map (oQ n dom q.frame)).length<=ports.length+j:=by rw[zU,yZ,zW];omega
  have ql:=Aor n hn ax dom p q.frame hq.frame;have hop:oQ n dom q.frame p=Sf (Atc 3 0 p) ((meshT n dom p q.frame).1,(meshT n dom p q.frame).2):=rfl;rw[hop]at hs;clear hop;obtain ⟨acc,gy⟩:=kE (oc++(peers.take j).map (oQ n dom q.frame));rw[gy]at hs lp|-;clear h;refine oO ?_;refine⟨E,by omega,aj,?_⟩;rw[e1]
  conv=>whnf
  refine gE ql F190 ?_;refine Ai (Kg [(0,13),(1,1000),(2,1001)] [] (Aw E E F187) (Y9 acc 3 0 p (meshT n dom p q.frame).1 (meshT n dom p q.frame).2 z_) (.cons (.agg vL) vL) ⟨E,E,q_⟩ E kB E) E E (gF ?_);exact Ax [(13,13),(1000,1001)] ab ⟨kA,⟨.inl E,E,.inl (zH (Ob.row 9 H3) hs),E,q_⟩,E,E⟩
 have ej:j=peers.length:=qB h;subst ej;clear h;rw[yM];subst aa;refine oO ?_;refine kW ?_;exact Aj 1000 E dN
def Abt(m:Nat)(h:m<4294967296):bits .and .u64 (m:Int) 4294967295=(m:Int):=by
 have:=bits_and_u64_nat m 4294967295 z_ y_;rw[show ((4294967295:Nat):Int)=4294967295 from rfl]at this;rw[this];have h2:=uI m 32;rw[show 2^32-1=4294967295 from rfl,show 2^32=4294967296 from rfl]at h2;rw[h2,xH h]
def Am8(m:Nat)(h:m<4294967296):(m:Int).fdiv (2^(min (Int.toNat 32) IntKind.u64.bits))=0:=by
 show (m:Int).fdiv 4294967296=0;rw[wP _ y_];omega
def mul64S(m:Nat)(h:m<4294967296):Sp 154 [Bi 1,Bi m] (.tup [Bi 0,Bi m]):=cT F154 ntmps154 λF hF=>by
 have e0:bits .and .u64 1 4294967295=1:=Abt 1 y_;have e1:(1:Int).fdiv (2^(min (Int.toNat 32) IntKind.u64.bits))=0:=Am8 1 y_;have e2:=Abt m h;have e3:=Am8 m h;have w1:IntKind.u64.wrap (1*(m:Int))=m:=by rw[IntKind.wrap_u64];omega
 have w0:IntKind.u64.wrap (0*(m:Int))=0:=by rw[IntKind.wrap_u64];omega
 have z0:IntKind.u64.wrap (0+0)=0:=rfl;have a0:bits .and .u64 0 4294967295=0:=Abt 0 y_;have s0:(0:Int).fdiv (2^(min (Int.toNat 32) IntKind.u64.bits))=0:=Am8 0 y_
 conv=>whnf
 rw[e0];refine⟨by decide,?_⟩;rw[e1]
 conv=>whnf
 rw[e2];refine⟨by decide,?_⟩;rw[e3]
 conv=>whnf
 rw[w1,w0];refine⟨by decide,?_⟩;rw[e3]
 conv=>whnf
 rw[z0,a0];refine⟨by decide,?_⟩;rw[s0]
 conv=>whnf
 refine⟨by decide,?_⟩
 conv=>whnf
 refine Aq E (.cons .tmp Ap) ?_ E;refine zH (λz:Int=>SV.tup [Bi 0,Bi z]) ?_;exact w1.symm
def mulS(m:Nat)(h:m<4294967296):Sp 91 [Bi 1,Bi m] (.tup [Bi 0,Bi m]):=cT F91 ntmps91 λF hF=>by
 ((conv=>whnf);refine aF ?_;refine rg ?_;conv=>whnf)
 refine gE (mul64S m h) F154 ?_;exact dN
def M2(m k:Nat):List Bool:=List.replicate k true++List.replicate (m-k) false
def U9(m k:Nat)(h:k<=m):(M2 m k).length=m:=by simp[M2];omega
def Awy(m:Nat):M2 m m=List.replicate m true:=by simp[M2]
def Asz(m k c:Nat)(_h:k<=m)(hc:c=min k (m-k)):(M2 m k).take k++(M2 m k).take c++(M2 m k).drop (k+c)=M2 m (k+c):=by
 have e1:(M2 m k).take k=List.replicate k true:=by
  rw[M2,wX qq];simp
 have e2:(M2 m k).take c=List.replicate c true:=by
  rw[M2,wX kO];simp;omega
 have e3:(M2 m k).drop (k+c)=List.replicate (m-(k+c)) false:=by
  rw[M2,List.drop_append,vK qq,wC];simp;omega
 rw[e1,e2,e3,M2,List.replicate_append_replicate]
def Aqq(m:Nat)(h:m<2147483648):Sp 100 [.sl 1 Ab [true],Aa m] (.sl 1 Ab (List.replicate m true)):=cT F100 ntmps100 λF hF=>by
 have hw:IntKind.u64.wrap (m:Int)=m:=by rw[IntKind.wrap_u64];omega
 have xy:IntKind.i64.wrap (m:Int)=m:=by rw[IntKind.wrap_i64];omega
 have q:=mulS m z_;rw[<-hw]at q
 ((conv=>whnf);refine aF ?_;refine rg ?_;conv=>whnf)
 refine c0 q F91 ?_;rw[hw];refine oF ?_;refine⟨λh1=>zX (zO h1) z_,λ_=>?_⟩;refine oO ?_;rw[xy];refine Ai (B5 Γ.toTy (d:=30) (n:=m) Ab false E E E E E E E E z_ z_ E E E) E E (oO ?_);refine Ai (Wy Γ.toTy (l:=List.replicate m false) (m:=[true]) E E E E E .sl) E E ?_;have e0:[true].take (List.replicate m false).length++(List.replicate m false).drop [true].length=M2 m (min 1 m):=by
  cases m with
  |zero=>rfl
  |succ m=>simp[M2,Nat.min_eq_left,tC]
 have e1:min [true].length (List.replicate m false).length=min 1 m:=by simp
 rw[e0,e1];refine oO ?_;refine Ci (λk:Nat=>min 1 m<=k/\k<=m) (λk=>[(7,.osl 30),(8,Aa k)]) (λk=>[(30,.row 1 Ab (M2 m k))]) (λk=>m-k) (min 1 m) [] z_ kU ?_;intro k hk;have hl:=U9 m k hk.2;refine oO ?_;constructor<;>intro h1
 .have ab:k<m:=by have:=zO h1;rw[hl]at this;omega
  clear h1;have dh:1<=k:=by omega
  have ag:M2 m k≠[]:=λe=>by rw[e]at hl;simp at hl;omega
  refine Al3 30 [7] E ag (λi hi=>by simp at hi;subst hi;rfl) ?_;intro b cap hc;rw[hl]at hc|-;have gq:¬cap=k:=by omega
  have ns:=Asz m k (min k (m-k)) hk.2 rfl;refine oO ?_;refine Cc (Dm (lo:=k) (hi:=m) Γ.toTy E E E E (.inr ⟨_,_,E,E⟩) (.inl ⟨E,E⟩) z_ z_) j_ E (oD ?_);refine Cc (Dm (lo:=0) (hi:=k) Γ.toTy E E E E (.inl ⟨E,E⟩) (.inr ⟨_,_,E,E⟩) z_ z_) j_ E (oD ?_);refine Cc (X6 Γ.toTy 30 (lo:=k) (k:=k) E E E E (by rw[zD gq,Nat.mul_one]) E (by rw[zD z_,Nat.zero_mul]) E hl z_ z_) j_ E (oD ?_);refine iW ?_;refine kW ?_;refine bX 30 31 [7] m E E (by rw[ns,U9 m _ z_];exact yG _) (λi hi=>by simp at hi;subst hi;rfl) ?_;have fm:((M2 m k).take k++(M2 m k).take (min k (m-k))++(M2 m k).drop (k+min k (m-k))).take m=M2 m (k+min k (m-k)):=by
   rw[ns,xD (by rw[U9 m _ z_];exact yG _)]
  exact Ay (k+min k (m-k)) [(30,31)] z_ z_ ⟨kA,⟨.inl (zH (Ob.row 1 Ab) fm.symm),E,q_⟩,E,E⟩
 .have hkm:k=m:=by have:=zQ h1;rw[hl]at this;omega
  subst hkm;rw[Awy];refine oO ?_;exact Aj 30 E dN
def Hk(t:List EntryM):SV:=.sl 3 A5 t
def Me(l:List QueuedM):SV:=.sl 7 Bz l
def Qn(n:Net)(k:Nat)(now inj:Int)(d:Nat->Int):List SV :=
 [.sl 5 A4 n.devices,.sl 7 Bd n.ports,.sl 3 Co n.links,.sl 6 At n.domains,.sl 4 Bb n.statics,.sl 4 Bm n.floods,.sl 5 Cu n.vrfs,.sl 5 Cr n.irbs,.ptr k 0,.osl 2,.osl 3,.val (.int .i64 now),.val (.int .i64 inj),
 .val (.int .i64 (d 0)),.val (.int .i64 (d 1)),.val (.int .i64 (d 2)),.val (.int .i64 (d 3)),.val (.int .i64 (d 4)),.val (.int .i64 (d 5)),.val (.int .i64 (d 6)),.val (.int .i64 (d 7)),.val (.int .i64 (d 8)),.val (.int .i64 (d 9)),.val (.int .i64 (d 10)),.val (.int .i64 (d 11)),.val (.int .i64 (d 12)),.val (.int .i64 (d 13)),.val (.int .i64 (d 14)),.val (.int .i64 (d 15)),.val (.int .i64 (d 16)),.val (.int .i64 (d 17)),.val (.int .i64 (d 18)),.val (.int .i64 (d 19)),.val (.int .i64 (d 20)),.val (.int .i64 (d 21)),.val (.int .i64 (d 22)),.val (.int .i64 (d 23)),.val (.int .i64 (d 24)),.val (.int .i64 (d 25)),.val (.int .i64 (d 26)),.val (.int .i64 (d 27)),.val (.int .i64 (d 28)),.val (.int .i64 (d 29)),.val (.int .i64 (d 30)),.val (.int .i64 (d 31)),.val (.int .i64 (d 32)),.val (.int .i64 (d 33)),.val (.int .i64 (d 34)),.val (.int .i64 (d 35)),.val (.int .i64 (d 36)),.val (.int .i64 (d 37)),.val (.int .i64 (d 38)),.val (.int .i64 (d 39)),.val (.int .i64 (d 40)),.val (.int .i64 (d 41)),.val (.int .i64 (d 42)),.val (.int .i64 (d 43)),.val (.int .i64 (d 44)),.val (.int .i64 (d 45)),.val (.int .i64 (d 46)),.val (.int .i64 (d 47)),.val (.int .i64 (d 48)),.val (.int .i64 (d 49)),.val (.int .i64 (d 50)),.val (.int .i64 (d 51)),.val (.int .i64 (d 52)),.val (.int .i64 (d 53)),.val (.int .i64 (d 54)),.val (.int .i64 (d 55)),.val (.int .i64 (d 56)),.val (.int .i64 (d 57)),.val (.int .i64 (d 58)),.val (.int .i64 (d 59)),.val (.int .i64 (d 60)),.val (.int .i64 (d 61)),.val (.int .i64 (d 62)),.val (.int .i64 (d 63))]
def onceL(up:List Bool)(done:Int)(fw:List Bool):List SV:=[.sl 1 Ab up,.val (.int .u32 done),.val (.int .i32 0),.val (.int .u32 0),.sl 1 Ab fw]
def Jl(n:Net)(up:List Bool)(d:Bool):List SV:=onceL up (if d then 1 else 0) (if d then Qx n up else [])
def Dq(n:Net)(m:MacM)(d:Bool):Obs:=[(0,.box (Qn n 1 m.now m.injected m.drops)),(1,.box (Jl n m.up d)),(2,.row 1 Hk m.tables),(3,.row 1 Me m.queues)]
def getI_map(f:Nat->SV):∀(k a n:Nat),k<n->H6 ((List.range' a n).map f) k=some (f (a+k))
 |0,a,n+1,_=>rfl
 |k+1,a,n+1,h=>by
  show H6 ((List.range' (a+1) n).map f) k=_;rw[getI_map f k (a+1) n z_];congr 2;omega
def Aqm(f:Nat->SV)(x:SV):∀(k a n:Nat),((List.range' a n).map f).set k x=(List.range' a n).map (λi=>if i=a+k then x else f i)
 |_,_,0=>rfl
 |0,a,n+1=>by
  show x::(List.range' (a+1) n).map f=(if a=a+0 then x else f a)::(List.range' (a+1) n).map _;rw[zE z_];congr 1;apply tB;intro i hi;have:=(List.mem_range'_1.1 hi).1;rw[zD z_]
 |k+1,a,n+1=>by
  show f a::((List.range' (a+1) n).map f).set k x=(if a=a+(k+1) then x else f a)::(List.range' (a+1) n).map _;rw[zD z_,Aqm f x k (a+1) n];congr 1;apply tB;intro i _;rw[show a+1+k=a+(k+1) by omega]
def Ym(n:Net)(k:Nat)(now inj:Int)(d:Nat->Int):Qn n k now inj d =
  .sl 5 A4 n.devices::.sl 7 Bd n.ports::.sl 3 Co n.links::.sl 6 At n.domains::.sl 4 Bb n.statics::.sl 4 Bm n.floods::.sl 5 Cu n.vrfs::.sl 5 Cr n.irbs::.ptr k 0::.osl 2::.osl 3::.val (.int .i64 now)::.val (.int .i64 inj) ::
   (List.range' 0 64).map (λi=>.val (.int .i64 (d i))):=rfl
def Awr(n:Net)(k:Nat)(now inj:Int)(d:Nat->Int)(e:Nat)(he:e<64):H6 (Qn n k now inj d) (13+e)=some (.val (.int .i64 (d e))):=by
 rw[Ym,tI];show H6 ((List.range' 0 64).map (λi=>SV.val (.int .i64 (d i)))) e=_;rw[getI_map _ e 0 64 he,xW]
def Awq(n:Net)(k:Nat)(now inj:Int)(d:Nat->Int)(e:Nat)(v:Int):(Qn n k now inj d).set (13+e) (.val (.int .i64 v))=Qn n k now inj (λi=>if i=e then v else d i):=by
 rw[Ym,Ym,tI];have h:=Aqm (λi=>SV.val (.int .i64 (d i))) (.val (.int .i64 v)) e 0 64;have h2:(λi=>if i=0+e then SV.val (.int .i64 v) else SV.val (.int .i64 (d i)))=(λi=>SV.val (.int .i64 (if i=e then v else d i))):=by
  funext i;rw[xW];split<;>rfl
 rw[h2]at h;rw[<-h];rfl
def add64(a:Addr)(x y:Int)(w:World)(hc:w.cell? a=some (.int .i64 x))(hz:w.frozen? a=false):(callFunc 251 #[.pointer (some a),.int .i64 y]).run prog w=.ok (.value (.int .i64 (IntKind.i64.wrap (x+y)))) (w.setCell a (.int .i64 (IntKind.i64.wrap (x+y)))) :=
 run_call_add func251 j_ j_ j_ .i64 j_ hc hz rfl
def Ass(n:Net)(k:Nat)(m:MacM)(e:Int):Qn n k m.now m.injected (C1 m e).drops=(Qn n k m.now m.injected m.drops).set (13+e.toNat) (.val (.int .i64 (m.drops e.toNat+1))):=by
 rw[Awq];congr 1;funext i;show (if i=e.toNat then m.drops i+1 else m.drops i)=_;split
 .rename_i h;rw[h]
 .rfl
def Apn{x:Int}(h:0<=x/\x<=1000000000000):IntKind.i64.wrap (x+1)=x+1:=by
 rw[IntKind.wrap_i64];omega
def Ap4(n:Net)(m:MacM)(d:Bool)(e:Int)(h0:0<=e)(h1:e<64)(hb:IntKind.i64.wrap (m.drops e.toNat+1)=m.drops e.toNat+1):Sq 192 [.ptr 0 (13+e.toNat),Aa 1] (Dq n m d) (Aa (m.drops e.toNat+1)) (Dq n (C1 m e) d):=cT F192 ntmps192 λF hF=>by
 have hg:=Awr n 1 m.now m.injected m.drops e.toNat z_;have hs:=Ass n 1 m e;have ab:=lP hg;refine fW ?_;refine Ai (Agw add64 E E E E hg hb) E E (fU ?_);exact done E Ap [] (Dq n (C1 m e) d) (λ_ h=>h) E E ⟨q_,⟨.inl (zH Ob.box hs),E,.inl E,E,.inl E,E,.inl E,E,q_⟩,E,E⟩
def Ak7(n:Net)(m:MacM)(d:Bool)(e:Int)(h0:0<=e)(h1:e<64)(hb:0<=m.drops e.toNat/\m.drops e.toNat<=1000000000000):Sq 111 [.ptr 0 0,Aa e] (Dq n m d) (.tup []) (Dq n (C1 m e) d):=cT F111 ntmps111 λF hF=>by
 refine fW ?_;refine⟨h0,by omega,?_⟩;refine fU ?_;refine Ai (Ad [] E F192 (Ap4 n m d e h0 h1 (Apn hb)) (zH (λz=>[SV.ptr 0 z,Aa 1]) (show 13+e.toNat=0+13+e.toNat*1 by omega)) kA E kB) E E (fU ?_);exact A2 E .nil [] (Dq n (C1 m e) d) (λ_ h=>h) E E kU
def Af0(n:Net)(m:MacM)(d:Bool)(dom:Int):Sq 103 [.ptr 0 0,Aa dom] (Dq n m d) (Ab (Af dom m.queues.length)) (Dq n m d):=cT F103 ntmps103 λF hF=>by
 have aa:Af dom m.queues.length=(decide (0<=dom)&&decide (dom<m.queues.length)):=rfl;generalize Af dom m.queues.length=res at *;refine fW ?_;constructor<;>intro h
 .refine fU ?_
  (repeat (first|(refine⟨λh=>False.elim (by first|(exact zX h y_)|(simp at h;done)|(simp at h;omega)),λ_=>?_⟩;(refine fU ?_))|(refine⟨λ_=>?_,λh=>False.elim (by first|(exact zX h y_)|(simp at h;done)|(simp at h;omega))⟩;(refine fU ?_))))
  refine done E Ap [] (Dq n m d) (λ_ h=>h) ?_ E kU;rw[aa,h];rfl
 .refine fU ?_
  (repeat (first|(refine⟨λh=>False.elim (by first|(exact zX h y_)|(simp at h;done)|(simp at h;omega)),λ_=>?_⟩;(refine fU ?_))|(refine⟨λ_=>?_,λh=>False.elim (by first|(exact zX h y_)|(simp at h;done)|(simp at h;omega))⟩;(refine fU ?_))))
  refine done E Ap [] (Dq n m d) (λ_ h=>h) ?_ E kU;rw[aa,h];rfl
def Tj{l:List QueuedM}(h:Jb l):l.length<1000000/\Wk l:=⟨by have:=h.1;omega,λq hq=>by have:=(h.2 q hq).frame.body;omega⟩
def aY{k:Type}{l:List k}{i:Nat}(h:i<l.length)(d:k):(l[i]?).getD d=l[i]:=by
 rw[zR h];rfl
def placeB_iff{d:Int}{k:Nat}:Af d k=true↔0<=d/\d.toNat<k:=by
 simp only[Af,zG,zJ];omega
def Ahh:=iJ A5 3 F105 ntmps105
def loadT(m:MacM)(dom:Int)(t:List EntryM):MacM×Int:=if Af dom m.queues.length=true/\tableB t=true then (setT m dom t,0) else (m,2)
def Awo(n:Net)(m:MacM)(d:Bool)(dom:Int)(t:List EntryM)(hq:m.tables.length=m.queues.length)(hl:An t)(mg:∀e∈t,e.mac<18446744073709551616):Sq 50 [.ptr 0 0,Aa dom,.sl 3 A5 t] (Dq n m d) (Aa (loadT m dom t).2) (Dq n (loadT m dom t).1 d):=cT F50 ntmps50 λF hF=>by
 have gd:=hl;unfold An at gd;have aa:=loadT.eq_1 m dom t;generalize loadT m dom t=res at *;have h1:=Af0 n m d dom;have bd:=placeB_iff (d:=dom) (k:=m.queues.length);generalize Af dom m.queues.length=b at *
 ((conv=>whnf);refine aF ?_;refine rg ?_;conv=>whnf)
 refine Ai (Ad [] E F103 h1 E kA E kB) E E (oO ?_);cases b
 .rw[zD qq]at aa;subst aa
  (refine⟨λ_=>?_,λh=>False.elim (zX h y_)⟩;refine rg ?_;(conv=>whnf);refine aT ?_;refine rg ?_;conv=>whnf)
  exact done E Ap [] (Dq n m d) (λ_ h=>h) E E kU
 have hd:=bd.1 rfl
 (refine⟨λh=>False.elim (zX h y_),λ_=>?_⟩;refine rg ?_;conv=>whnf)
 refine c0 (Wn t hl mg) F104 ?_;generalize tableB t=c at *;refine oO ?_;cases c
 .rw[zD qq]at aa;subst aa
  (refine⟨λ_=>?_,λh=>False.elim (zX h y_)⟩;refine rg ?_;conv=>whnf)
  exact done E Ap [] (Dq n m d) (λ_ h=>h) E E kU
 rw[zE ⟨rfl,rfl⟩]at aa;subst aa
 (refine⟨λh=>False.elim (zX h y_),λ_=>?_⟩;refine rg ?_;conv=>whnf)
 refine cD (Ahh t gd) F105 (oD ?_);refine⟨hd.1,by omega,?_⟩
 conv=>whnf
 refine⟨E,by omega,t,E,E,?_⟩
 conv=>whnf
 refine kW ?_;exact done E Ap [] (Dq n (setT m dom t) d) (λ_ h=>h) E E kU
def Ads(n:Net)(m:MacM)(d:Bool)(dom:Int)(hl:Jb (queueL m dom)):Sq 52 [.ptr 0 0,Aa dom] (Dq n m d) (.sl 7 Bz (if Af dom m.queues.length then queueL m dom else [])) (Dq n m d):=cT F52 ntmps52 λF hF=>by
 have h1:=Af0 n m d dom;have bd:=placeB_iff (d:=dom) (k:=m.queues.length);generalize Af dom m.queues.length=b at *;have hb:=Tj hl;have h2:=oJ _ (-1) hb.1 hb.2;have h3:takeT (queueL m dom) (-1)=(noQ,queueL m dom,false):=by rw[takeT];exact zE (.inl y_)
 rw[h3]at h2;clear h3 hb hl;have aa:=queueL.eq_1 m dom;generalize queueL m dom=res at *
 conv=>whnf
 refine Ai (Ad [] E F103 h1 E kA E kB) E E (oO ?_);cases b
 ·(refine⟨λ_=>?_,λh=>False.elim (zX h y_)⟩;refine rg ?_;conv=>whnf)
  refine Ao 4 7 Bz E ?_;exact done E Ap [] (Dq n m d) (λ_ h=>h) E E kU
 have hd:=bd.1 rfl;have ab:dom.toNat<m.queues.length:=hd.2;rw[aY ab]at aa;subst aa
 (refine⟨λh=>False.elim (zX h y_),λ_=>?_⟩;refine rg ?_;conv=>whnf)
 refine⟨hd.1,by omega,?_⟩
 conv=>whnf
 refine⟨E,ab,?_⟩
 conv=>whnf
 refine gE h2 F106 ?_;exact done E Ap [] (Dq n m d) (λ_ h=>h) E E kU
def W9(m:MacM):Prop:=∀i,0<=m.drops i/\m.drops i<=1000000000000
def Zq(n:Net)(m:MacM)(d:Bool)(dom:Int)(q:QueuedM)(e:Int)(he:0<=e/\e<64)(hd:e=0->0<=dom/\dom.toNat<m.queues.length)(hb:W9 m)(hl:Jb (queueL m dom))(hq:QueuedOK q):Sq 108 [.ptr 0 0,Aa dom,Bz q,Aa e] (Dq n m d) (.tup []) (Dq n (comeM m dom q e) d):=cT F108 ntmps108 λF hF=>by
 have nz:=Tj hl;have hp:=Ai1 _ q nz.1 nz.2 (by have:=hq.frame.body;omega);have h1:=Ak7 n m d e he.1 he.2 (hb _);have h3:=Ak7 n m d 3 y_ y_ (hb _);have aa:=comeM.eq_1 m dom q e;generalize comeM m dom q e=res at *
 conv=>whnf
 constructor<;>intro h
 .rw[zE (kS h)]at aa;subst aa;refine oO ?_;refine Ai (Ad [] E F111 h1 E kA E kB) E E (oO ?_);exact done E .nil [] (Dq n (C1 m e) d) (λ_ h=>h) E E kU
 have h0:e=0:=kS h;have hd:=hd h0;rw[zD (by rw[h0];decide)]at aa;clear h nz h1 hl he;have zd:=queueL.eq_1 m dom;rw[aY hd.2]at zd;generalize queueL m dom=l at *;generalize pushT l q=r at *;obtain ⟨l2,ok⟩:=r;subst zd;refine oO ?_;refine⟨hd.1,hd.2,?_⟩
 conv=>whnf
 refine⟨E,hd.2,?_⟩
 conv=>whnf
 refine cD hp F182 (gM ?_);cases ok
 .rw[zD qq]at aa;subst aa
  (refine⟨λ_=>?_,λh=>False.elim (by simp at h)⟩;refine rg ?_;conv=>whnf)
  refine Ai (Ad [] E F111 h3 E kA E kB) E E (oO ?_);exact done E .nil [] (Dq n (C1 m 3) d) (λ_ h=>h) E E kU
 .rw[zE rfl]at aa;subst aa
  (refine⟨λh=>False.elim (by simp at h),λ_=>?_⟩;refine rg ?_;conv=>whnf)
  refine⟨hd.1,hd.2,?_⟩
  conv=>whnf
  refine⟨E,hd.2,l2,E,E,?_⟩
  conv=>whnf
  exact A2 E .nil [] (Dq n (setQ m dom l2) d) (λ_ h=>h) E E kU
def Aii(n:Net)(m:MacM)(d:Bool)(dom at_:Int)(hl:Jb (queueL m dom)):Sq 58 [.ptr 0 0,Aa dom,Aa at_] (Dq n m d) (.tup [Bz (takeM m dom at_).2.1,Ab (takeM m dom at_).2.2]) (Dq n (takeM m dom at_).1 d):=cT F58 ntmps58 λF hF=>by
 have nz:=Tj hl;have hp:=oJ _ at_ nz.1 nz.2;have h1:=Af0 n m d dom;have bd:=placeB_iff (d:=dom) (k:=m.queues.length);have aa:=takeM.eq_1 m dom at_;generalize takeM m dom at_=res at *;generalize Af dom m.queues.length=b at *;have zd:=queueL.eq_1 m dom;clear hl nz;generalize queueL m dom=l at *;generalize takeT l at_=r at *;obtain ⟨q,l2,ok⟩:=r
 conv=>whnf
 refine Ai (Ad [] E F103 h1 E kA E kB) E E (oO ?_);cases b
 .rw[zE rfl]at aa;subst aa
  (refine⟨λ_=>?_,λh=>False.elim (zX h y_)⟩;refine rg ?_;conv=>whnf)
  refine Ak 6 [Aa 0,Aa 0,Aa 0,Bi 0,Bi 0,Aa 0,.sl 1 Al []] E vL ?_;exact done E (.cons (.cell E E E E) Ap) [] (Dq n m d) (λ_ h=>h) E E kU
 have hd:=bd.1 rfl;rw[aY hd.2]at zd;subst zd;rw[zD qq]at aa;subst aa
 (refine⟨λh=>False.elim (zX h y_),λ_=>?_⟩;refine rg ?_;conv=>whnf)
 refine⟨hd.1,hd.2,?_⟩
 conv=>whnf
 refine⟨E,hd.2,?_⟩
 conv=>whnf
 refine gE hp F106 ?_;refine⟨hd.1,hd.2,?_⟩
 conv=>whnf
 refine⟨E,hd.2,l2,E,E,?_⟩
 conv=>whnf
 exact done E (.cons (.cell E E E E) Ap) [] (Dq n (setQ m dom l2) d) (λ_ h=>h) E E kU
def Am7(n:Net)(hn:n.Fin)(m:MacM)(d:Bool)(J D:Int)(ax:MacOK n m J D)(hJ:J<1000000000000)(hD:D<=1000000000000)(port:Int)(b:List UInt8)(hb:b.length<100000):Sq 56 [.ptr 0 0,Aa port,.sl 1 Al b] (Dq n m d) (.tup []) (Dq n (injectT n m port b) d):=cT F56 ntmps56 λF hF=>by
 have aa:=injectT.eq_1 n m port b;generalize injectT n m port b=res at *;have bd:=placeB_iff (d:=port) (k:=n.ports.length);have gw:=ax.inj;have ar:MacOK n ⟨m.up,m.tables,m.queues,m.now,m.injected+1,m.drops⟩ (J+1) D:=⟨ax.up,ax.tabs,ax.ques,ax.tab,ax.que,ax.now,⟨by dsimp only;omega,by dsimp only;omega⟩,ax.drp⟩
 have es:W9 ⟨m.up,m.tables,m.queues,m.now,m.injected+1,m.drops⟩:=λi=>⟨(ax.drp i).1,by have:=(ax.drp i).2;dsimp only at *;omega⟩
 have he:=Aa6 n port b;have jn:=Oq (n:=n) (port:=port) (b:=b);have q1:=Ak2 n hn port b hb;have hfr:=dK n port b;generalize enterT n port b=r at *;have q2:=λ (hp:0<=port/\port.toNat<n.ports.length)=>Zq n ⟨m.up,m.tables,m.queues,m.now,m.injected+1,m.drops⟩ d r.1 ⟨port,0,m.injected+1,r.2.1⟩ r.2.2 ⟨he.1,by have:=he.2;omega⟩ (λ h=>by
  have:=jn h;exact⟨this.1,by show r.1.toNat<m.queues.length;rw[ax.ques];exact this.2⟩) es (Ie ar _) (J5 hfr _ ⟨by omega,by have:=hn.ports;unfold An at this;omega⟩ y_)
 conv=>whnf
 constructor<;>intro h
 .have h:=zO h;rw[zE (.inl (by cases hx:Af port n.ports.length;rfl;exact zX (bd.1 hx) z_))]at aa;subst aa
  (refine oT ?_;refine bT ?_)
  (skip)
  exact done E .nil [] (Dq n res d) (λ_ h=>h) E E kU
 have h0:=zQ h;clear h;refine gH ?_ ?_<;>intro h
 .have h:=zO h;rw[zE (.inl (by cases hx:Af port n.ports.length;rfl;exact zX (bd.1 hx) z_))]at aa;subst aa;refine oT ?_
  (skip)
  exact done E .nil [] (Dq n res d) (λ_ h=>h) E E kU
 have h1:=zQ h;clear h;have hp:0<=port/\port.toNat<n.ports.length:=by omega
 rw[bd.2 hp,Ag hp.2]at aa;obtain ⟨p,l7⟩:=kE (n.ports[port.toNat]'hp.2);rw[l7]at aa;refine oO ?_;refine⟨E,hp.1,hp.2,?_⟩;rw[l7]
 conv=>whnf
 constructor<;>intro h
 .have h:=zO h;rw[zE (.inr h)]at aa;subst aa;refine oO ?_;exact done E .nil [] (Dq n res d) (λ_ h=>h) E E kU
 have h2:=zQ h;clear h;rw[zD kO]at aa;subst aa;refine gF ?_;refine gE q1 F107 ?_;refine Cc (Ad [] E F108 (q2 hp) E kA E kB) j_ E (gM ?_);refine A2 E .nil [] (Dq n (comeM _ _ _ _) d) (λ_ h=>h) E E kU
def nQ(n:Net)(hn:n.Fin)(m:MacM)(d:Bool)(J D:Int)(ax:MacOK n m J D)(hD:D<=1000000000000)(o:OutM)(ho:OutOK n o)(origin:Int):Sq 112 [.ptr 0 0,H3 o,Aa origin] (Dq n m d) (.sl 3 B9 (goesM n m o origin).2) (Dq n (goesM n m o origin).1 d):=cT F112 ntmps112 λF hF=>by
 have aa:=goesM.eq_1 n m o origin;generalize goesM n m o origin=res at *;have es:W9 m:=λi=>⟨(ax.drp i).1,by have:=(ax.drp i).2;omega⟩
 have j4:o.bytes.length<100000:=by have:=ho.bytes;omega
 have az:∀{x:Int},DomIn n x->0<=x/\x.toNat<m.queues.length:=λh=>by rw[ax.ques];exact h
 conv=>whnf
 constructor<;>intro h
 .have h1:o.kind=1:=by simpa using h
  rw[zE h1]at aa;subst aa;refine oO ?_;refine O0 34 B9 [⟨o.port,origin,o.bytes⟩] E E (Aj 34 E ?_);exact done E Ap [] (Dq n m d) (λ_ h=>h) E E kU
 have h1:¬o.kind=1:=kS h;rw[zD h1]at aa;clear h;refine gH ?_ ?_<;>intro h
 .have h2:o.kind=2:=by simpa using h
  rw[zE h2]at aa;have q1:=Aos n hn o.port o.bytes j4;have he:=At7 n o.port o.bytes;have hd:=λh=>az (Wv (n:=n) (port:=o.port) (b:=o.bytes) h)
  have hf:=Aj6 n o.port o.bytes;have ht:=Aj5 hn o.port o.bytes;generalize linkT n o.port o.bytes=r at *;have q2:=Zq n m d r.2.1 ⟨r.1,0,origin,r.2.2.1⟩ r.2.2.2 he hd es (Ie ax _) (J5 hf _ z_ y_);subst aa;refine oO ?_;refine cD q1 F193 (gM ?_);refine kW ?_;refine Ai (Ad [] E F108 q2 E kA E kB) E E (oO ?_);refine Ao 6 3 B9 E ?_;exact done E Ap [] (Dq n (comeM _ _ _ _) d) (λ_ h=>h) E E kU
 have h2:¬o.kind=2:=kS h;rw[zD h2]at aa;clear h;refine gH ?_ ?_<;>intro h
 .have h2:o.kind=3:=by simpa using h
  rw[zE h2]at aa;have q1:=Aot n hn o.bytes j4;have he:=Au1 n o.bytes;have hd:=λh=>az (Sx (n:=n) (b:=o.bytes) h).2
  have hf:=Ale n o.bytes;have ht:=Abh hn o.bytes;generalize comeT n o.bytes=r at *;have q2:=Zq n m d r.2.1 ⟨-1,r.1,origin,r.2.2.1⟩ r.2.2.2 he hd es (Ie ax _) (J5 hf _ y_ ht);subst aa;refine oO ?_;refine cD q1 F194 (gM ?_);refine kW ?_;refine Ai (Ad [] E F108 q2 E kA E kB) E E (oO ?_);refine Ao 6 3 B9 E ?_;exact done E Ap [] (Dq n (comeM _ _ _ _) d) (λ_ h=>h) E E kU
 have h3:¬o.kind=3:=kS h;rw[zD h3]at aa;clear h;refine gH ?_ ?_<;>intro h
 .have h4:o.kind=4:=by simpa using h
  rw[zE h4]at aa;have hf:=ho.frame h4;have q2:=Zq n m d o.domain ⟨-2,0,origin,o.frame⟩ 0 y_ (λ_=>az hf.2) es (Ie ax _) (J5 hf.1 _ y_ y_);subst aa;refine oO ?_;refine Ai (Ad [] E F108 q2 E kA E kB) E E (oO ?_);refine Ao 6 3 B9 E ?_;exact done E Ap [] (Dq n (comeM _ _ _ _) d) (λ_ h=>h) E E kU
 have h4:¬o.kind=4:=kS h;rw[zD h4]at aa;have h5:o.kind=5:=by have:=ho.kind;omega
 have he:=ho.err h5;have q2:=Ak7 n m d o.error he.1 he.2 (es _);subst aa;clear h;refine oO ?_;refine Ai (Ad [] E F111 q2 E kA E kB) E E (oO ?_);refine Ao 6 3 B9 E ?_;exact done E Ap [] (Dq n (C1 m o.error) d) (λ_ h=>h) E E kU
end
end Go.Sy.Zaa
