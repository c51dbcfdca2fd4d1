/- Parts of a proof. -/
import Derived.Test.YtodbnbfjhjcanaaGreatDoorXB30
import Derived.Test.YtodbnbfjhjcanaaGreatDoorXB40
set_option maxHeartbeats 4000000
set_option linter.all false
namespace Go.Sy.Zaa
open Go.Proofs Go.Proofs.Tryz
section
attribute [local irreducible]G DR
set_option maxRecDepth 100000
def Abj(w r e:Int):Sp 31 [Aa w,Aa r,Aa e] (bJ (V6 w r e)):=cT F31 ntmps31 λF hF=>by
 refine T ?_;exact Ak 6 (cellsOf (bJ (V6 w r e))) E vL D
end
section
def nG{n:Net}{ow:List Int}{f:Nat}{a:Int}:∀(l:List Int) (i to:Nat),Mw n ow f a i l=some to->i<=to/\∃h:to-i<l.length,¬(a<0\/l[to-i]<0\/a=l[to-i])/\(wayT n f to).2=true
 |[],i,to,h=>by cases h
 |b::r,i,to,h=>by
  rw[Mw]at h;split at h
  .rename_i hc;simp only[Option.some.injEq]at h;subst h;exact⟨yE _,by simp,kS hc⟩
  .obtain ⟨h1,h2,h3⟩:=nG r (i+1) to h;refine⟨by omega,by rw[yM];omega,?_⟩;have e:to-i=(to-(i+1))+1:=by omega
   simp only[e,uI];exact h3
def nI{n:Net}{ow:List Int}:∀(l:List Int) (i:Nat),(Sn n ow i l).2.2=true->∃f to:Nat,Sn n ow i l=((f:Int),(to:Int),true)/\i<=f/\(∃h:f-i<l.length,∃g:to<ow.length,¬(l[f-i]<0\/ow[to]<0\/l[f-i]=ow[to]))/\(wayT n f to).2=true
 |[],i,h=>by cases h
 |a::r,i,h=>by
  rw[Sn]at h|-;cases hl:Mw n ow i a 0 ow with
  |some to=>
   obtain ⟨h1,h2,h3,h4⟩:=nG ow 0 to hl;refine⟨i,to,E,yE _,⟨by simp,kS h2,kS h3⟩,h4⟩
  |none=>
   rw[hl]at h;obtain ⟨f,to,e,h1,⟨h2,h3,h4⟩,h5⟩:=nI r (i+1) h;refine⟨f,to,e,by omega,⟨by rw[yM];omega,h3,?_⟩,h5⟩;have e:f-i=(f-(i+1))+1:=by omega
   simp only[e,uI];exact h4
def Acg{n:Net}{ow:List Int}(h:(leaksT n ow).2.2=true):∃f to:Nat,leaksT n ow=((f:Int),(to:Int),true)/\(∃(h1:f<ow.length) (h2:to<ow.length),0<=ow[f]/\0<=ow[to]/\ow[f]≠ow[to])/\(wayT n f to).2=true:=by
 rw[leaksT]at h|-;split at h
 .cases h
 rename_i hb;rw[zD hb];obtain ⟨f,to,e,h1,⟨h2,h3,h4⟩,h5⟩:=nI ow 0 h;refine⟨f,to,e,⟨kS h2,h3,?_⟩,h5⟩;simp only[Nat.sub_zero,uF]at h4;omega
def Avi{n:Net}(hc:Cv n=true){f t:Int}(h:(wayT n f t).2=true):(wscriptT n f t).2=0:=by
 have hw:=h;rw[wayT]at hw;split at hw
 .rename_i hk;have ho:okB n (Aat n)=true:=ok_iff.2 ⟨xU,hk.2.2.2,hc⟩;rw[wscriptT,zE ⟨hk.1,hk.2.1,hk.2.2.1,ho⟩,zE h]
 .cases hw
attribute [local irreducible]G DR
set_option maxRecDepth 100000
def Akf:∀(l:List ByteArray) (t:TenM),TenOK t->(∀s∈l,s.size<=40)->t.devs.length+l.length<=1000->t.ports.length+l.length<=1000->TenOK (Aax t l).1
 |[],t,h,_,_,_=>h
 |w::l,t,h,hs,hd,hp=>by
  rw[Aax];have hw:=hs w y_;have hc:=Ag5 w;split
  .exact⟨by decide,⟨by decide,λs hs=>(by cases hs)⟩,⟨by decide,λs hs=>(by cases hs)⟩⟩
  refine Akf l _ ⟨h.name,⟨by simp at hd|-;omega,λs hx=>?_⟩,⟨by simp at hp|-;omega,λs hx=>?_⟩⟩ (λs hx=>hs s (by simp[hx])) (by simp at hd|-;omega) (by simp at hp|-;omega)
  .rcases yH.1 hx with hx|hx
   .exact h.devs.2 s hx
   .rw[zX.1 hx];show (cutT 46 w).1.size<=_;omega
  .rcases yH.1 hx with hx|hx
   .exact h.ports.2 s hx
   .rw[zX.1 hx];show (cutT 46 w).2.1.size<=_;omega
def As2:TenOK Ahs:=⟨by decide,⟨by decide,λs hs=>(by cases hs)⟩,⟨by decide,λs hs=>(by cases hs)⟩⟩
def Auw(w:List ByteArray)(row:Int)(hs:∀s∈w,s.size<=40):TenOK (tenantT w row).1:=by
 rw[tenantT];split
 .exact As2
 rename_i h;simp only[uF]at h;split
 .exact As2
 have h1:wdT w 1=w[1]'q_:=Dq q_;refine Akf _ _ ⟨?_,⟨xN _,λs hs=>(by cases hs)⟩,⟨xN _,λs hs=>(by cases hs)⟩⟩ (λs hx=>hs s (List.mem_of_mem_drop hx)) kO kO;show (wdT w 1).size<=_;rw[h1];have:=hs _ (zI (show 1<w.length by omega));omega
def V9:∀(rs:List ByteArray) (i:Nat) (out:List TenM),(∀r∈rs,r.size<=20000)->(∀t∈out,TenOK t)->out.length<=10->(∀t∈(K2 i out rs).1,TenOK t)/\(K2 i out rs).1.length<=10
 |[],i,out,_,h,hl=>⟨h,hl⟩
 |r::rs,i,out,hr,h,hl=>by
  have hr':∀x∈rs,x.size<=20000:=λx hx=>hr x (by simp[hx])
  rw[K2];split
  .exact⟨λt ht=>(by cases ht),by simp⟩
  split
  .exact V9 rs (i+1) out hr' h hl
  split
  .exact⟨λt ht=>(by cases ht),by simp⟩
  split
  .exact⟨λt ht=>(by cases ht),by simp⟩
  refine V9 rs (i+1) _ hr' (λt ht=>?_) kO;rcases yH.1 ht with ht|ht
  .exact h t ht
  .rw[zX.1 ht];exact Auw _ _ (Ts r (hr r y_)).2
def Afx(b:List UInt8):(∀t∈(policyT b).1,TenOK t)/\(policyT b).1.length<=10:=by
 rw[policyT];split
 .exact⟨λt ht=>(by cases ht),by simp⟩
 .exact V9 _ 0 [] (Qy b).2 (λt ht=>(by cases ht)) y_
def A3u(b c:List UInt8)(hb:b.length<=1000000)(hc:c.length<=1000000):Sp 13 [.sl 1 Al b,.sl 1 Al c] (bJ (verifyT b c)):=cT F13 ntmps13 λF hF=>by
 have aa:=verifyT.eq_1 b c;generalize verifyT b c=res at *;have q1:=Als b hb;have q2:=nA c hc;obtain ⟨hn,hu⟩:=Wg b;have cw:=Ab6 b;obtain ⟨l6,ay⟩:=Afx c;generalize netTextT b=nt at *;generalize policyT c=pt at *;obtain ⟨n,xd,ne⟩:=nt;obtain ⟨L,xe,pe⟩:=pt;dsimp only at *;by_cases e1:ne=0;rotate_left
 .have f1:(ne != 0)=true:=by rw[xC];exact e1
  rw[zE e1]at aa;subst aa;refine gB q1 F14 (Abj 1 xd ne) F31 ?_;exact D
 have f1:(ne != 0)=false:=by rw[e1];rfl
 rw[zD (λh=>h e1)]at aa;by_cases e2:pe=0;rotate_left
 .have f2:(pe != 0)=true:=by rw[xC];exact e2
  rw[zE e2]at aa;subst aa;refine gB q1 F14 q2 F15 ?_;refine C (Abj 2 xe pe) F31 ?_;exact D
 have f2:(pe != 0)=false:=by rw[e2];rfl
 rw[zD (λh=>h e2),aV]at aa;have q3:=Aud n hn L l6 q_;have q4:=leaksS n hn hu (assignT n L).1;have q5:=Aom n hn (cw e1).1 hu (leaksT n (assignT n L).1).1 (leaksT n (assignT n L).1).2.1;generalize assignT n L=a at *;obtain ⟨ow,wh,xf,ae⟩:=a;dsimp only at *;by_cases e3:ae=0;rotate_left
 .have f3:(ae != 0)=true:=by rw[xC];exact e3
  rw[zE e3]at aa;subst aa;refine gB q1 F14 q2 F15 ?_;refine gK q3 F16 (Abj wh xf ae) F31 ?_;exact D
 have f3:(ae != 0)=false:=by rw[e3];rfl
 rw[zD (λh=>h e3)]at aa;generalize leaksT n ow=lk at *;obtain ⟨lf,lt,ll⟩:=lk;dsimp only at *;cases ll
 .rw[zE rfl]at aa;subst aa;refine gB q1 F14 q2 F15 ?_;refine gK q3 F16 q4 F32 ?_;exact Ak 4 (cellsOf (bJ ⟨1,0,0,0,0,0,[]⟩)) E vL D
 .rw[zD (by exact Bool.noConfusion)]at aa;generalize wscriptT n lf lt=sc at *;obtain ⟨sl,se⟩:=sc;dsimp only at *;subst aa;refine gB q1 F14 q2 F15 ?_;refine gK q3 F16 q4 F32 ?_;refine C q5 F33 ?_;exact D
end
section
def Vk{b c:List UInt8}(h:(verifyT b c).kind=2):(netTextT b).2.2=0/\∃f to:Nat,(verifyT b c).from_=f/\(verifyT b c).to=to/\(wscriptT (netTextT b).1 f to).2=0/\(verifyT b c).script=(wscriptT (netTextT b).1 f to).1:=by
 rw[verifyT]at h|-;split at h
 .cases h
 rename_i h1;split at h
 .cases h
 rename_i h2;rw[zD h1,zD h2];have e1:(netTextT b).2.2=0:=Classical.byContradiction h1;refine⟨e1,?_⟩;rw[aV]at h|-;split at h
 .cases h
 rename_i h3;rw[zD h3];split at h
 .cases h
 rename_i h4;rw[zD h4];have hl:(leaksT (netTextT b).1 (assignT (netTextT b).1 (policyT c).1).1).2.2=true:=kS h4;obtain ⟨f,to,el,_,hw⟩:=Acg hl;refine⟨f,to,?_,?_,Avi (Ab6 b e1).2 hw,?_⟩
 .rw[el]
 .rw[el]
 .rw[el]
def Ard{b c:List UInt8}(h:(verifyT b c).kind=2):∃i0 rest,(verifyT b c).script=i0::rest/\i0.kind=1/\i0.port=(verifyT b c).from_/\i0.bytes.length<=2000/\rest.length+1<=4*(netTextT b).1.domains.length+2/\(∀y∈rest,(y.kind=2\/y.kind=5)/\y.bytes=[]) /\
  anyS (verifyT b c).to (Dn (netTextT b).1 (newT (netTextT b).1) (i0::rest)).2=true/\(Dn (netTextT b).1 (newT (netTextT b).1) rest).2=[]:=by
 obtain ⟨e1,f,to,ef,et,hs,es⟩:=Vk h;obtain ⟨hn,B,hc⟩:=Y1 e1;obtain ⟨rest,x,k1,k2,k3,s,s1,s2,s3⟩:=Ah3 B hc hs;refine⟨_,rest++[x],by rw[es,k1];rfl,E,ef.symm,Aiz B hc hs,by rw[zQ,zW];omega,k3,?_,Afw λy hy=>?_⟩
 .have:=eX (netTextT b).1 (injectW (netTextT b).1 f (wayT (netTextT b).1 f to).1::rest) (newT (netTextT b).1) x;rw[wB]at this;rw[this,et,anyS,xY];exact⟨s,wX _ s1,by rw[zL s2,zL s3];rfl⟩
 .rcases (k3 y hy).1 with e|e<;>rw[e]<;>decide
def Are{b c:List UInt8}(h:(verifyT b c).kind=2):okB (netTextT b).1 (Aat (netTextT b).1)=true:=by
 obtain ⟨_,f,to,_,_,hs,_⟩:=Vk h;exact Ah4 hs
def aU(b c:List UInt8):(verifyT b c).kind=3\/((netTextT b).2.2=0/\(assignT (netTextT b).1 (policyT c).1).2.2.2=0 /\
  (((verifyT b c).kind=1/\(leaksT (netTextT b).1 (assignT (netTextT b).1 (policyT c).1).1).2.2=false) \/
   ((verifyT b c).kind=2/\leaksT (netTextT b).1 (assignT (netTextT b).1 (policyT c).1).1=((verifyT b c).from_,(verifyT b c).to,true)))):=by
 rw[verifyT];split
 .exact .inl E
 rename_i h1;split
 .exact .inl E
 rw[aV];split
 .exact .inl E
 rename_i h3;refine .inr ⟨Classical.byContradiction h1,Classical.byContradiction h3,?_⟩;split
 .rename_i h4;exact .inl ⟨rfl,h4⟩
 .rename_i h4;refine .inr ⟨E,?_⟩;have h4:(leaksT (netTextT b).1 (assignT (netTextT b).1 (policyT c).1).1).2.2=true:=kS h4;exact Prod.ext E (Prod.ext E h4)
def Adr{of gg:List Int}:∀l:List SeenM,(∃s∈l,nth of (nth gg (s.origin-1))≠nth of s.port)->∃s∈l,Ll of gg l=(nth gg (s.origin-1),s.port,true)/\nth of (nth gg (s.origin-1))≠nth of s.port
 |[],⟨s,hs,_⟩=>by cases hs
 |x::l,⟨s,hs,hn⟩=>by
  rw[Ll];split
  .rename_i h;exact⟨x,by simp,rfl,h⟩
  .rename_i h;rcases yI.1 hs with rfl|hs
   .exact yA hn h
   .obtain ⟨y,h1,h2⟩:=Adr l ⟨s,hs,hn⟩;exact⟨y,by simp[h1],h2⟩
def Wk(n:Net):Jf n []=newT n:=rfl
def Acq(l:List StepM):Nat:=(l.filter λx=>decide (x.kind=1)).length
def Ams{l m:List StepM}(h:l.Sublist m):Acq l<=Acq m:=(h.filter _).length_le
def Axc{l:List StepM}(h:Acq l=0):∀y∈l,y.kind≠1:=λy hy hk=>by
 have:y∈l.filter λx=>decide (x.kind=1):=uB.2 ⟨hy,zL hk⟩
 rw[vA.1 h]at this;cases this
def A4z{b c:List UInt8}(h:(verifyT b c).kind=2):∃t:Int,crossesT (netTextT b).1 (assignT (netTextT b).1 (policyT c).1).1 [] (verifyT b c).script=((verifyT b c).from_,t,true)/\Ag t (assignT (netTextT b).1 (policyT c).1).1.length=true /\
   nth (assignT (netTextT b).1 (policyT c).1).1 t≠nth (assignT (netTextT b).1 (policyT c).1).1 (verifyT b c).from_/\Ag (verifyT b c).from_ (assignT (netTextT b).1 (policyT c).1).1.length=true /\
   (shrT (netTextT b).1 (assignT (netTextT b).1 (policyT c).1).1 [] (verifyT b c).script).2=0/\Acq (shrT (netTextT b).1 (assignT (netTextT b).1 (policyT c).1).1 [] (verifyT b c).script).1=1:=by
 obtain ⟨i0,rest,xg,i1,i2,i3,hl,hk,hany,hq⟩:=Ard h;have aq:=Are h;have hp:=aU b c;generalize verifyT b c=r at *;generalize (assignT (netTextT b).1 (policyT c).1).1=of at *;generalize (netTextT b).1=n at *;rcases hp with hp|⟨_,_,hp|⟨_,ak⟩⟩
 .rw[hp]at h;cases h
 .rw[hp.1]at h;cases h
 have ab:(leaksT n of).2.2=true:=by rw[ak]
 have ho:Ey n of=true:=by
  cases hh:Ey n of
  .rw[leaksT,zE hh]at ab;cases ab
  .rfl
 obtain ⟨f,to,el,⟨h1,h2,h3,h4,h5⟩,_⟩:=Acg ab;rw[ak]at el;have ef:r.from_=(f:Int):=(Prod.mk.inj el).1;have et:r.to=(to:Int):=(Prod.mk.inj (Prod.mk.inj el).2).1;have pf:Ag r.from_ of.length=true:=by rw[ef,Ag,zL (vG f),zL q_];rfl
 have nf:nth of r.from_=of[f]:=by rw[ef];exact Ae (l:=of) (i:=(f:Int)) h1
 have nt:nth of r.to=of[to]:=by rw[et];exact Ae (l:=of) (i:=(to:Int)) h2
 have ay:Ee of r.script=[r.from_]:=by
  rw[xg,Ee,vB (by rw[injB,i1,i2,pf,nf,zL h3];rfl)];have:rest.filter (injB of)=[]:=List.filter_eq_nil_iff.2 λy hy=>by
   rw[injB];rcases (hk y hy).1 with e|e<;>rw[e]<;>simp
  rw[this,xV,i2];rfl
 have lg:=Aa9 ho [] r.script;rw[Wk,ay]at lg;have hex:∃s∈(Dn n (newT n) r.script).2,nth of (nth [r.from_] (s.origin-1))≠nth of s.port:=by
  rw[<-xg,anyS,xY]at hany;obtain ⟨s,hs,jn⟩:=hany;simp only[zG,zJ]at jn;refine⟨s,hs,?_⟩;rw[jn.1,jn.2,show nth [r.from_] ((1:Int)-1)=r.from_ from rfl,nf,nt];exact h5
 have hby:∀s∈(Dn n (newT n) r.script).2,nth [r.from_] (s.origin-1)=r.from_:=λs hs=>by
  have:=lg s hs;have e:s.origin-1=0:=by
   have h1:=this.2.1;have h2:s.origin<=1:=this.2.2;omega
  rw[e];rfl
 obtain ⟨s,hs,hc,af⟩:=Adr _ hex;rw[hby s hs]at hc af;have kg:crossesT n of [] r.script=(r.from_,s.port,true):=by rw[crossesT,zE ⟨ho,aq⟩,Wk,ay,hc]
 have nq:crossB n of [] r.script=true:=by rw[crossB,kg]
 have jj:=eV (crossB n of []) (r.script.length+1) r.script (Nat.lt_succ_self _) nq;have tw:=((Alv _ _).1 jj.2).1;have ar:=Ams jj.1;have h1c:Acq r.script=1:=by
  rw[xg,Acq,vB (p:=λx:StepM=>decide (x.kind=1)) (zL i1)];have:rest.filter (λx=>decide (x.kind=1))=[]:=List.filter_eq_nil_iff.2 λy hy=>by
   rcases (hk y hy).1 with e|e<;>rw[e]<;>simp
  rw[this];rfl
 refine⟨s.port,kg,(lg s hs).1,λe=>af e.symm,pf,by rw[shrT,zE nq],?_⟩;rw[shrT,zE nq];dsimp only;generalize Vs (crossB n of []) (r.script.length+1) r.script=m at *;by_cases c0:Acq m=0
 .exfalso;rw[crossB,crossesT,zE ⟨ho,aq⟩,Wk,Afw (Axc c0)]at tw;cases tw
 .omega
def Ars{n:Net}(f:Int)(l:List Hop):∀k:Nat,∀y∈(goW n f l k).out,y.up.length<=n.links.length
 |0,y,hy=>by
  rw[goW,doW]at hy;have hy:y∈([]:List StepM)++[injectW n f l]:=hy;rw[wL,zX]at hy;rw[hy];exact xN _
 |k+1,y,hy=>by
  rw[goW,S2,doW]at hy;rcases yH.1 hy with hy|hy
  .rw[linkW]at hy;split at hy
   .rw[doW]at hy;rcases yH.1 hy with hy|hy
    .exact Ars f l k y hy
    .rw[zX.1 hy];show (upW n _).length<=_;rw[upW,yQ,xU];exact yE _
   .exact Ars f l k y hy
  .rw[zX.1 hy];exact xN _
def Aol{n:Net}{f t:Int}:∀y∈(wscriptT n f t).1,y.up.length<=n.links.length:=by
 intro y hy;rw[wscriptT]at hy;split at hy
 .split at hy
  .rw[Ar2,S2,doW]at hy;rcases yH.1 hy with hy|hy
   .exact Ars _ _ _ y hy
   .rw[zX.1 hy];exact xN _
  .cases hy
 .cases hy
def leak_up{b c:List UInt8}(h:(verifyT b c).kind=2):∀y∈(verifyT b c).script,y.up.length<100000:=by
 obtain ⟨e1,f,to,_,_,_,es⟩:=Vk h;have hl:=(Adi (Y1 e1).2.1.right).2.2.1;intro y hy;rw[es]at hy;have:=Aol y hy;omega
def Axd(l:List StepM)(j:Nat)(hj:j<l.length):Acq (l.take (j+1))=Acq (l.take j)+if l[j].kind=1 then 1 else 0:=by
 unfold Acq;rw[yD hj,List.filter_append,zQ];congr 1;by_cases h:l[j].kind=1
 .rw[zE h,vB (p:=λx:StepM=>decide (x.kind=1)) (zL h)];rfl
 .rw[zD h,uW (by rw[zK h];decide)];rfl
def Azn(n:Net)(of:List Int)(tabs:List (List EntryM))(l:List StepM):(shrT n of tabs l).1.length<=l.length:=by
 rw[shrT];split
 .rename_i h;exact(eV _ _ _ (Nat.lt_succ_self _) h).1.length_le
 .exact xN _
attribute [local irreducible]G DR
set_option maxRecDepth 100000
def Aa7(b c:List UInt8)(tabs:List (List EntryM))(htabs:Asv tabs)(l:List StepM):Sp 4 [.sl 1 Al b,.sl 1 Al c,.sl 1 Hp tabs,.sl 6 Bp l] (Ab true):=cT F4 ntmps4 λF hF=>by
 have qw:=Ayl;by_cases b0:3000<b.length
 .have f0:decide ((b.length:Int)>3000)=true:=zL q_;refine gC qw F12 ?_;exact D
 have f0:decide ((b.length:Int)>3000)=false:=zK q_;by_cases c0:3000<c.length
 .have f1:decide ((c.length:Int)>3000)=true:=zL q_;refine gC qw F12 ?_;exact D
 have f1:decide ((c.length:Int)>3000)=false:=zK q_;have qg:=A17 emptyN tabs l;refine gC qw F12 ?_;refine T ?_;refine A5u 42 (Am emptyN) (.agg vL) (C qg F6 ?_);cases hg:great34B emptyN tabs l with
 |true=>
  exact gA
 |false=>
 by_cases l0:14<l.length
 .have f2:decide ((l.length:Int)>14)=true:=zL q_;exact gA
 have f2:decide ((l.length:Int)>14)=false:=zK q_;have hgf:=Ae2 hg;have hf:=Ae3 hgf.2.1;have xg:ScriptOK l:=⟨by omega,λx hx=>(hf.2 x hx).1⟩
 have ht:TabsOK tabs:=⟨hgf.2.2.1,hgf.2.2.2,htabs⟩
 clear hg hgf hf;have q0:=A3u b c q_ q_;have q1:=Als b q_;have q2:=nA c q_;obtain ⟨hn,hu⟩:=Wg b;obtain ⟨l6,ay⟩:=Afx c;have q3:=Aud (netTextT b).1 hn (policyT c).1 l6 q_;have hp:=aU b c;have hbu:=@Y1 b;have hfr:=@A54 b;have y5:=@A4z b c;have hlu:=@leak_up b c;have lz:=@Ard b c;by_cases k3:(verifyT b c).kind=3
 .generalize verifyT b c=r at *;generalize netTextT b=nt at *;generalize policyT c=pt at *;obtain ⟨n,xd,ne⟩:=nt;obtain ⟨L,xe,pe⟩:=pt;generalize assignT n L=a at *;obtain ⟨ow,wh,xf,ae⟩:=a;have g0:(r.kind==3)=true:=by rw[k3];rfl
  refine gB q0 F13 q1 F14 ?_;refine gK q2 F15 q3 F16 ?_;exact Ar E Aq (zH Ab g0.symm) E
 obtain ⟨e1,e3,hp⟩:=hp.resolve_left k3;have B:=(hbu e1).2.1;have hx:=λhl=>Aem B hu (hfr e1) (of:=(assignT (netTextT b).1 (policyT c).1).1) hl tabs l
 have gi:=(Adi B.right).2.2.2.1;have zs:=B.num;clear hbu hfr;generalize verifyT b c=r at *;generalize netTextT b=nt at *;generalize policyT c=pt at *;obtain ⟨n,xd,ne⟩:=nt;obtain ⟨L,xe,pe⟩:=pt;dsimp only at *;generalize assignT n L=a at *;obtain ⟨ow,wh,xf,ae⟩:=a;dsimp only at *;have g0:(r.kind==3)=false:=by rw[zU];exact k3
 have g1:(ae != 0)=false:=by rw[e3];rfl
 rcases hp with ⟨k1,hl⟩|⟨k2,hl⟩
 .have g2:(r.kind==1)=true:=by rw[k1];rfl
  have q4:=Vt n hn zs ow tabs ht l xg;rw[hx hl]at q4;refine gB q0 F13 q1 F14 ?_;refine gK q2 F15 q3 F16 ?_;refine C q4 F17 ?_;exact D
 have g2:(r.kind==1)=false:=by rw[k2];rfl
 obtain ⟨t,hc,pt,af,pf,jn,zl⟩:=y5 k2;have mo:=hlu k2;obtain ⟨i0,rest,hr,i1,i2,i3,v7,hk,-,-⟩:=lz k2;have lg:ScriptOK r.script:=by
  rw[hr];exact⟨by rw[yM];omega,λ y hy=>by
   rcases yI.1 hy with rfl|hy
   .exact i3
   .rw[(hk y hy).2];exact xN _⟩
 have q4:=Vt n hn zs ow [] aY r.script lg;have q5:=T4 n hn zs ow [] aY r.script lg mo;rw[hc]at q4;have q4:=q4.view (A':=[Am n,.sl 1 Aa ow,svN,.sl 6 Bp r.script]) λk w=>Il (λ_ h=>h) (Il (λ_ h=>h) (Il (λ_=>X9) (λ_ h=>h)))
 have q5:=q5.view (A':=[Am n,.sl 1 Aa ow,svN,.sl 6 Bp r.script]) λk w=>Il (λ_ h=>h) (Il (λ_ h=>h) (Il (λ_=>X9) (λ_ h=>h)))
 have iq:=Azn n ow [] r.script;have mu:=lg.few;generalize shrT n ow [] r.script=sm at *;obtain ⟨m,me⟩:=sm;dsimp only at *;subst jn;simp only[Ag,zG,zJ]at pt pf;have wu:t.toNat<ow.length:=by omega
 have hf0:r.from_.toNat<ow.length:=by omega
 rw[Ae wu,Ae hf0]at af;have g3:(r.from_ != r.from_)=false:=bne_self_eq_false _;have g4:decide (t<0)=false:=zK q_;have g5:decide (t>=(ow.length:Int))=false:=zK q_;have g6:(ow[t.toNat]'wu==ow[r.from_.toNat]'hf0)=false:=by rw[zU];exact af
 refine gB q0 F13 q1 F14 ?_;refine gK q2 F15 q3 F16 ?_;refine C q4 F17 ?_;by_cases l1:14<r.script.length
 .have g7:decide ((r.script.length:Int)>14)=true:=zL q_;exact gA
 have g7:decide ((r.script.length:Int)>14)=false:=zK q_;refine gC q5 F18 ?_;refine Bg m.length (λj=>[(27,Aa 0),(28,Aa (Acq (m.take j):Nat)),(150,.sl 6 Bp m),(151,Aa m.length),(152,Aa j)]) (λ_=>[]) [] U ?_;intro j hj;refine gN ?_ ?_<;>intro h
 .have ab:j<m.length:=qA h;have ai:(j:Int).toNat<m.length:=ab;clear h;obtain ⟨x,dx⟩:=kE (m[j]);have e2:m[(j:Int).toNat]'ai=x:=dx;have hs:=Axd m j ab;have hb:=Ams (List.take_sublist j m);rw[zl]at hb;rw[dx]at hs;refine S ?_;refine⟨E,by omega,ai,?_⟩;rw[e2];by_cases hk:x.kind=1
  .have g8:(x.kind==1)=true:=by rw[hk];rfl
   rw[zE hk]at hs;refine T ?_;refine Az [] ab ?_;rw[hs];exact U
  .have g8:(x.kind==1)=false:=by rw[zU];exact hk
   rw[zD hk]at hs;refine T ?_;refine Az [] ab ?_;rw[hs];exact U
 have cu:j=m.length:=qB h;subst cu;rw[yN,zl];exact gA
end
end Go.Sy.Zaa
