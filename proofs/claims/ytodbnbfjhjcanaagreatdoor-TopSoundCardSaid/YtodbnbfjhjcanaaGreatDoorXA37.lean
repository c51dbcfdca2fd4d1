/- Parts of a proof. -/
import Derived.Test.YtodbnbfjhjcanaaGreatDoorXA35
import Derived.Test.YtodbnbfjhjcanaaGreatDoorXA36
set_option maxHeartbeats 4000000
set_option linter.all false
namespace Go.Sy.Zaa
open Go.Proofs Go.Proofs.Tryz
section
attribute [local irreducible]G DR
set_option maxRecDepth 100000
def Acd(ae al:Addr)(e:Int)(x:Value)(u:FrameMode)(w:World)(he:w.cell? ae=some (.int .i64 e))(hl:w.cell? al=some x)(hz:w.frozen? al=false):CallsD prog 65 #[.pointer (some ae),.pointer (some al)] u w λr u' w'=>u'=u/\(r=.returned (.tuple #[])/\w'=if e=0 then w else w.setCell al (.slice none 0 0)):=by
 by_cases h:e=0
 .subst h
  go_enter_d func65,ntmps65
  go_wp2
  go_end0
  exact⟨E,by simp⟩
 .rw[zD h]
  go_enter_d func65,ntmps65
  go_wp2
  go_end0
  exact⟨E,E⟩
def Aw7{a0' a:Ka}{w0 w:World}{k:Nat}{v:Value}{l:List SV}(h0:Rd a0' w0 (.ptr k 0) v)(hn:a0' k≠.new->a k=a0' k\/a k=.dead)(ho:ObOK a w k (.box l)):∃b,a k=.blk b/\v=.pointer (some ⟨b,0,none⟩):=by
 obtain ⟨b,cs,T,fr,e1,_⟩:=ho;refine⟨b,e1,?_⟩;have ag:a0' k≠.new:=λe=>by simp only[Rd,e]at h0
 rcases hn ag with h|h
 .rw[e1]at h;simp only[Rd,<-h]at h0;exact h0
 .rw[e1]at h;cases h
def A05{F F2:Fr}{n:Nat}{bn:List Nat}{hbn:∀k,F2.k0 k≠.new->k∈bn}{k:List KI}{s:SS}{L:List LineM}{row e:Int}{cv:List Value}(hd:F2.ds=[⟨.fn (.func 65) cv.toArray,#[]⟩])(ny:RdL F2.k0 F2.w0 [.ptr 4 0,.ptr 2 0] cv)(bx:∀m w,Ctx F2 m w->Ctx F m w)(h2:s.h 2=.box [.sl 17 A3 L])(h4:s.h 4=.box [Aa e])(h3:s.σ 3=Aa row)(p2:s.σ 2=.ptr 2 0)(p4:s.σ 4=.ptr 4 0):G ⟨prog,Γ.toTy,F2,n,Arr prog Tryz.f34 F (.tup [.sl 17 A3 (if e=0 then L else []),Aa row,Aa e]) [],bn,hbn⟩ (.code .ret::k) s:=by
 refine A3b λm a w hs=>?_
 have o2:=hs.obj 2;rw[h2]at o2;have o4:=hs.obj 4;rw[h4]at o4;simp only[RdL]at ny;obtain ⟨v4,r4,rfl,hv4,v2,r2,rfl,li,rfl⟩:=ny;obtain ⟨b4,k4,rfl⟩:=Aw7 hv4 (hs.ctx.nam 4) o4;obtain ⟨b2,k2,rfl⟩:=Aw7 li (hs.ctx.nam 2) o2;obtain ⟨b2',e1,c1,c2,st1,inv1,vp⟩:=Dz (off:=0) (x:=svN) (v:=.slice none 0 0) hs.inv o2 rfl (λm w=>by simp only[Rd]) rfl;have vp:ObOK m (w.setCell ⟨b2',0,none⟩ (.slice none 0 0)) 2 (.box [.sl 17 A3 []]):=by
  obtain ⟨b,cs,T,fr,f1,f2,f3,f4,f5⟩:=vp;refine⟨b,cs,T,fr,f1,f2,f3,f4,?_⟩;have f5:RdL m _ [svN] cs:=f5;simp only[RdL,Rd]at f5|-;obtain ⟨v,r,rfl,rfl,rfl⟩:=f5;exact⟨_,_,E,by simp[RdD],E⟩
 rw[k2]at e1;cases e1;obtain ⟨b4',e4,d1,_,_,_,_⟩:=Dz (off:=0) (x:=Aa e) (v:=.int .i64 e) hs.inv o4 rfl (λm w=>by simp[Rd,Aa]) rfl;rw[k4]at e4;cases e4;obtain ⟨u4,hu4,hr4⟩:=d1 0 (Aa e) rfl;have hu4':u4=.int .i64 e:=by simpa [Aa,Rd] using hr4
 subst hu4';obtain ⟨u2,ss,_⟩:=c1 0 _ rfl;show Leaves prog Tryz.f34 a.tmps _ a.defers .returning w;rw[hs.defers,hd];refine leaves_cons (f:=65) (args:=#[.pointer (some ⟨b4,0,none⟩),.pointer (some ⟨b2,0,none⟩)]) qq (by simp[go_sem]) ?_;refine(Acd ⟨b4,0,none⟩ ⟨b2,0,none⟩ e u2 .returning w hu4 ss (c2 0 qq)).mono ?_;rintro r u' yk ⟨rfl,rfl,rfl⟩;by_cases he:e=0
 .rw[zE he,zE he];obtain ⟨v,g1,g2⟩:=U7 (P:=prog) (Γ:=Γ.toTy) hs (fn:=Tryz.f34) (xs:=[.sl 17 A3 L,Aa row,Aa e]) rfl (.cons (.cell p2 h2 rfl rfl) (.cons (h3▸.tmp) (.cons (.cell p4 h4 rfl rfl) .nil)));exact⟨v,g1,v,m,rfl,bx _ _ hs.ctx,hs.inv,g2,λp hp=>by cases hp⟩
 .rw[zD he,zD he];have my:St F2 n ⟨s.σ,upd s.h 2 (.box [.sl 17 A3 []])⟩ m a (w.setCell ⟨b2,0,none⟩ (.slice none 0 0)):=⟨hs.defers,hs.size,inv1,hs.ctx.step inv1 st1,λ i=>Rd.step st1 _ _ (hs.slot i),λ j=>by
   show ObOK m _ j (upd s.h 2 _ j);by_cases hj:j=2
   .subst hj;exact vp
   .have:upd s.h 2 (.box [.sl 17 A3 []]) j=s.h j:=by
     simp only[upd];have:Nat.beq j 2=false:=by
      cases hb:Nat.beq j 2
      .rfl
      .exact zX (yK hb) hj
     rw[this];rfl
    rw[this];exact ObOK.step st1 (show ¬ j=2 from hj) _ (hs.obj j)⟩
  obtain ⟨v,g1,g2⟩:=U7 (P:=prog) (Γ:=Γ.toTy) my (fn:=Tryz.f34) (xs:=[.sl 17 A3 [],Aa row,Aa e]) rfl (.cons (.cell p2 rfl rfl rfl) (.cons (h3▸.tmp) (.cons (.cell p4 h4 rfl rfl) .nil)));exact⟨v,g1,v,m,rfl,bx _ _ my.ctx,inv1,g2,λp hp=>by cases hp⟩
def Zi{F F2:Fr}{n:Nat}{bn:List Nat}{hbn:∀k,F2.k0 k≠.new->k∈bn}{k:List KI}{s:SS}{L L':List LineM}{row e:Int}{cv:List Value}(hd:F2.ds=[⟨.fn (.func 65) cv.toArray,#[]⟩])(ny:RdL F2.k0 F2.w0 [.ptr 4 0,.ptr 2 0] cv)(bx:∀a w,Ctx F2 a w->Ctx F a w)(hL:(if e=0 then L else [])=L')(h2:s.h 2=.box [.sl 17 A3 L])(h4:s.h 4=.box [Aa e])(h3:s.σ 3=Aa row)(p2:s.σ 2=.ptr 2 0)(p4:s.σ 4=.ptr 4 0):G ⟨prog,Γ.toTy,F2,n,Arr prog Tryz.f34 F (.tup [.sl 17 A3 L',Aa row,Aa e]) [],bn,hbn⟩ (.code .ret::k) s:=by
 subst hL;exact A05 hd ny bx h2 h4 h3 p2 p4
def U1:∀(l cur:List UInt8),∀s∈Hf cur l,s.size<=cur.length+l.length
 |[],cur,s,hs=>by
  rw[Hf]at hs;split at hs
  .cases hs
  .simp at hs;rw[hs,It];simp
 |c::l,cur,s,hs=>by
  rw[Hf]at hs;split at hs
  .rcases yH.1 hs with hs|hs
   .rw[hs,It];simp
   .have:=U1 l [] s hs;simp at this|-;omega
  .have:=U1 l (cur++[c]) s hs;simp at this|-;omega
def O7(b:List UInt8):(rowsT b).1.length<=400/\∀s∈(rowsT b).1,s.size<=20000:=by
 rw[rowsT];split
 .exact⟨by simp,λs hs=>by cases hs⟩
 .rename_i h1;split
  .exact⟨by simp,λs hs=>by cases hs⟩
  .rename_i h2;refine⟨by dsimp only;omega,λs hs=>?_⟩;have:=U1 b [] s hs;simp at this;omega
def S4(r:ByteArray)(hr:r.size<=20000):(wordsT r).1.length<=20001/\∀s∈(wordsT r).1,s.size<=40:=by
 have hl:=O4 r.data.toList [];have ov:r.data.toList.length=r.size:=rfl;rw[wordsT];split
 .rename_i h;refine⟨by dsimp only;omega,λs hs=>?_⟩;rw[yU]at h;have:=h s hs;simp only[wordB,zG,zJ]at this;exact this.1.2
 .exact⟨by simp,λs hs=>by cases hs⟩
def Ar8(b:List UInt8)(hb:b.length<=1000000):Sp 34 [.sl 1 Al b] (.tup [.sl 17 A3 (textT b).1,Aa (textT b).2.1,Aa (textT b).2.2]):=Au0 Γ hm 100 F34 ntmps34 rfl λF hF h0=>by
 have q1:=Ad8 b hb;have aa:=textT.eq_1 b;have jx:=O7 b;generalize textT b=res at *;generalize rowsT b=rt at *;obtain ⟨bl,e0⟩:=rt;dsimp only at aa jx q1;refine T ?_;refine A20 E E E E h0 [2,4] (λj hj=>?_) ?_
 .simp only[yH,xP,vQ,vW]at hj;have n2:Nat.beq j 2=false:=by
   cases hb:Nat.beq j 2
   .rfl
   .exact zX (yK hb) hj.1
  have n4:Nat.beq j 4=false:=by
   cases hb:Nat.beq j 4
   .rfl
   .exact zX (yK hb) hj.2
  simp[SS.upd,Uq,upd,mkh,n2,n4]
 intro F2 hF2 cv hd ny bx;refine gC q1 F36 ?_;cases hz:(e0 != 0);rotate_left
 .have he:e0≠0:=by simpa using hz
  rw[zE he]at aa;subst aa;refine T ?_;exact Ak 2 [.sl 17 A3 []] E (.cons .nil .nil) (Zi (L:=[]) hd ny bx qq E E E E E)
 have ui:e0=0:=kS hz;rw[zD (by simp[ui])]at aa;subst ui;obtain ⟨hlen,bg⟩:=jx;refine T ?_;refine O1 2 0 1000 17 A3 E E E E ?_;refine Ci (λx:Nat×List LineM=>res=L6 x.1 (bl.drop x.1) x.2/\x.1<=bl.length/\x.2.length<=x.1) (λx=>[(2,.ptr 2 0),(4,.ptr 4 0),(20,.sl 1 Ar bl),(21,Aa bl.length),(22,Aa x.1)]) (λx=>[(2,.box [.osl 1000]),(4,.box [Aa 0]),(1000,.row 17 A3 x.2)]) (λx=>bl.length-x.1) (0,[]) [] ⟨aa,by simp,by simp⟩ U ?_;rintro ⟨j,out⟩ ⟨hI,hj,kx⟩;dsimp only at hI hj kx|-;refine gL ?_ ?_<;>intro h
 .have ab:j<bl.length:=qA h;have aq:(j:Int).toNat<bl.length:=ab;have hr:(bl[(j:Int).toNat]'aq).size<=20000:=bg _ (zI _);have es:bl.drop j=bl[(j:Int).toNat]'aq::bl.drop (j+1):=yO ab;rw[es,L6]at hI;clear h;have q2:=Aac (bl[(j:Int).toNat]'aq) z_;have jr:=S4 (bl[(j:Int).toNat]'aq) hr;generalize wordsT (bl[(j:Int).toNat]'aq)=wt at *;obtain ⟨ws,we⟩:=wt;dsimp only at hI jr q2;cases hz:(we != 0);rotate_left
  .have he:we≠0:=by simpa using hz
   rw[zE he]at hI;subst hI;refine gC q2 F37 ?_;exact Ak 2 [.sl 17 A3 []] E (.cons .nil .nil) (Zi (L:=[]) hd ny bx qq E E E E E)
  have he:we=0:=kS hz;rw[zD (by simp[he])]at hI;by_cases lm:ws.length=0
  .rw[zE (yB lm)]at hI;have f0:((ws.length:Int)==0)=true:=by rw[lm];rfl
   refine gC q2 F37 ?_;exact Ay (j+1,out) [] ⟨hI,ab,by dsimp only;omega⟩ (by dsimp only;omega) U
  .rw[zD (λe=>lm (by rw[e];rfl))]at hI;have f0:((ws.length:Int)==0)=false:=by rw[zT];omega
   have q3:=Asi ws ((j:Int)+1) z_ jr.2;generalize Cm ws ((j:Int)+1)=st at *;obtain ⟨l,se⟩:=st;dsimp only at hI q3;cases uy:(se != 0);rotate_left
   .have du:se≠0:=by simpa using uy
    rw[zE du]at hI;subst hI;refine gB q2 F37 q3 F66 ?_;exact Aj 1000 E (Zi (L:=out) hd ny bx (zD du) E E E E E)
   .have du:se=0:=by simpa using uy
    rw[zD (by simp[du])]at hI;refine gB q2 F37 q3 F66 ?_;refine X (Ah Γ.toTy 56 E E E E E (.row E) (.lit (e:=A3) (l:=[l]) E E) qq kO kO) ?_;exact Ay (j+1,out++[l]) [(1000,56)] ⟨hI,ab,by simp;omega⟩ (by dsimp only;omega) U
 .have cq:j=bl.length:=qB h;subst cq;rw[wR,L6]at hI;subst hI;clear h;refine T ?_;exact Aj 1000 E (Zi (L:=out) hd ny bx (zE E) E E E E E)
end
structure LineR(l:LineM):Prop where
 right:Cn l=true
 ok:LineOK l
 vlan:0<=l.vlan/\l.vlan<=4094
 num:0<=l.num/\l.num<=16777215
 cost:0<=l.cost/\l.cost<=65535
 bits:0<=l.bits/\l.bits<=32
 tagged:Em l.tagged 4094=true
 imports:Em l.imports 65535=true
 exports:Em l.exports 65535=true
 addrs:l.addrs.length<=16
 dev:l.dev.size<=12
 port:l.port.size<=12
 peer:l.peer.size<=12
 far:l.far.size<=12
 name:l.name.size<=12
def Dn{s:ByteArray}(h:A1 s=true):s.size<=12:=by
 simp only[A1,zG,zJ]at h;exact h.2
def Aab(s:ByteArray):0<=(macR s).1:=by
 have hd:∀c,0<=digI c:=λc=>by
  unfold digI;split
  .omega
  .split<;>omega
 have:∀i,0<=Xh s i:=λi=>by
  induction i with
  |zero=>exact xN _
  |succ i ih=>
   have h1:=hd (Bw s (3*i));have h2:=hd (Bw s (3*i+1));rw[Xh];omega
 unfold macR;split
 .exact this 6
 .exact xN _
def Api:(⟨#[]⟩:ByteArray).size=0:=rfl
def Acj(s:ByteArray):(0<=(prefixR s).1.1/\(prefixR s).1.1<4294967296):=by
 unfold prefixR;split
 .exact⟨xN _,by decide⟩
 .exact⟨L4 _,Uf _⟩
def Avf{s:ByteArray}(h:(D6 s).2=true):(D6 s).1.length<=16/\∀x∈(D6 s).1,0<=x/\x<4294967296:=by
 have hp:=lM h;obtain ⟨a,b,c,d⟩:=Sm Dy (Cy 44 s) [] (D6 s).1 hp List.Pairwise.nil qq;refine⟨b,λx hx=>?_⟩;rcases d x hx with hh|⟨p,_,hh⟩
 .cases hh
 .have h1:=L4 p;have h2:=Uf p;rw[hh]at h1 h2;exact⟨h1,h2⟩
def Sh{s:ByteArray}{hi:Int}(h:(listR hi s).2=true):Em (listR hi s).1 hi=true:=A1y (lM h)
def Br(hi:Int):Em [] hi=true:=by simp[Em,U3]
def zV:(0:Int)<=0/\(0:Int)<=4094:=by decide
def zN:(0:Int)<=0/\(0:Int)<=16777215:=by decide
def zC:(0:Int)<=0/\(0:Int)<=65535:=by decide
def zB:(0:Int)<=0/\(0:Int)<=32:=by decide
def zM:(0:Int)<=0/\(0:Int)<18446744073709551616:=by decide
def zA:(0:Int)<=0/\(0:Int)<4294967296:=by decide
def zS:(⟨#[]⟩:ByteArray).size<=12:=by decide
def Amg{w:List ByteArray}{row:Int}(h:(Cm w row).2=0):LineR (Cm w row).1:=by
 obtain ⟨g1,g2⟩:=Asg h;rw[g1];clear g1 h;have ez:=Api;have o1:∀{m:Int},0<=m->statB m=true->0<=m/\m<18446744073709551616:=λa b=>⟨a,by have:=Ab9 b;omega⟩
 unfold B8 at g2|-;dsimp only at g2|-;by_cases h1:kindL (wdT w 0)=1
 .simp only[zE h1,yH,xP,vQ,forall_eq_or_imp,forall_eq,xJ,wW,zG]at g2|-;obtain ⟨b1,b2,b3,b4⟩:=g2;have c:=Ir b2;have n1:=Dn b1;exact⟨by simp[Cn,Bn,b1,b4,within_iff.2 c,Ht],⟨o1 (Aab _) b4,zA,by simp[lineZ]⟩,zV,⟨c.1,by have:=c.2;dsimp only;omega⟩,zC,zB,Br _,Br _,Br _,by simp[lineZ],n1,zS,zS,zS,zS⟩
 by_cases h2:kindL (wdT w 0)=2
 .simp only[zD h1,zE h2]at g2|-;have b1:=g2 (!(A1 (wdT w 1)),20) qq;have b2:=g2 (!(A1 (wdT w 2)),20) qq;have b3:=g2 (!(numR (wdT w 3) 1 65535).2,21) qq;have b4:∀e∈(Eb w).2.2,e.1=false:=λe he=>g2 e (by simp[he])
  have b5:=g2 (!(membersB (Eb w).1 (Eb w).2.1),21) qq;simp only[xJ,wW]at b1 b2 b3 b5;have c:=Ir b3;have hp:(0<=(Eb w).1/\(Eb w).1<=4094)/\Em (Eb w).2.1 4094=true:=by
   clear b5 g2;unfold Eb at b4|-;split
   .rename_i e;rw[zE e]at b4;have:=b4 _ (zZ.2 rfl);simp only[xJ,wW]at this;have:=Ir this;exact⟨⟨by have:=this.1;dsimp only[C0];omega,this.2⟩,Br _⟩
   .rename_i e;rw[zD e]at b4;split
    .rename_i e2;rw[zE e2]at b4;split
     .rename_i e3;rw[zE e3]at b4;have:=b4 _ (zZ.2 rfl);simp only[xJ,wW]at this;exact⟨zV,Sh this⟩
     .rename_i e3;rw[zD e3]at b4;have a1:=b4 _ (List.mem_cons_self);have a2:=b4 _ (List.mem_cons_of_mem _ (zZ.2 rfl));simp only[xJ,wW]at a1 a2;have:=Ir a1;exact⟨⟨by have:=this.1;dsimp only[C0];omega,this.2⟩,Sh a2⟩
    .exact⟨zV,Br _⟩
  generalize Eb w=q at *;obtain ⟨hv,ht⟩:=hp;exact⟨by simp[Cn,Bn,b1,b2,b5,ht,within_iff.2 c,within_iff.2 hv,Ht],⟨zM,zA,by simp[lineZ]⟩,hv,zN,⟨by have:=c.1;dsimp only;omega,c.2⟩,zB,ht,Br _,Br _,by simp[lineZ],Dn b1,Dn b2,zS,zS,zS⟩
 by_cases h3:kindL (wdT w 0)=3
 .simp only[zD h1,zD h2,zE h3,yH,xP,vQ,forall_eq_or_imp,forall_eq,xJ,wW,zG]at g2|-;obtain ⟨b1,b2,b3,b4⟩:=g2;exact⟨by simp[Cn,Bn,b1,b2,b3,b4,Ht],⟨zM,zA,by simp[lineZ]⟩,zV,zN,zC,zB,Br _,Br _,Br _,by simp[lineZ],Dn b1,Dn b2,Dn b3,Dn b4,zS⟩
 by_cases h4:kindL (wdT w 0)=4
 .simp only[zD h1,zD h2,zD h3,zE h4,yH,xP,vQ,forall_eq_or_imp,forall_eq,xJ,wW,zG]at g2|-;obtain ⟨b1,b2,⟨b3,b4⟩,b5⟩:=g2;have c:=Ir b2;exact⟨by simp[Cn,Bn,b1,Afl b2 E,b4,b5,Ht],⟨o1 (Aab _) b4,zA,by simp[lineZ]⟩,⟨by have:=c.1;dsimp only[C0];omega,c.2⟩,zN,zC,zB,Br _,Br _,Br _,by simp[lineZ],Dn b1,Dn b5,zS,zS,zS⟩
 by_cases h5:kindL (wdT w 0)=5
 .simp only[zD h1,zD h2,zD h3,zD h4,zE h5,yH,xP,vQ,forall_eq_or_imp,forall_eq,xJ,wW,zG,zJ]at g2|-;obtain ⟨b1,b2,b3⟩:=g2;exact⟨by simp[Cn,Bn,b1,b3,Ht],⟨zM,⟨L4 _,Uf _⟩,by simp[lineZ]⟩,zV,zN,zC,zB,Br _,Br _,Br _,by simp[lineZ],Dn b1,zS,zS,zS,zS⟩
 by_cases h6:kindL (wdT w 0)=6
 .simp only[zD h1,zD h2,zD h3,zD h4,zD h5,zE h6,yH,xP,vQ,forall_eq_or_imp,forall_eq,xJ,wW,zG]at g2|-;obtain ⟨b1,b2,b3⟩:=g2;have c:=Ir b2;have d:=Ir b3;exact⟨by simp[Cn,Bn,b1,Afl b2 E,Avq b3 E,Ht],⟨zM,zA,by simp[lineZ]⟩,⟨by have:=c.1;dsimp only[C0];omega,c.2⟩,⟨by have:=d.1;dsimp only[S6];omega,d.2⟩,zC,zB,Br _,Br _,Br _,by simp[lineZ],Dn b1,zS,zS,zS,zS⟩
 by_cases h7:kindL (wdT w 0)=7
 .simp only[zD h1,zD h2,zD h3,zD h4,zD h5,zD h6,zE h7,yH,xP,vQ,forall_eq_or_imp,forall_eq,xJ,wW,zG,zJ]at g2|-;obtain ⟨b1,b2,b3,b4⟩:=g2;have d:=Ir b2;have e:=Avf b3;exact⟨by simp[Cn,Bn,b1,Avq b2 E,A0l (lM b3) b4,Ht],⟨zM,zA,e.2⟩,zV,⟨by have:=d.1;dsimp only[S6];omega,d.2⟩,zC,zB,Br _,Br _,Br _,e.1,Dn b1,zS,zS,zS,zS⟩
 by_cases h8:kindL (wdT w 0)=8
 .simp only[zD h1,zD h2,zD h3,zD h4,zD h5,zD h6,zD h7,zE h8,yH,xP,vQ,forall_eq_or_imp,forall_eq,xJ,wW,zG]at g2|-;obtain ⟨b1,b2,b3,b4⟩:=g2;exact⟨by simp[Cn,Bn,b1,b2,Sh b3,Sh b4,Ht],⟨zM,zA,by simp[lineZ]⟩,zV,zN,zC,zB,Br _,Sh b3,Sh b4,by simp[lineZ],Dn b1,zS,zS,zS,Dn b2⟩
 .simp only[zD h1,zD h2,zD h3,zD h4,zD h5,zD h6,zD h7,zD h8,yH,xP,vQ,forall_eq_or_imp,forall_eq,xJ,wW,zG]at g2|-;obtain ⟨b1,b2,b3,b4,b5⟩:=g2;have c:=Ir b2;have hb:=Ux b5;exact⟨by simp[Cn,Bn,b1,b3,Afl b2 E,b5,Ht],⟨zM,Acj _,by simp[lineZ]⟩,⟨by have:=c.1;dsimp only[C0];omega,c.2⟩,zN,zC,⟨by dsimp only;omega,by dsimp only;omega⟩,Br _,Br _,Br _,by simp[lineZ],Dn b1,zS,zS,zS,Dn b3⟩
def Ani(l:LineM)(r:Int):Cn {l with row:=r}=Cn l:=by
 by_cases h1:l.kind=1
 .simp[Cn,Bn,M0,h1]
 by_cases h2:l.kind=2
 .simp[Cn,Bn,M0,h1,h2]
 by_cases h3:l.kind=3
 .simp[Cn,Bn,M0,h1,h2,h3]
 by_cases h4:l.kind=4
 .simp[Cn,Bn,M0,h1,h2,h3,h4]
 by_cases h5:l.kind=5
 .simp[Cn,Bn,M0,h1,h2,h3,h4,h5]
 by_cases h6:l.kind=6
 .simp[Cn,Bn,M0,h1,h2,h3,h4,h5,h6]
 by_cases h7:l.kind=7
 .simp[Cn,Bn,M0,h1,h2,h3,h4,h5,h6,h7]
 by_cases h8:l.kind=8
 .simp[Cn,Bn,M0,h1,h2,h3,h4,h5,h6,h7,h8]
 by_cases h9:l.kind=9
 .simp[Cn,Bn,M0,h1,h2,h3,h4,h5,h6,h7,h8,h9]
 simp[Cn,Bn,M0,h1,h2,h3,h4,h5,h6,h7,h8,h9]
theorem LineR.row{l:LineM}(h:LineR l)(r:Int):LineR {l with row:=r} :=
 ⟨by rw[Ani];exact h.right,⟨h.ok.mac,h.ok.addr,h.ok.addrs⟩,h.vlan,h.num,h.cost,h.bits,h.tagged,h.imports,h.exports,h.addrs,h.dev,h.port,h.peer,h.far,h.name⟩
def S9:∀(rs:List ByteArray) (i:Nat) (out:List LineM),(∀x∈out,LineR x)->∀x∈(L6 i rs out).1,LineR x
 |[],_,_,h=>by rw[L6];exact h
 |r::rs,i,out,h=>by
  rw[L6];split
  .intro x hx;cases hx
  .split
   .exact S9 rs (i+1) out h
   .split
    .intro x hx;cases hx
    .rename_i h3;refine S9 rs (i+1) _ λx hx=>?_
     rcases yI.1 hx with hx|hx
     .exact h x hx
     .rw[zZ.1 hx];exact Amg z_
def S7(b:List UInt8):∀x∈(textT b).1,LineR x:=by
 unfold textT;split
 .intro x hx;cases hx
 .exact S9 _ 0 [] qq
end Go.Sy.Zaa
