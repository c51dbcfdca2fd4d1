/- Parts of a proof. -/
import Derived.Test.YticmobkdaneelaaGreatDoorYE25
import Derived.Test.YticmobkdaneelaaGreatDoorYE24
set_option linter.all false
set_option linter.unusedVariables false
set_option linter.unusedSimpArgs false
set_option linter.deprecated false
namespace Go.Sy.YticmobkdaneelaaGreatDoor
open Go.Proofs Go.Proofs.Tryz
attribute [local irreducible] Go.Sy.G Go.Sy.DR
set_option maxRecDepth 100000
set_option maxHeartbeats 4000000
def Ag8(ae al:Addr)(e:Int)(x:Value)(u:FrameMode)(w:World)(he:w.cell? ae=some (.int .i64 e))(hl:w.cell? al=some x)(hz:w.frozen? al=false):CallsD prog 23 #[.pointer (some ae),.pointer (some al)] u w λr u' w'=>u'=u∧(r=.returned (.tuple #[])∧w'=if e=0 then w else w.setCell al (.slice none 0 0)):=by
 by_cases h:e=0
 ·subst h
  go_enter_d func23,ntmps23
  go_wp2
  go_end0
  exact⟨E,by simp⟩
 ·rw[zD h]
  go_enter_d func23,ntmps23
  go_wp2
  go_end0
  exact⟨E,E⟩
def A07{κ0' κ:Ka}{w0 w:World}{k:Nat}{v:Value}{l:List SV}(h0:Rd κ0' w0 (.ptr k 0) v)(hn:κ0' k≠.new→κ k=κ0' k∨κ k=.dead)(ho:ObOK κ w k (.box l)):∃b,κ k=.blk b∧v=.pointer (some ⟨b,0,none⟩):=by
 obtain ⟨b,cs,T,fr,e1,_⟩:=ho;refine⟨b,e1,?_⟩;have ag:κ0' k≠.new:=λe=>by simp only[Rd,e]at h0
 rcases hn ag with h|h
 ·rw[e1]at h;simp only[Rd,←h]at h0;exact h0
 ·rw[e1]at h;cases h
def A4z{F F2:Fr}{n:Nat}{bn:List Nat}{hbn:∀k,F2.k0 k≠.new→k∈bn}{k:List KI}{s:SS}{L:List LineM}{row e:Int}{cv:List Value}(hd:F2.ds=[⟨.fn (.func 23) cv.toArray,#[]⟩])(ng:RdL F2.k0 F2.w0 [.ptr 4 0,.ptr 2 0] cv)(bx:∀κ w,Ctx F2 κ w→Ctx F κ w)(h2:s.h 2=.box [.sl 17 A3 L])(h4:s.h 4=.box [Aa e])(h3:s.σ 3=Aa row)(p2:s.σ 2=.ptr 2 0)(p4:s.σ 4=.ptr 4 0):G ⟨prog,Γ.toTy,F2,n,Av7 prog Tryz.f11 F (.tup [.sl 17 A3 (if e=0 then L else []),Aa row,Aa e]) [],bn,hbn⟩ (.code .ret::k) s:=by
 refine A62 λκ a w hs=>?_
 have o2:=hs.obj 2;rw[h2]at o2;have o4:=hs.obj 4;rw[h4]at o4;simp only[RdL]at ng;obtain ⟨v4,r4,rfl,hv4,v2,r2,rfl,oh,rfl⟩:=ng;obtain ⟨b4,k4,rfl⟩:=A07 hv4 (hs.ctx.nam 4) o4;obtain ⟨b2,k2,rfl⟩:=A07 oh (hs.ctx.nam 2) o2;obtain ⟨b2',e1,c1,c2,st1,inv1,uk⟩:=Dz (off:=0) (x:=.val (.slice none 0 0)) (v:=.slice none 0 0) hs.inv o2 rfl (λκ w=>by simp only[Rd]) rfl;have uk:ObOK κ (w.setCell ⟨b2',0,none⟩ (.slice none 0 0)) 2 (.box [.sl 17 A3 []]):=by
  obtain ⟨b,cs,T,fr,f1,f2,f3,f4,f5⟩:=uk;refine⟨b,cs,T,fr,f1,f2,f3,f4,?_⟩;have f5:RdL κ _ [.val (.slice none 0 0)] cs:=f5;simp only[RdL,Rd]at f5⊢;obtain ⟨v,r,rfl,rfl,rfl⟩:=f5;exact⟨_,_,E,by simp[RdD],E⟩
 rw[k2]at e1;cases e1;obtain ⟨b4',e4,d1,_,_,_,_⟩:=Dz (off:=0) (x:=Aa e) (v:=.int .i64 e) hs.inv o4 rfl (λκ w=>by simp[Rd,Aa]) rfl;rw[k4]at e4;cases e4;obtain ⟨u4,hu4,hr4⟩:=d1 0 (Aa e) rfl;have hu4':u4=.int .i64 e:=by simpa [Aa,Rd] using hr4
 subst hu4';obtain ⟨u2,rj,_⟩:=c1 0 _ rfl;show Leaves prog Tryz.f11 a.tmps _ a.defers .returning w;rw[hs.defers,hd];refine leaves_cons (f:=23) (args:=#[.pointer (some ⟨b4,0,none⟩),.pointer (some ⟨b2,0,none⟩)]) y_ (by simp[go_sem]) ?_;refine(Ag8 ⟨b4,0,none⟩ ⟨b2,0,none⟩ e u2 .returning w hu4 rj (c2 0 y_)).mono ?_;rintro r u' xu ⟨rfl,rfl,rfl⟩;by_cases he:e=0
 ·rw[zG he,zG he];obtain ⟨v,g1,g2⟩:=Uk (P:=prog) (Γ:=Γ.toTy) hs (fn:=Tryz.f11) (xs:=[.sl 17 A3 L,Aa row,Aa e]) rfl (.cons (.cell p2 h2 rfl rfl) (.cons (h3▸.tmp) (.cons (.cell p4 h4 rfl rfl) .nil)));exact⟨v,g1,v,κ,rfl,bx _ _ hs.ctx,hs.inv,g2,λp hp=>by cases hp⟩
 ·rw[zD he,zD he];have ly:St F2 n ⟨s.σ,upd s.h 2 (.box [.sl 17 A3 []])⟩ κ a (w.setCell ⟨b2,0,none⟩ (.slice none 0 0)):=⟨hs.defers,hs.size,inv1,hs.ctx.step inv1 st1,λ i=>Rd.step st1 _ _ (hs.slot i),λ j=>by
   show ObOK κ _ j (upd s.h 2 _ j);by_cases hj:j=2
   ·subst hj;exact uk
   ·have:upd s.h 2 (.box [.sl 17 A3 []]) j=s.h j:=by
     simp only[upd];have:Nat.beq j 2=false:=by
      cases hb:Nat.beq j 2
      ·rfl
      ·exact zY (yK hb) hj
     rw[this];rfl
    rw[this];exact ObOK.step st1 (show ¬ j=2 from hj) _ (hs.obj j)⟩
  obtain ⟨v,g1,g2⟩:=Uk (P:=prog) (Γ:=Γ.toTy) ly (fn:=Tryz.f11) (xs:=[.sl 17 A3 [],Aa row,Aa e]) rfl (.cons (.cell p2 rfl rfl rfl) (.cons (h3▸.tmp) (.cons (.cell p4 h4 rfl rfl) .nil)));exact⟨v,g1,v,κ,rfl,bx _ _ ly.ctx,inv1,g2,λp hp=>by cases hp⟩
def Yr{F F2:Fr}{n:Nat}{bn:List Nat}{hbn:∀k,F2.k0 k≠.new→k∈bn}{k:List KI}{s:SS}{L L':List LineM}{row e:Int}{cv:List Value}(hd:F2.ds=[⟨.fn (.func 23) cv.toArray,#[]⟩])(ng:RdL F2.k0 F2.w0 [.ptr 4 0,.ptr 2 0] cv)(bx:∀κ w,Ctx F2 κ w→Ctx F κ w)(hL:(if e=0 then L else [])=L')(h2:s.h 2=.box [.sl 17 A3 L])(h4:s.h 4=.box [Aa e])(h3:s.σ 3=Aa row)(p2:s.σ 2=.ptr 2 0)(p4:s.σ 4=.ptr 4 0):G ⟨prog,Γ.toTy,F2,n,Av7 prog Tryz.f11 F (.tup [.sl 17 A3 L',Aa row,Aa e]) [],bn,hbn⟩ (.code .ret::k) s:=by
 subst hL;exact A4z hd ng bx h2 h4 h3 p2 p4
def Ud:∀(l cur:List UInt8),∀s∈E9 cur l,s.size≤cur.length+l.length
 |[],cur,s,hs=>by
  rw[E9]at hs;split at hs
  ·cases hs
  ·simp at hs;rw[hs,Ip];simp
 |c::l,cur,s,hs=>by
  rw[E9]at hs;split at hs
  ·rcases yH.1 hs with hs|hs
   ·rw[hs,Ip];simp
   ·have:=Ud l [] s hs;simp at this⊢;omega
  ·have:=Ud l (cur++[c]) s hs;simp at this⊢;omega
def Ab4(b:List UInt8):(rowsT b).1.length≤400∧∀s∈(rowsT b).1,s.size≤20000:=by
 rw[rowsT];split
 ·exact⟨by simp,λs hs=>by cases hs⟩
 ·rename_i h1;split
  ·exact⟨by simp,λs hs=>by cases hs⟩
  ·rename_i h2;refine⟨by dsimp only;omega,λs hs=>?_⟩;have:=Ud b [] s hs;simp at this;omega
def Aj9(r:ByteArray)(hr:r.size≤20000):(wordsT r).1.length≤20001∧∀s∈(wordsT r).1,s.size≤40:=by
 have hl:=Oh r.data.toList [];have rq:r.data.toList.length=r.size:=rfl;rw[wordsT];split
 ·rename_i h;refine⟨by dsimp only;omega,λs hs=>?_⟩;rw[yZ]at h;have:=h s hs;simp only[wordB,zE,zJ]at this;exact this.1.2
 ·exact⟨by simp,λs hs=>by cases hs⟩
def Awl(b:List UInt8)(hb:b.length≤1000000):Sp 11 [.sl 1 Al b] (.tup [.sl 17 A3 (textT b).1,Aa (textT b).2.1,Aa (textT b).2.2]):=Ay9 Γ hm 100 F11 ntmps11 rfl λF hF h0=>by
 have q1:=Ayh b hb;have aa:=textT.eq_1 b;have jh:=Ab4 b;generalize textT b=res at *;generalize rowsT b=rt at *;obtain ⟨ej,e0⟩:=rt;dsimp only at aa jh q1;refine T ?_;refine A6o E E E E h0 [2,4] (λj hj=>?_) ?_
 ·simp only[yH,xX,vZ,uC]at hj;have n2:Nat.beq j 2=false:=by
   cases hb:Nat.beq j 2
   ·rfl
   ·exact zY (yK hb) hj.1
  have n4:Nat.beq j 4=false:=by
   cases hb:Nat.beq j 4
   ·rfl
   ·exact zY (yK hb) hj.2
  simp[SS.upd,Tx,upd,mkh,n2,n4]
 intro F2 hF2 cv hd ng bx;refine gD q1 F24 ?_;cases hz:(e0 != 0);rotate_left
 ·have he:e0≠0:=by simpa using hz
  rw[zG he]at aa;subst aa;refine T ?_;refine Ak 2 [.sl 17 A3 []] E (.cons .nil .nil) ?_;exact Yr (L:=[]) hd ng bx y_ E E E E E
 have he0:e0=0:=by simpa using hz
 rw[zD (by simp[he0])]at aa;subst he0;obtain ⟨hlen,bg⟩:=jh;refine T ?_;refine Q9 2 0 1000 17 A3 E E E E ?_;refine C3 (λx:Nat×List LineM=>res=Lz x.1 (ej.drop x.1) x.2∧x.1≤ej.length∧x.2.length≤x.1) (λx=>[(2,.ptr 2 0),(4,.ptr 4 0),(20,.sl 1 Aw ej),(21,Aa ej.length),(22,Aa x.1)]) (λx=>[(2,.box [.osl 1000]),(4,.box [Aa 0]),(1000,.row 17 A3 x.2)]) (λx=>ej.length-x.1) (0,[]) [] ⟨aa,by simp,by simp⟩ U ?_;rintro ⟨j,out⟩ ⟨hI,hj,mz⟩;dsimp only at hI hj mz⊢;refine T ?_;constructor<;>intro h
 ·have ab:j<ej.length:=qA h;have aq:(j:Int).toNat<ej.length:=ab;have hr:(ej[(j:Int).toNat]'aq).size≤20000:=bg _ (zI _);have fy:ej.drop j=ej[(j:Int).toNat]'aq::ej.drop (j+1):=yP ab;rw[fy,Lz]at hI;clear h;have q2:=As3 (ej[(j:Int).toNat]'aq) q_;have kl:=Aj9 (ej[(j:Int).toNat]'aq) hr;generalize wordsT (ej[(j:Int).toNat]'aq)=wt at *;obtain ⟨ws,we⟩:=wt;dsimp only at hI kl q2;cases hz:(we != 0);rotate_left
  ·have he:we≠0:=by simpa using hz
   rw[zG he]at hI;subst hI;refine gD q2 F25 ?_;refine Ak 2 [.sl 17 A3 []] E (.cons .nil .nil) ?_;exact Yr (L:=[]) hd ng bx y_ E E E E E
  have he:we=0:=by simpa using hz
  rw[zD (by simp[he])]at hI;by_cases og:ws.length=0
  ·rw[zG (zZ og)]at hI;have f0:((ws.length:Int)==0)=true:=by rw[og];rfl
   refine gD q2 F25 ?_;exact Be (j+1,out) [] ⟨hI,ab,by dsimp only;omega⟩ (by dsimp only;omega) U
  ·rw[zD (λe=>og (by rw[e];rfl))]at hI;have f0:((ws.length:Int)==0)=false:=by rw[zR];omega
   have q3:=Awu ws ((j:Int)+1) q_ kl.2;generalize Ci ws ((j:Int)+1)=st at *;obtain ⟨l,se⟩:=st;dsimp only at hI q3;cases t8:(se != 0);rotate_left
   ·have dr:se≠0:=by simpa using t8
    rw[zG dr]at hI;subst hI;refine gB q2 F25 q3 F26 ?_;refine Aj 1000 E ?_;exact Yr (L:=out) hd ng bx (zD dr) E E E E E
   ·have dr:se=0:=by simpa using t8
    rw[zD (by simp[dr])]at hI;refine gB q2 F25 q3 F26 ?_;refine X (Ag Γ.toTy 56 E E E E E (.row E) (.lit (e:=A3) (l:=[l]) E E) y_ (by simp;omega) (by simp;omega)) ?_;exact Be (j+1,out++[l]) [(1000,56)] ⟨hI,ab,by simp;omega⟩ (by dsimp only;omega) U
 ·have dh:j=ej.length:=qB h;subst dh;rw[uF,Lz]at hI;subst hI;clear h;refine T ?_;refine Aj 1000 E ?_;exact Yr (L:=out) hd ng bx (zG E) E E E E E
end Go.Sy.YticmobkdaneelaaGreatDoor
namespace Go.Sy.YticmobkdaneelaaGreatDoor
open Go.Proofs Go.Proofs.Tryz
set_option maxHeartbeats 4000000
structure LineR(l:LineM):Prop where
 right:Cj l=true
 ok:LineOK l
 vlan:0≤l.vlan∧l.vlan≤4094
 num:0≤l.num∧l.num≤16777215
 cost:0≤l.cost∧l.cost≤65535
 bits:0≤l.bits∧l.bits≤32
 tagged:Ep l.tagged 4094=true
 imports:Ep l.imports 65535=true
 exports:Ep l.exports 65535=true
 addrs:l.addrs.length≤16
 dev:l.dev.size≤12
 port:l.port.size≤12
 peer:l.peer.size≤12
 far:l.far.size≤12
 name:l.name.size≤12
def Di{s:ByteArray}(h:Bc s=true):s.size≤12:=by
 simp only[Bc,zE,zJ]at h;exact h.2
def Afi(s:ByteArray):0≤(macR s).1:=by
 have hd:∀c,0≤digI c:=λc=>by
  unfold digI;split
  ·omega
  ·split<;>omega
 have:∀i,0≤Wj s i:=λi=>by
  induction i with
  |zero=>exact xU _
  |succ i ih=>
   have h1:=hd (Bu s (3*i));have h2:=hd (Bu s (3*i+1));rw[Wj];omega
 unfold macR;split
 ·exact this 6
 ·exact xU _
def Atx:(⟨#[]⟩:ByteArray).size=0:=rfl
def Ahf(s:ByteArray):(0≤(prefixR s).1.1∧(prefixR s).1.1<4294967296):=by
 unfold prefixR;split
 ·exact⟨xU _,by decide⟩
 ·exact⟨Lx _,Tl _⟩
def Azl{s:ByteArray}(h:(Ea s).2=true):(Ea s).1.length≤16∧∀x∈(Ea s).1,0≤x∧x<4294967296:=by
 have hp:=Ady h;obtain ⟨a,b,c,d⟩:=Qy Dy (Ct 44 s) [] (Ea s).1 hp List.Pairwise.nil y_;refine⟨b,λx hx=>?_⟩;rcases d x hx with hh|⟨p,_,hh⟩
 ·cases hh
 ·have h1:=Lx p;have h2:=Tl p;rw[hh]at h1 h2;exact⟨h1,h2⟩
def Qv{s:ByteArray}{hi:Int}(h:(listR hi s).2=true):Ep (listR hi s).1 hi=true:=A5q (Ady h)
def Br(hi:Int):Ep [] hi=true:=by simp[Ep,Ug]
def zV:(0:Int)≤0∧(0:Int)≤4094:=by decide
def zN:(0:Int)≤0∧(0:Int)≤16777215:=by decide
def zC:(0:Int)≤0∧(0:Int)≤65535:=by decide
def zB:(0:Int)≤0∧(0:Int)≤32:=by decide
def zM:(0:Int)≤0∧(0:Int)<18446744073709551616:=by decide
def zA:(0:Int)≤0∧(0:Int)<4294967296:=by decide
def zS:(⟨#[]⟩:ByteArray).size≤12:=by decide
def Aq3{w:List ByteArray}{row:Int}(h:(Ci w row).2=0):LineR (Ci w row).1:=by
 obtain ⟨g1,g2⟩:=Aws h;rw[g1];clear g1 h;have ez:=Atx;have o1:∀{m:Int},0≤m→statB m=true→0≤m∧m<18446744073709551616:=λa b=>⟨a,by have:=Ag5 b;omega⟩
 unfold B5 at g2⊢;dsimp only at g2⊢;by_cases h1:kindL (wdT w 0)=1
 ·simp only[zG h1,yH,xX,vZ,forall_eq_or_imp,forall_eq,yW,wJ,zE]at g2⊢;obtain ⟨b1,b2,b3,b4⟩:=g2;have c:=Im b2;have n1:=Di b1;exact⟨by simp[Cj,Bm,b1,b4,within_iff.2 c,Ho],⟨o1 (Afi _) b4,zA,by simp[lineZ]⟩,zV,⟨c.1,by have:=c.2;dsimp only;omega⟩,zC,zB,Br _,Br _,Br _,by simp[lineZ],n1,zS,zS,zS,zS⟩
 by_cases h2:kindL (wdT w 0)=2
 ·simp only[zD h1,zG h2]at g2⊢;have b1:=g2 (!(Bc (wdT w 1)),20) y_;have b2:=g2 (!(Bc (wdT w 2)),20) y_;have b3:=g2 (!(numR (wdT w 3) 1 65535).2,21) y_;have b4:∀e∈(Ef w).2.2,e.1=false:=λe he=>g2 e (by simp[he])
  have b5:=g2 (!(membersB (Ef w).1 (Ef w).2.1),21) y_;simp only[yW,wJ]at b1 b2 b3 b5;have c:=Im b3;have hp:(0≤(Ef w).1∧(Ef w).1≤4094)∧Ep (Ef w).2.1 4094=true:=by
   clear b5 g2;unfold Ef at b4⊢;split
   ·rename_i e;rw[zG e]at b4;have:=b4 _ (yB.2 rfl);simp only[yW,wJ]at this;have:=Im this;exact⟨⟨by have:=this.1;dsimp only[Cw];omega,this.2⟩,Br _⟩
   ·rename_i e;rw[zD e]at b4;split
    ·rename_i e2;rw[zG e2]at b4;split
     ·rename_i e3;rw[zG e3]at b4;have:=b4 _ (yB.2 rfl);simp only[yW,wJ]at this;exact⟨zV,Qv this⟩
     ·rename_i e3;rw[zD e3]at b4;have a1:=b4 _ (List.mem_cons_self);have a2:=b4 _ (List.mem_cons_of_mem _ (yB.2 rfl));simp only[yW,wJ]at a1 a2;have:=Im a1;exact⟨⟨by have:=this.1;dsimp only[Cw];omega,this.2⟩,Qv a2⟩
    ·exact⟨zV,Br _⟩
  generalize Ef w=q at *;obtain ⟨hv,ht⟩:=hp;exact⟨by simp[Cj,Bm,b1,b2,b5,ht,within_iff.2 c,within_iff.2 hv,Ho],⟨zM,zA,by simp[lineZ]⟩,hv,zN,⟨by have:=c.1;dsimp only;omega,c.2⟩,zB,ht,Br _,Br _,by simp[lineZ],Di b1,Di b2,zS,zS,zS⟩
 by_cases h3:kindL (wdT w 0)=3
 ·simp only[zD h1,zD h2,zG h3,yH,xX,vZ,forall_eq_or_imp,forall_eq,yW,wJ,zE]at g2⊢;obtain ⟨b1,b2,b3,b4⟩:=g2;exact⟨by simp[Cj,Bm,b1,b2,b3,b4,Ho],⟨zM,zA,by simp[lineZ]⟩,zV,zN,zC,zB,Br _,Br _,Br _,by simp[lineZ],Di b1,Di b2,Di b3,Di b4,zS⟩
 by_cases h4:kindL (wdT w 0)=4
 ·simp only[zD h1,zD h2,zD h3,zG h4,yH,xX,vZ,forall_eq_or_imp,forall_eq,yW,wJ,zE]at g2⊢;obtain ⟨b1,b2,⟨b3,b4⟩,b5⟩:=g2;have c:=Im b2;exact⟨by simp[Cj,Bm,b1,Aka b2 E,b4,b5,Ho],⟨o1 (Afi _) b4,zA,by simp[lineZ]⟩,⟨by have:=c.1;dsimp only[Cw];omega,c.2⟩,zN,zC,zB,Br _,Br _,Br _,by simp[lineZ],Di b1,Di b5,zS,zS,zS⟩
 by_cases h5:kindL (wdT w 0)=5
 ·simp only[zD h1,zD h2,zD h3,zD h4,zG h5,yH,xX,vZ,forall_eq_or_imp,forall_eq,yW,wJ,zE,zJ]at g2⊢;obtain ⟨b1,b2,b3⟩:=g2;exact⟨by simp[Cj,Bm,b1,b3,Ho],⟨zM,⟨Lx _,Tl _⟩,by simp[lineZ]⟩,zV,zN,zC,zB,Br _,Br _,Br _,by simp[lineZ],Di b1,zS,zS,zS,zS⟩
 by_cases h6:kindL (wdT w 0)=6
 ·simp only[zD h1,zD h2,zD h3,zD h4,zD h5,zG h6,yH,xX,vZ,forall_eq_or_imp,forall_eq,yW,wJ,zE]at g2⊢;obtain ⟨b1,b2,b3⟩:=g2;have c:=Im b2;have d:=Im b3;exact⟨by simp[Cj,Bm,b1,Aka b2 E,Azt b3 E,Ho],⟨zM,zA,by simp[lineZ]⟩,⟨by have:=c.1;dsimp only[Cw];omega,c.2⟩,⟨by have:=d.1;dsimp only[Sb];omega,d.2⟩,zC,zB,Br _,Br _,Br _,by simp[lineZ],Di b1,zS,zS,zS,zS⟩
 by_cases h7:kindL (wdT w 0)=7
 ·simp only[zD h1,zD h2,zD h3,zD h4,zD h5,zD h6,zG h7,yH,xX,vZ,forall_eq_or_imp,forall_eq,yW,wJ,zE,zJ]at g2⊢;obtain ⟨b1,b2,b3,b4⟩:=g2;have d:=Im b2;have e:=Azl b3;exact⟨by simp[Cj,Bm,b1,Azt b2 E,A4g (Ady b3) b4,Ho],⟨zM,zA,e.2⟩,zV,⟨by have:=d.1;dsimp only[Sb];omega,d.2⟩,zC,zB,Br _,Br _,Br _,e.1,Di b1,zS,zS,zS,zS⟩
 by_cases h8:kindL (wdT w 0)=8
 ·simp only[zD h1,zD h2,zD h3,zD h4,zD h5,zD h6,zD h7,zG h8,yH,xX,vZ,forall_eq_or_imp,forall_eq,yW,wJ,zE]at g2⊢;obtain ⟨b1,b2,b3,b4⟩:=g2;exact⟨by simp[Cj,Bm,b1,b2,Qv b3,Qv b4,Ho],⟨zM,zA,by simp[lineZ]⟩,zV,zN,zC,zB,Br _,Qv b3,Qv b4,by simp[lineZ],Di b1,zS,zS,zS,Di b2⟩
 ·simp only[zD h1,zD h2,zD h3,zD h4,zD h5,zD h6,zD h7,zD h8,yH,xX,vZ,forall_eq_or_imp,forall_eq,yW,wJ,zE]at g2⊢;obtain ⟨b1,b2,b3,b4,b5⟩:=g2;have c:=Im b2;have hb:=T7 b5;exact⟨by simp[Cj,Bm,b1,b3,Aka b2 E,b5,Ho],⟨zM,Ahf _,by simp[lineZ]⟩,⟨by have:=c.1;dsimp only[Cw];omega,c.2⟩,zN,zC,⟨by dsimp only;omega,by dsimp only;omega⟩,Br _,Br _,Br _,by simp[lineZ],Di b1,zS,zS,zS,Di b3⟩
def Ar2(l:LineM)(r:Int):Cj {l with row:=r}=Cj l:=by
 by_cases h1:l.kind=1
 ·simp[Cj,Bm,Mr,h1]
 by_cases h2:l.kind=2
 ·simp[Cj,Bm,Mr,h1,h2]
 by_cases h3:l.kind=3
 ·simp[Cj,Bm,Mr,h1,h2,h3]
 by_cases h4:l.kind=4
 ·simp[Cj,Bm,Mr,h1,h2,h3,h4]
 by_cases h5:l.kind=5
 ·simp[Cj,Bm,Mr,h1,h2,h3,h4,h5]
 by_cases h6:l.kind=6
 ·simp[Cj,Bm,Mr,h1,h2,h3,h4,h5,h6]
 by_cases h7:l.kind=7
 ·simp[Cj,Bm,Mr,h1,h2,h3,h4,h5,h6,h7]
 by_cases h8:l.kind=8
 ·simp[Cj,Bm,Mr,h1,h2,h3,h4,h5,h6,h7,h8]
 by_cases h9:l.kind=9
 ·simp[Cj,Bm,Mr,h1,h2,h3,h4,h5,h6,h7,h8,h9]
 simp[Cj,Bm,Mr,h1,h2,h3,h4,h5,h6,h7,h8,h9]
theorem LineR.row{l:LineM}(h:LineR l)(r:Int):LineR {l with row:=r} :=
 ⟨by rw[Ar2];exact h.right,⟨h.ok.mac,h.ok.addr,h.ok.addrs⟩,h.vlan,h.num,h.cost,h.bits,h.tagged,h.imports,h.exports,h.addrs,h.dev,h.port,h.peer,h.far,h.name⟩
def Sc:∀(rs:List ByteArray) (i:Nat) (out:List LineM),(∀x∈out,LineR x)→∀x∈(Lz i rs out).1,LineR x
 |[],_,_,h=>by rw[Lz];exact h
 |r::rs,i,out,h=>by
  rw[Lz];split
  ·intro x hx;cases hx
  ·split
   ·exact Sc rs (i+1) out h
   ·split
    ·intro x hx;cases hx
    ·rename_i h3;refine Sc rs (i+1) _ λx hx=>?_
     rcases yI.1 hx with hx|hx
     ·exact h x hx
     ·rw[yB.1 hx];exact Aq3 q_
def Xo(b:List UInt8):∀x∈(textT b).1,LineR x:=by
 unfold textT;split
 ·intro x hx;cases hx
 ·exact Sc _ 0 [] y_
end Go.Sy.YticmobkdaneelaaGreatDoor
