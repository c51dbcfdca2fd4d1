/- Parts of a proof. -/
import Derived.Test.YtodbnbfjhjcanaaGreatDoorXA50
import Derived.Test.YtodbnbfjhjcanaaGreatDoorXA45
set_option maxHeartbeats 4000000
set_option linter.all false
namespace Go.Sy.Zaa
open Go.Proofs Go.Proofs.Tryz
attribute [local irreducible]G DR
set_option maxRecDepth 100000
def oB(w r e:Int):Sp 31 [Aa w,Aa r,Aa e] (Zv (Vc w r e)):=cT F31 ntmps31 λF hF=>by
 refine T ?_;exact Ak 6 (cellsOf (Zv (Vc w r e))) E vL D
def Aib:∀(l:List ByteArray) (t:TenM),TenOK t->(∀s∈l,s.size<=40)->t.devs.length+l.length<=1000->t.ports.length+l.length<=1000->TenOK (nI t l).1
 |[],t,h,_,_,_=>h
 |w::l,t,h,hs,hd,hp=>by
  rw[nI];have hw:=hs w qq;have hc:=Ae5 w;split
  .exact⟨by decide,⟨by decide,λs hs=>(by cases hs)⟩,⟨by decide,λs hs=>(by cases hs)⟩⟩
  refine Aib l _ ⟨h.name,⟨by simp at hd|-;omega,λs hx=>?_⟩,⟨by simp at hp|-;omega,λs hx=>?_⟩⟩ (λs hx=>hs s (by simp[hx])) (by simp at hd|-;omega) (by simp at hp|-;omega)
  .rcases yI.1 hx with hx|hx
   .exact h.devs.2 s hx
   .rw[zZ.1 hx];show (cutT 46 w).1.size<=_;omega
  .rcases yI.1 hx with hx|hx
   .exact h.ports.2 s hx
   .rw[zZ.1 hx];show (cutT 46 w).2.1.size<=_;omega
def Aqg:TenOK Afs:=⟨by decide,⟨by decide,λs hs=>(by cases hs)⟩,⟨by decide,λs hs=>(by cases hs)⟩⟩
def Ar9(w:List ByteArray)(row:Int)(hs:∀s∈w,s.size<=40):TenOK (tenantT w row).1:=by
 rw[tenantT];split
 .exact Aqg
 rename_i h;simp only[vW]at h;split
 .exact Aqg
 have h1:wdT w 1=w[1]'z_:=Dk z_;refine Aib _ _ ⟨?_,⟨xX _,λs hs=>(by cases hs)⟩,⟨xX _,λs hs=>(by cases hs)⟩⟩ (λs hx=>hs s (List.mem_of_mem_drop hx)) kO kO;show (wdT w 1).size<=_;rw[h1];have:=hs _ (zI (show 1<w.length by omega));omega
def Vf:∀(rs:List ByteArray) (i:Nat) (out:List TenM),(∀r∈rs,r.size<=20000)->(∀t∈out,TenOK t)->out.length<=10->(∀t∈(Ks i out rs).1,TenOK t)/\(Ks i out rs).1.length<=10
 |[],i,out,_,h,hl=>⟨h,hl⟩
 |r::rs,i,out,hr,h,hl=>by
  have hr':∀x∈rs,x.size<=20000:=λx hx=>hr x (by simp[hx])
  rw[Ks];split
  .exact⟨λt ht=>(by cases ht),by simp⟩
  split
  .exact Vf rs (i+1) out hr' h hl
  split
  .exact⟨λt ht=>(by cases ht),by simp⟩
  split
  .exact⟨λt ht=>(by cases ht),by simp⟩
  refine Vf rs (i+1) _ hr' (λt ht=>?_) kO;rcases yI.1 ht with ht|ht
  .exact h t ht
  .rw[zZ.1 ht];exact Ar9 _ _ (S4 r (hr r qq)).2
def Ady(b:List UInt8):(∀t∈(policyT b).1,TenOK t)/\(policyT b).1.length<=10:=by
 rw[policyT];split
 .exact⟨λt ht=>(by cases ht),by simp⟩
 .exact Vf _ 0 [] (O7 b).2 (λt ht=>(by cases ht)) qq
def A0z(b c:List UInt8)(hb:b.length<=1000000)(hc:c.length<=1000000):Sp 13 [.sl 1 Al b,.sl 1 Al c] (Zv (verifyT b c)):=cT F13 ntmps13 λF hF=>by
 have aa:=verifyT.eq_1 b c;generalize verifyT b c=res at *;have q1:=oZ b hb;have q2:=eK c hc;obtain ⟨hn,hu⟩:=J9 b;have cu:=Aoc b;obtain ⟨lh,bd⟩:=Ady c;generalize netTextT b=nt at *;generalize policyT c=pt at *;obtain ⟨n,zw,ne⟩:=nt;obtain ⟨L,zx,pe⟩:=pt;dsimp only at *;by_cases e1:ne=0;rotate_left
 .have f1:(ne != 0)=true:=by rw[xC];exact e1
  rw[zE e1]at aa;subst aa;refine gB q1 F14 (oB 1 zw ne) F31 ?_;exact D
 have f1:(ne != 0)=false:=by rw[e1];rfl
 rw[zD (λh=>h e1)]at aa;by_cases e2:pe=0;rotate_left
 .have f2:(pe != 0)=true:=by rw[xC];exact e2
  rw[zE e2]at aa;subst aa;refine gB q1 F14 q2 F15 ?_;refine C (oB 2 zx pe) F31 ?_;exact D
 have f2:(pe != 0)=false:=by rw[e2];rfl
 rw[zD (λh=>h e2),lZ]at aa;have q3:=Aro n hn L lh z_;have q4:=leaksS n hn hu (assignT n L).1;have q5:=Al5 n hn (cu e1).1 hu (leaksT n (assignT n L).1).1 (leaksT n (assignT n L).1).2.1;generalize assignT n L=a at *;obtain ⟨ow,wh,zy,ae⟩:=a;dsimp only at *;by_cases e3:ae=0;rotate_left
 .have f3:(ae != 0)=true:=by rw[xC];exact e3
  rw[zE e3]at aa;subst aa;refine gB q1 F14 q2 F15 ?_;refine gI q3 F16 (oB wh zy ae) F31 ?_;exact D
 have f3:(ae != 0)=false:=by rw[e3];rfl
 rw[zD (λh=>h e3)]at aa;generalize leaksT n ow=lk at *;obtain ⟨lf,lt,ll⟩:=lk;dsimp only at *;cases ll
 .rw[zE rfl]at aa;subst aa;refine gB q1 F14 q2 F15 ?_;refine gI q3 F16 q4 F32 ?_;exact Ak 4 (cellsOf (Zv ⟨1,0,0,0,0,0,[]⟩)) E vL D
 .rw[zD (by exact Bool.noConfusion)]at aa;generalize wscriptT n lf lt=sc at *;obtain ⟨sl,se⟩:=sc;dsimp only at *;subst aa;refine gB q1 F14 q2 F15 ?_;refine gI q3 F16 q4 F32 ?_;refine C q5 F33 ?_;exact D
def eW{P:Program}{o:Oper}{s:SS}{t:TypeId}{x:Operand}{f:Nat}{fs:Array Field}{g:Field}{k:EK}{l:List SV}{y:SV}(hu:P.underlying t=some (.struct fs))(h:o.op=.field t x f)(hx:ev s x=.agg l)(hg:fs[f]? = some g)(hk:P.underlying g.type=some k.desc)(ho:g.offset=f)(hy:H6 l f=some y):Good P o s ⟨y,[],[]⟩ :=
 Good.pure λb a w _ hr _=>by
  have h1:=hr x (by simp[h,Op.operands]);rw[hx]at h1;simp only[Rd]at h1;obtain ⟨cs,e1,_,e2⟩:=h1;obtain ⟨v,e3,e4⟩:=e2.getT hy;have hp:=Zt (P:=P) w hk cs.toArray e3;refine⟨v,?_,e4⟩;simp[execOp,h,e1,Instr.field,run_underlying hu,hg,asAgg,ho,hp]
def keptS(b c:List UInt8)(hb:b.length<=1000000)(hc:c.length<=1000000):Sq 7 [.sl 1 Al b,.sl 1 Al c] []
  (if (verifyT b c).kind=1 then .tup [Am (netTextT b).1,.sl 1 Aa (assignT (netTextT b).1 (policyT c).1).1,Ab true] else .tup [Am emptyN,.sl 1 Aa [],Ab false]) []:=cT F7 ntmps7 λF hF=>by
 have q0:=A0z b c hb hc;have q1:=oZ b hb;have q2:=eK c hc;obtain ⟨hn,hu⟩:=J9 b;obtain ⟨lh,bd⟩:=Ady c;have q3:=Aro (netTextT b).1 hn (policyT c).1 lh z_;have hv:=@verify_iso b c;by_cases k1:(verifyT b c).kind=1;rotate_left
 .rw[zD k1];generalize verifyT b c=r at *;have g1:(r.kind != 1)=true:=by rw[xC];exact k1
  obtain ⟨rk,rw_,rr,re,rf,rt,rs⟩:=r;dsimp only at g1;refine gC q0 F13 ?_;refine X (eW Tryz.underlying50 E E E (k:=.int .i64) Tryz.underlying3 E E) ?_;exact Ak 4 (C8 emptyN) E vL (Ao 5 1 Aa E D)
 obtain ⟨e1,e2,e3,-,-⟩:=hv k1;rw[zE k1];generalize verifyT b c=r at *;generalize netTextT b=nt at *;generalize policyT c=pt at *;obtain ⟨n,zw,ne⟩:=nt;obtain ⟨L,zx,pe⟩:=pt;dsimp only at *;generalize assignT n L=a at *;obtain ⟨ow,wh,zy,ae⟩:=a;dsimp only at *;subst e1 e2 e3;have g1:(r.kind != 1)=false:=by rw[k1];rfl
 obtain ⟨rk,rw_,rr,re,rf,rt,rs⟩:=r;dsimp only at g1;refine gC q0 F13 ?_;refine X (eW Tryz.underlying50 E E E (k:=.int .i64) Tryz.underlying3 E E) ?_;refine gI q1 F14 q2 F15 ?_;refine C q3 F16 ?_;exact D
def Ar5:Sp 5 [] (Ab true):=cT F5 ntmps5 λF hF=>by
 have q1:=oZ S8 y_;have q2:=Lh lQ Auo;rw[putTS]at q2;have hn:=(J9 S8).1;have e1:=okTS;have q3:=A1c (netTextT S8).1 hn (Xx e1).2.1.num scrTS Awt;obtain ⟨e2,e3⟩:=runTS;generalize runT (netTextT S8).1 scrTS=r at *;generalize netTextT S8=nt at *;obtain ⟨n,row,e⟩:=nt;obtain ⟨s,e'⟩:=r;dsimp only at *;subst e1 e2;obtain ⟨o,b,rfl⟩:∃o b,s=[⟨1,o,b⟩]:=by
  match s,e3 with
  |[⟨p,o,b⟩],h=>simp only[List.map,List.cons.injEq,and_true]at h;exact⟨o,b,by rw[h]⟩
 refine T ?_;refine X (aU Γ.toTy E E E E E E E) ?_;refine O0 9 Al S8 E E ?_;refine Aj 9 E (C q1 F14 ?_);refine G_vw 16 (C5 lQ) (.agg vL) ?_;refine X (Ad [(0,17)] E F19 q2 E q_ E ⟨.inr E,q_⟩) ?_;refine Aj 17 E (T ?_);refine Aqc 25 (scrTS.map Ca) E (.cons (.agg vL) (.cons (.agg vL) .nil)) E (O0 25 Ca scrTS E E ?_);refine Aj 25 E (C q3 F20 ?_);refine⟨Nat.zero_lt_one,?_⟩;exact gA
def Ar6(b c:List UInt8)(tabs:List (List EntryM))(qx:Ahq tabs)(l:List StepM)(t:Int):Sp 3 [.sl 1 Al b,.sl 1 Al c,.sl 1 Hk tabs,.sl 6 Ca l,Aa t] (Ab true):=cT F3 ntmps3 λF hF=>by
 have qw:=Ar5;by_cases b0:4000<b.length
 .have f0:decide ((b.length:Int)>4000)=true:=zK z_;refine gC qw F5 ?_;exact D
 have f0:decide ((b.length:Int)>4000)=false:=zL z_;by_cases c0:4000<c.length
 .have f1:decide ((c.length:Int)>4000)=true:=zK z_;refine gC qw F5 ?_;exact D
 have f1:decide ((c.length:Int)>4000)=false:=zL z_;have qg:=Azc emptyN tabs l;refine gC qw F5 ?_;refine X (Ao5 [] [] E F6 qg (.cons (.agg vL) (.cons (.refl _) (.cons (.refl _) .nil))) q_ E q_ E) ?_;cases hg:great34B emptyN tabs l with
 |true=>
  exact gA
 |false=>
 refine T ?_;have hgf:=Acv hg;have hf:=Acw hgf.2.1;have xf:ScriptOK l:=⟨by omega,λx hx=>(hf.2 x hx).1⟩
 have ud:∀x∈l,x.up.length<100000:=λx hx=>by have:=(hf.2 x hx).2;omega
 have ht:TabsOK tabs:=⟨hgf.2.2.1,hgf.2.2.2,qx⟩
 clear hg hgf hf;have q0:=keptS b c z_ z_;have hv:=@verify_iso b c;by_cases k1:(verifyT b c).kind=1;rotate_left
 .rw[zD k1]at q0;refine C q0 F7 ?_;exact D
 obtain ⟨e1,-,-,I,hk⟩:=hv k1;rw[zE k1]at q0;have hn:=(J9 b).1;generalize (assignT (netTextT b).1 (policyT c).1).1=of at *;generalize (netTextT b).1=n at *;have wi:=I.B.num;obtain ⟨z1,z2,z3,z4⟩:=Ar4 I hk tabs l t;have z6:ScriptOK (reduceT n of tabs l t).1/\∀x∈(reduceT n of tabs l t).1,x.up.length<100000:=by
  rw[reduceT];split
  .exact Ail xf ud (oC _ _ _ _ _ _) (Aix _ _ _ _ _ _)
  .exact⟨⟨by decide,λx hx=>(by cases hx)⟩,λx hx=>(by cases hx)⟩
 have q1:=Afw n hn wi of tabs ht l xf ud t;have q2:=Adq n hn wi tabs ht l xf;have q3:=Adq n hn wi tabs ht _ z6.1;have s2:=Xp hn wi qx l;have s3:=Xp hn wi qx (reduceT n of tabs l t).1;have l2:=xf.few;have l3:=z6.1.few;generalize reduceT n of tabs l t=re at *;obtain ⟨le,ee⟩:=re;dsimp only at *;subst z1;generalize runTabsT n tabs l=ra at *;generalize runTabsT n tabs le=rb at *;obtain ⟨sa,ea⟩:=ra;obtain ⟨sb,eb⟩:=rb;dsimp only at *;subst z2 z3;have q4:=nP sa ⟨by omega,λx hx=>by have:=s2.2 x hx;omega⟩ of t;have q5:=nP sb ⟨by omega,λx hx=>by have:=s3.2 x hx;omega⟩ of t;by_cases t0:t<0
 .have g2:decide (t<0)=true:=zK t0;refine gI q0 F7 q1 F8 ?_;refine gI q2 F9 q3 F9 ?_;exact D
 have g2:decide (t<0)=false:=zL t0;rw[z4 z_]at q5;have q6:=Awm (Ed sa of t) (by have:=Ade of t sa;omega);refine gI q0 F7 q1 F8 ?_;refine gI q2 F9 q3 F9 ?_;refine gI q4 F11 q5 F11 ?_;refine C q6 F10 ?_;exact D
end Go.Sy.Zaa
