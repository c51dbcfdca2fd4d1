/- Parts of a proof. -/
import Derived.Test.YtedbfemmehbeoaaGreatDoorXC12
import Derived.Test.YtedbfemmehbeoaaGreatDoorXC14
import Derived.Test.YtedbfemmehbeoaaGreatDoorXC15
set_option maxHeartbeats 8000000
set_option linter.all false
namespace Go.Sy.Zaa
open Go.Proofs Go.Proofs.Tryz
section
set_option maxRecDepth 100000
theorem bG.behind{K:Nat->Prop}{a a2:Ka}{w j l:World}(s:En K a w a j)(c:bG ⟨j,a,[]⟩ a2 l):bG ⟨w,a,[]⟩ a2 l where
 size:=wI s.size c.size
 os:=c.os.trans s.os
 tape:=c.tape.trans s.tape
 output:=c.output.trans s.output
 M:=c.M
 ci:=λb o h=>by
  refine(c.ci b (xB o s.size) h).trans ?_;by_cases hm:a.M b
  .exact s.ce b hm
  .exact s.blk b o (λ g=>by
    rcases g with ⟨k,i⟩|g
    .exact h k i
    .exact hm g)
 bc:=λk b i=>by
  rcases c.bc k b i with h|h
  .exact .inl (wI s.size h)
  .exact .inr h
 cc:=c.cc
def A7r{k:Ka}{w:World}(hi:Inv k w):En (λ_=>False) k w k w.drew/\Inv k w.drew:=by
 have g:=Kb.drew w;exact⟨⟨g.size,g.os,g.tape,g.output,q_,λb _=>rfl,λb _ _=>rfl,λ_ _ _ _=>rfl,λ_ _=>rfl,λ_ h=>h.elim,λ_ h=>.inl h⟩,⟨hi.inj,hi.bf,hi.apart,hi.bh⟩⟩
def A55(n:Ai)(hn:n.Fin)(up fw:List Bool):Sq 223 [.ptr 1 1,.clo (.func 246) [] [.ptr 3 0,.ptr 2 0]] (lI n up 0 0 fw) (.tup []) (lI n up 1 0 (X9 n up)):=by
 intro m w vs hi ay j5 o;have o1:=o (1,.box (At7 up 0 0 fw)) (by simp[lI]);have o2:=o (2,.box [.ptr 1 0]) (by simp[lI]);have o3:=o (3,.box (Eo n)) (by simp[lI]);obtain ⟨b,r,c1,c2,st1,i,xe⟩:=H9 (off:=2) (x:=.val (.int .i32 1)) (v:=.int .i32 1) hi o1 rfl (λ _ _=>by simp only[Rd]) rfl;obtain ⟨b2,_,_,_,e2,_⟩:=id o2;obtain ⟨b3,_,_,_,e3,_⟩:=id o3;simp only[B8,Rd,r,e2,e3]at j5;obtain ⟨v0,r0,rfl,rfl,v1,r1,rfl,⟨fs,cs,rfl,kw,mj⟩,rfl⟩:=j5;subst kw;obtain ⟨p3,q3,rfl,rfl,p2,q2,rfl,rfl,rfl⟩:=mj;have gu:=A56 n hn up fw 0 1 m (w.setCell ⟨b,2,none⟩ (.int .i32 1)) [.pointer (some ⟨b3,0,none⟩),.pointer (some ⟨b2,0,none⟩)] i ay (by simp only[B8,Rd,e2,e3];exact⟨_,_,rfl,rfl,_,_,rfl,rfl,rfl⟩) (λ p hp=>by
  simp only[lI,yH,xJ,vH]at hp;rcases hp with rfl|rfl|rfl
  .exact xe
  .exact B3.step st1 (show ¬(2:Nat)=1 by decide) _ o2
  .exact B3.step st1 (show ¬ (3:Nat)=1 by decide) _ o3)
 obtain ⟨u1,j,t⟩:=c1 1 (.val (.int .u32 0)) rfl;obtain ⟨u2,rz,I⟩:=c1 2 (.val (.int .i32 0)) rfl;rw[t.val]at j;rw[I.val]at rz;have f1:=c2 1 (show 1<5 by decide);have f2:=c2 2 (show 2<5 by decide);have hl:=Bbp ⟨b,1,none⟩ 0 (w.setCell ⟨b,2,none⟩ (.int .i32 1)) ((World.cell?_setCell_other _ ⟨b,2,none⟩ ⟨b,1,none⟩ _ qx).trans j);have a0:∀(x:Bool) (w:World),(Op.unary .not (.bool x)).run a6 w=.ok (.bool (!x)) w:=λ_ _=>rfl
 go_enter_defers func223,ntmps223
 go_wp2_with (first|(go_at_call 278;refine(A6x ⟨b,2,none⟩ _ (by assumption) (by assumption)).mono ?_;rintro e w' ⟨rfl,rfl⟩)|(go_at_call 246;refine gu.mono ?_;rintro e w' ⟨v,m2,rfl,kv,jg,J,P⟩)|(go_at_call 222;go_in))
 have R:=P (1,.box (At7 up 0 1 (X9 n up))) (by simp[lI]);have k1:m2 1=.blk b:=by
  obtain ⟨bb,_,_,_,q1,_⟩:=id R;rcases kv.cc 1 (by rw[r];intro h;cases h) with h|h
  .rw[h];exact r
  .rw[h]at q1;cases q1
 obtain ⟨ba,g,a2,a3,_,_,_⟩:=H9 (off:=1) (x:=.val (.int .u32 1)) (v:=.int .u32 1) jg R rfl (λ_ _=>by simp only[Rd]) rfl;rw[k1]at g;cases g;obtain ⟨l,xf⟩:=A7r jg;have p2:=B3.step l (k:=1) (λh=>h) _ R;obtain ⟨ba,g,_,_,st3,xg,xh⟩:=H9 (off:=1) (x:=.val (.int .u32 1)) (v:=.int .u32 1) xf p2 rfl (λ_ _=>by simp only[Rd]) rfl;rw[k1]at g;cases g;have xh:B3 m2 (w'.drew.setCell ⟨b,1,none⟩ (.int .u32 1)) 1 (.box (At7 up 1 1 (X9 n up))):=xh;obtain ⟨ba,g,a4,a5,st4,sa,xi⟩:=H9 (off:=2) (x:=.val (.int .i32 0)) (v:=.int .i32 0) xg xh rfl (λ_ _=>by simp only[Rd]) rfl;rw[k1]at g;cases g;have xi:B3 m2 ((w'.drew.setCell ⟨b,1,none⟩ (.int .u32 1)).setCell ⟨b,2,none⟩ (.int .i32 0)) 1 (.box (At7 up 1 0 (X9 n up))):=xi;obtain ⟨v1,v7,t⟩:=a2 1 (.val (.int .u32 0)) rfl;rw[t.val]at v7;obtain ⟨v2,J,I⟩:=a4 2 (.val (.int .i32 1)) rfl;rw[I.val]at J;refine leaves_cons (f:=280) (args:=#[.pointer (some ⟨b,1,none⟩),.bool true]) qx (by simp[go_sem]) ?_;refine(Ah2 ⟨b,1,none⟩ (.int .u32 0) .returning _ v7 (a3 1 (show 1<5 by decide))).mono ?_;rintro e u' y9 ⟨rfl,rfl,rfl⟩;refine leaves_cons (f:=279) (args:=#[.pointer (some ⟨b,2,none⟩)]) (by simp[settle]) (by simp[go_sem]) ?_;refine(Ag0 ⟨b,2,none⟩ _ _ J (a5 2 (show 2<5 by decide))).mono ?_;rintro e u' y9 ⟨rfl,rfl,rfl⟩;have ck:En (·=1) m2 w' m2 ((w'.drew.setCell ⟨b,1,none⟩ (.int .u32 1)).setCell ⟨b,2,none⟩ (.int .i32 0)):=(l.weaken (λ_ h=>h.elim)).trans (st3.trans st4);refine⟨.tuple #[],by simp[results,Tryz.results223],.tuple #[],m2,q_,bG.behind st1 (kv.step sa ck),sa,⟨[],q_,q_⟩,λp hp=>?_⟩;simp only[lI,yH,xJ,vH]at hp;rcases hp with rfl|rfl|rfl
 .exact xi
 .exact B3.step ck (show ¬(2:Nat)=1 by decide) _ (P (2,.box [.ptr 1 0]) (by simp[lI]))
 .exact B3.step ck (show ¬(3:Nat)=1 by decide) _ (P (3,.box (Eo n)) (by simp[lI]))
attribute [local irreducible]G DR
def Adj(n:Ai)(up:List Bool)(d:Bool):It:=[(1,.box (Sx n up d)),(2,.box [.ptr 1 0]),(3,.box (Eo n))]
def Be3(n:Ai)(g:n.Fin)(up:List Bool):Sq 151 [.ptr 1 1,.clo (.func 246) [] [.ptr 3 0,.ptr 2 0]] (Adj n up false) (.tup []) (Adj n up true):=cT F151 ntmps151 λF l=>by
 have i:Sq 222 [.ptr 1 1] (Adj n up false) (Ab false) (Adj n up false):=Anh n up [] 0 0;have j:Sq 223 [.ptr 1 1,.clo (.func 246) [] [.ptr 3 0,.ptr 2 0]] (Adj n up false) (.tup []) (Adj n up true):=A55 n g up []
 conv=>whnf
 refine Al (Ad [] q_ F222 i q_ kA q_ kB) q_ q_ (oT ?_);refine Al (Ad [] q_ F223 j q_ kA q_ kB) q_ q_ (oO ?_);exact Bf q_ .nil [] (Adj n up true) (λ_ h=>h) q_ q_ kU
def Be2(n:Ai)(up:List Bool):Sq 151 [.ptr 1 1,.clo (.func 246) [] [.ptr 3 0,.ptr 2 0]] (Adj n up true) (.tup []) (Adj n up true):=cT F151 ntmps151 λF i=>by
 have g:Sq 222 [.ptr 1 1] (Adj n up true) (Ab true) (Adj n up true):=Anh n up (X9 n up) 1 0
 conv=>whnf
 refine Al (Ad [] q_ F222 g q_ kA q_ kB) q_ q_ (oF ?_);exact Bf q_ .nil [] (Adj n up true) (λ_ h=>h) q_ q_ kU
def Be1(n:Ai)(g:n.Fin)(up:List Bool)(d:Bool):Sq 151 [.ptr 1 1,.clo (.func 246) [] [.ptr 3 0,.ptr 2 0]] (Adj n up d) (.tup []) (Adj n up true):=by
 cases d
 .exact Be3 n g up
 .exact Be2 n up
def A49(n:Ai)(g:n.Fin)(up:List Bool)(d:Bool):Sq 168 [.ptr 1 0,Aq n] [(1,.box (Sx n up d))] (.sl 1 Ab (X9 n up)) [(1,.box (Sx n up true))]:=cT F168 ntmps168 λF i=>by
 conv=>whnf
 refine Al (Ad [] q_ F151 (Be1 n g up d) q_ kA q_ kB) q_ q_ (oO ?_);exact done q_ As [] [(1,.box (Sx n up true))] (λ_ h=>h) q_ q_ kU
end
section
def Agn{n:Ai}{fw:List Bool}{t:List Bc}{dom:Int}{q:B0}{now:Int}(g:U4 t)(i:Ku q):U4 (Hz n fw t dom q now).1:=by
 unfold Hz;split
 .exact Aer
 split
 .split
  .exact fK g i now
  .exact fK g i now
 .exact fK g i now
def eL{n:Ai}(_hn:n.Fin)(l:n.Num){fw:List Bool}{t:List Bc}{dom:Int}{q:B0}{now:Int}(r:Ku q):∀o∈(Hz n fw t dom q now).2.1,Ale n o:=by
 intro o g;unfold Hz at g;split at g
 .cases g
 rename_i I;have P:Ac n=true:=by
  cases J:Ac n
  .exact zW (.inl (by unfold aQ;rw[J];simp)) I
  .rfl
 split at g
 .split at g
  .cases g
  .rename_i i;have i:=Decidable.not_not.1 i;have j:∀(d:Int),(Cu n (Ie n dom q.frame.dst).1 d).2=true->0<=(Cu n (Ie n dom q.frame.dst).1 d).1/\(Cu n (Ie n dom q.frame.dst).1 d).1.toNat<n.r.length:=λd h=>cZ h
   rw[zX.1 g];exact⟨by dsimp only;omega,by simp,λ_=>⟨Bfh n l _ _ j,Avp j i⟩,λh=>by dsimp only at h;omega⟩
 .rcases yJ.1 g with h|h
  .obtain ⟨p,_,rfl⟩:=yT.1 h;unfold Ab7;exact Auu (by dsimp only;split<;>omega) (Al7 _ _ _ _ r.frame) (A0d _ _ _ _)
  .obtain ⟨p,_,rfl⟩:=yT.1 h;unfold Aeq;exact Auu (by dsimp only;omega) (by have:=Aqn n dom p q.frame;omega) (A6n _ _ _ _)
def eM{n:Ai}(g:n.Fin)(fw:List Bool)(t:List Bc)(dom:Int)(q:B0)(now:Int):(Hz n fw t dom q now).2.1.length<4294967296:=by
 unfold Hz;split
 .show (0:Nat)<4294967296;decide
 split
 .split
  .show (0:Nat)<4294967296;decide
  .show (1:Nat)<4294967296;decide
 .have:=Akn g fw (Sb t q now) dom q.ba q.frame.dst;simp only[zR,yS];omega
def Ac3(n:Ai)(origin:Int):∀(a b:List My) (m:B4),goesL n m origin (a++b)=((goesL n (goesL n m origin a).1 origin b).1,(goesL n m origin a).2++(goesL n (goesL n m origin a).1 origin b).2)
 |[],b,m=>by simp[goesL]
 |o::a,b,m=>by
  rw[wF,goesL,goesL,Ac3 n origin a b];simp
def Aal(n:Ai)(m:B4)(origin:Int)(l:List My)(j:Nat)(g:j<l.length):goesL n m origin (l.take (j+1))=((Ii n (goesL n m origin (l.take j)).1 l[j] origin).1,(goesL n m origin (l.take j)).2++(Ii n (goesL n m origin (l.take j)).1 l[j] origin).2):=by
 rw[zZ g,Ac3];simp[goesL]
def fP(n:Ai)(m:B4)(o:My)(origin:Int):(Ii n m o origin).2.length<=1:=by
 unfold Ii;split
 .simp
 split
 .simp
 split
 .simp
 split<;>simp
def Y0(n:Ai)(origin:Int):∀(l:List My) (m:B4),(goesL n m origin l).2.length<=l.length
 |[],m=>by simp[goesL]
 |o::l,m=>by
  rw[goesL];have g:=Y0 n origin l (Ii n m o origin).1;have i:=fP n m o origin;simp only[zR,yI];omega
attribute [local irreducible]G DR
set_option maxRecDepth 100000
def Aty{n:Ai}{m:B4}{J D:Int}(h:D8 n m J D)(g:0<=D)(dom:Int){r:List Bc×List My×Int}(i:U4 r.1):D8 n (Xf m dom r) J (D+1):=by
 unfold Xf;split
 .exact eD h g 2
 split
 .exact eD (A2r h dom i) g _
 .exact(A2r h dom i).mono (wB _) j_
def queL(q:B0):List SV:=[Aa q.ba,Aa q.peer,Aa q.ad,B1 q.frame.dst,B1 q.frame.src,Aa q.frame.au,.sl 1 Ae q.frame.body]
def Bah(n:Ai)(m:B4)(q:B0)(l:List Kt):It:=[(0,.box (bA n 1 m.ay m.af m.ap)),(1,.box (Sx n m.up true)),(2,.row 1 U1 m.al),(3,.row 1 Ym m.ai),(7,.box (queL q)),(1000,.row 3 Im l)]
def A9s(n:Ai)(hn:n.Fin)(bq:n.Num)(m:B4)(d:Bool)(J D:Int)(ax:D8 n m J D)(p7:0<=D)(hD:D<=900000000000)(dom at_:Int):Sq 81 [.ptr 0 0,Aa dom,Aa at_] (I5 n m d) (.sl 3 Im (T5 n m dom at_).2) (I5 n (T5 n m dom at_).1 (if (C5 m dom at_).2.2 then true else d)):=cT F81 ntmps81 λF hF=>by
 have P:=T5.eq_1 n m dom at_;generalize T5 n m dom at_=a4 at *;have q1:=Asz n m d dom at_ (M1 ax dom);have R:=Abg ax dom at_;have bd:(C5 m dom at_).2.2=true->0<=dom/\dom.toNat<m.ai.length:=λh=>by
  unfold C5 at h;split at h
  .cases h
  .rename_i h2;exact Ta.1 (by cases hx:Am dom m.ai.length;exact zW hx h2;rfl)
 have nz:(C5 m dom at_).1.al=m.al:=by unfold C5;split<;>rfl
 generalize C5 m dom at_=r at *;obtain ⟨g,q,ok⟩:=r;have a3:m.ai.length=m.al.length:=by rw[ax.bv,ax.ca]
 conv=>whnf
 refine Al (Ad [] q_ F82 q1 q_ kA q_ kB) q_ q_ (oO ?_);cases ok
 .rw[zE rfl]at P;subst P
  (refine⟨λ_=>?_,λh=>False.elim (by simp at h)⟩;refine rg ?_;conv=>whnf)
  refine Ar 6 3 Im q_ ?_;exact done q_ As [] (I5 n g d) (λ_ h=>h) q_ q_ kU
 rw[zD qx]at P;have hd:=bd rfl;have jr:0<=dom/\dom.toNat<g.al.length:=by rw[nz,<-a3];exact hd
 dsimp only at P R;have q2:=A49 n hn g.up d;have q3:=Awt n hn bq (X9 n g.up) (Uk g dom) dom q g.ay (Ad8 R.1 dom) R.2;have ff:=Agn (n:=n) (fw:=X9 n g.up) (dom:=dom) (now:=g.ay) (Ad8 R.1 dom) R.2;have d6:=eL (fw:=X9 n g.up) (t:=Uk g dom) (dom:=dom) (now:=g.ay) hn bq R.2;have a1:=eM hn (X9 n g.up) (Uk g dom) dom q g.ay;have a0:=Aws n (X9 n g.up) (Uk g dom) dom q g.ay;rw[lZ]at P;have I:=Aty R.1 p7 dom ff;generalize Hz n (X9 n g.up) (Uk g dom) dom q g.ay=b at *;obtain ⟨t,out,e⟩:=b;have d6:∀o∈out,Ale n o:=d6;have a1:out.length<4294967296:=a1;have a0:Dg e:=a0;have a2:=Uk.eq_1 g dom;rw[Ahm jr.2]at a2;generalize Uk g dom=t0 at *;subst a2
 (refine⟨λh=>False.elim (by simp at h),λ_=>?_⟩;refine rg ?_;conv=>whnf)
 refine C6 (Ad [] q_ F168 q2 q_ ⟨q_,z_⟩ q_ ⟨.inl q_,z_⟩) y_ q_ (oD ?_);refine⟨jr.1,jr.2,?_⟩
 conv=>whnf
 refine⟨q_,jr.2,?_⟩
 conv=>whnf
 refine cD q3 F167 (gO ?_);constructor<;>intro h
 .have h2:¬e=2:=by simpa using h
  clear h;refine oO ?_;refine⟨jr.1,jr.2,?_⟩
  conv=>whnf
  refine⟨q_,jr.2,t,q_,q_,?_⟩
  conv=>whnf
  constructor<;>intro h
  .have h3:¬e=0:=by simpa using h
   clear h;have ue:Xf g dom (t,out,e)=Et (M0 g dom t) e:=by
    unfold Xf;rw[zD h2,zE h3]
   rw[ue]at P I;subst P;have q4:=Av9 n (M0 g dom t) true e a0.1 a0.2 ⟨(R.1.bo _).1,by have:=(R.1.bo e.toNat).2;show g.ap e.toNat<=1000000000000;omega⟩;refine oO ?_;refine Al (Ad [] q_ F169 q4 q_ kA q_ kB) q_ q_ (oO ?_);have fg:lA (Et (M0 g dom t) e):=λi=>⟨(I.bo i).1,by have:=(I.bo i).2;omega⟩
   refine Ct 12 1000 3 Im q_ q_ ?_;refine Bl out.length (λj=>[(0,.ptr 0 0),(7,.ptr 7 0),(12,.osl 1000),(69,.sl 9 Lo out),(70,Aa out.length),(71,Aa j)]) (λj=>Bah n (goesL n (Et (M0 g dom t) e) q.ad (out.take j)).1 q (goesL n (Et (M0 g dom t) e) q.ad (out.take j)).2) [] kU ?_;intro j hj;refine gI ?_ ?_<;>intro h
   .have p:j<out.length:=qA h;have ai:(j:Int).toNat<out.length:=kS p;obtain ⟨o,eo⟩:=kE (out[j]);have e1:out[(j:Int).toNat]'ai=o:=eo;have hs:=Aal n (Et (M0 g dom t) e) q.ad out j p;rw[eo]at hs;have sf:=dW hn q.ad (out.take j) I j_ (λx hx=>d6 x (wK hx));have l:(out.take j).length=j:=by rw[zY];omega
    rw[l]at sf;have ny:=Y0 n q.ad (out.take j) (Et (M0 g dom t) e);rw[l]at ny;have q5:=Aia n hn (goesL n (Et (M0 g dom t) e) q.ad (out.take j)).1 true J _ sf j_ o (d6 o (by rw[<-eo];exact zI p)) q.ad;have js:=fP n (goesL n (Et (M0 g dom t) e) q.ad (out.take j)).1 o q.ad;clear h;refine oO ?_;refine⟨q_,by omega,ai,?_⟩;rw[e1]
    conv=>whnf
    refine Al (Ad [] q_ F170 q5 q_ kA q_ kB) q_ q_ (oO ?_);refine Al (Ah Γ.toTy 81 q_ q_ q_ q_ q_ (.row q_) .sl qx j_ j_) q_ q_ (gG ?_);have g1:(goesL n (Et (M0 g dom t) e) q.ad (out.take (j+1))).1=(Ii n (goesL n (Et (M0 g dom t) e) q.ad (out.take j)).1 o q.ad).1:=by rw[hs]
    have g2:(goesL n (Et (M0 g dom t) e) q.ad (out.take (j+1))).2=(goesL n (Et (M0 g dom t) e) q.ad (out.take j)).2++(Ii n (goesL n (Et (M0 g dom t) e) q.ad (out.take j)).1 o q.ad).2:=by rw[hs]
    refine A9 [(1000,81)] p ⟨kA,?_,q_,q_⟩;dsimp only;rw[g1,g2];exact⟨.inl q_,q_,.inl q_,q_,.inl q_,q_,.inl q_,q_,.inl q_,q_,.inl q_,q_,z_⟩
   .have jh:j=out.length:=qB h;subst jh;rw[yM];clear h;refine oO ?_;refine Ao 1000 q_ ?_;exact done q_ As [] (I5 n (goesL n (Et (M0 g dom t) e) q.ad out).1 true) (λ_ h=>h) q_ q_ kU
  .have h3:e=0:=by simpa using h
   clear h;have ue:Xf g dom (t,out,e)=M0 g dom t:=by
    unfold Xf;rw[zD h2,zD (λh=>h h3)]
   rw[ue]at P I;subst P;refine oO ?_;have fg:lA (M0 g dom t):=λi=>⟨(I.bo i).1,by have:=(I.bo i).2;omega⟩
   refine Ct 12 1000 3 Im q_ q_ ?_;refine Bl out.length (λj=>[(0,.ptr 0 0),(7,.ptr 7 0),(12,.osl 1000),(69,.sl 9 Lo out),(70,Aa out.length),(71,Aa j)]) (λj=>Bah n (goesL n (M0 g dom t) q.ad (out.take j)).1 q (goesL n (M0 g dom t) q.ad (out.take j)).2) [] kU ?_;intro j hj;refine gI ?_ ?_<;>intro h
   .have p:j<out.length:=qA h;have ai:(j:Int).toNat<out.length:=kS p;obtain ⟨o,eo⟩:=kE (out[j]);have e1:out[(j:Int).toNat]'ai=o:=eo;have hs:=Aal n (M0 g dom t) q.ad out j p;rw[eo]at hs;have sf:=dW hn q.ad (out.take j) I j_ (λx hx=>d6 x (wK hx));have l:(out.take j).length=j:=by rw[zY];omega
    rw[l]at sf;have ny:=Y0 n q.ad (out.take j) (M0 g dom t);rw[l]at ny;have q5:=Aia n hn (goesL n (M0 g dom t) q.ad (out.take j)).1 true J _ sf j_ o (d6 o (by rw[<-eo];exact zI p)) q.ad;have js:=fP n (goesL n (M0 g dom t) q.ad (out.take j)).1 o q.ad;clear h;refine oO ?_;refine⟨q_,by omega,ai,?_⟩;rw[e1]
    conv=>whnf
    refine Al (Ad [] q_ F170 q5 q_ kA q_ kB) q_ q_ (oO ?_);refine Al (Ah Γ.toTy 81 q_ q_ q_ q_ q_ (.row q_) .sl qx j_ j_) q_ q_ (gG ?_);have g1:(goesL n (M0 g dom t) q.ad (out.take (j+1))).1=(Ii n (goesL n (M0 g dom t) q.ad (out.take j)).1 o q.ad).1:=by rw[hs]
    have g2:(goesL n (M0 g dom t) q.ad (out.take (j+1))).2=(goesL n (M0 g dom t) q.ad (out.take j)).2++(Ii n (goesL n (M0 g dom t) q.ad (out.take j)).1 o q.ad).2:=by rw[hs]
    refine A9 [(1000,81)] p ⟨kA,?_,q_,q_⟩;dsimp only;rw[g1,g2];exact⟨.inl q_,q_,.inl q_,q_,.inl q_,q_,.inl q_,q_,.inl q_,q_,.inl q_,q_,z_⟩
   .have jh:j=out.length:=qB h;subst jh;rw[yM];clear h;refine oO ?_;refine Ao 1000 q_ ?_;exact done q_ As [] (I5 n (goesL n (M0 g dom t) q.ad out).1 true) (λ_ h=>h) q_ q_ kU
 .have h2:e=2:=by simpa using h
  clear h;subst h2;have ue:Xf g dom (t,out,2)=Et g 2:=by
   unfold Xf;rw[zE rfl]
  rw[ue]at P I;subst P;have q4:=Av9 n g true 2 qq qq ⟨(R.1.bo _).1,by have:=(R.1.bo (Int.toNat 2)).2;omega⟩;refine oT ?_;refine Al (Ad [] q_ F169 q4 q_ kA q_ kB) q_ q_ (oO ?_);have fg:lA (Et g 2):=λi=>⟨(I.bo i).1,by have:=(I.bo i).2;omega⟩
  refine Ct 12 1000 3 Im q_ q_ ?_;refine Bl out.length (λj=>[(0,.ptr 0 0),(7,.ptr 7 0),(12,.osl 1000),(69,.sl 9 Lo out),(70,Aa out.length),(71,Aa j)]) (λj=>Bah n (goesL n (Et g 2) q.ad (out.take j)).1 q (goesL n (Et g 2) q.ad (out.take j)).2) [] kU ?_;intro j hj;refine gI ?_ ?_<;>intro h
  .have p:j<out.length:=qA h;have ai:(j:Int).toNat<out.length:=kS p;obtain ⟨o,eo⟩:=kE (out[j]);have e1:out[(j:Int).toNat]'ai=o:=eo;have hs:=Aal n (Et g 2) q.ad out j p;rw[eo]at hs;have sf:=dW hn q.ad (out.take j) I j_ (λx hx=>d6 x (wK hx));have l:(out.take j).length=j:=by rw[zY];omega
   rw[l]at sf;have ny:=Y0 n q.ad (out.take j) (Et g 2);rw[l]at ny;have q5:=Aia n hn (goesL n (Et g 2) q.ad (out.take j)).1 true J _ sf j_ o (d6 o (by rw[<-eo];exact zI p)) q.ad;have js:=fP n (goesL n (Et g 2) q.ad (out.take j)).1 o q.ad;clear h;refine oO ?_;refine⟨q_,by omega,ai,?_⟩;rw[e1]
   conv=>whnf
   refine Al (Ad [] q_ F170 q5 q_ kA q_ kB) q_ q_ (oO ?_);refine Al (Ah Γ.toTy 81 q_ q_ q_ q_ q_ (.row q_) .sl qx j_ j_) q_ q_ (gG ?_);have g1:(goesL n (Et g 2) q.ad (out.take (j+1))).1=(Ii n (goesL n (Et g 2) q.ad (out.take j)).1 o q.ad).1:=by rw[hs]
   have g2:(goesL n (Et g 2) q.ad (out.take (j+1))).2=(goesL n (Et g 2) q.ad (out.take j)).2++(Ii n (goesL n (Et g 2) q.ad (out.take j)).1 o q.ad).2:=by rw[hs]
   refine A9 [(1000,81)] p ⟨kA,?_,q_,q_⟩;dsimp only;rw[g1,g2];exact⟨.inl q_,q_,.inl q_,q_,.inl q_,q_,.inl q_,q_,.inl q_,q_,.inl q_,q_,z_⟩
  .have jh:j=out.length:=qB h;subst jh;rw[yM];clear h;refine oO ?_;refine Ao 1000 q_ ?_;exact done q_ As [] (I5 n (goesL n (Et g 2) q.ad out).1 true) (λ_ h=>h) q_ q_ kU
def A4i(l:List (List Bc))(now:Int)(j:Nat)(o:j<l.length):((l.take j).map (λt=>Ak7 t now)++l.drop j).set j (Ak7 l[j] now)=(l.take (j+1)).map (λt=>Ak7 t now)++l.drop (j+1):=by
 apply tL
 .simp only[yO,zR,yS,zY,yP];omega
 intro i g p;simp only[yO,zR,yS,zY,yP]at g;rw[uC];by_cases hi:j=i
 .subst hi;rw[zE rfl,yZ kO];simp
 .rw[zD hi];by_cases r:i<j
  .rw[yZ kO,yZ kO];simp
  .rw[xW kO,xW kO];simp only[vS,yS,zY];congr 1;omega
def A69{P:Program}{o:Oper}{s:SS}{x y:Operand}{at_:Array TypeId}{k g:IntKind}{m n r:Int}(i:(if n<m then n else m)=r)(h:o.op=.call ⟨.builtin .min,#[x,y],at_⟩)(j:ev s x=.val (.int k m))(l:ev s y=.val (.int g n)):Good P o s ⟨.val (.int k r),[],[]⟩:=by
 have:=dU (P:=P) h j l;rwa [i]at this
def Ahe(l:List (List Bc))(now:Int)(j:Nat):List (List Bc):=(l.take j).map (λt=>Ak7 t now)++l.drop j
def Bdk(l:List (List Bc))(now:Int)(j:Nat)(g:j<l.length)(i:j<(Ahe l now j).length):(Ahe l now j)[j]=l[j]:=by
 have h:(Ahe l now j)[j]? = l[j]?:=by
  unfold Ahe;have hm:min j l.length=j:=by omega
  rw[wD kO,List.getElem?_drop,yS,zY,hm,uU,uO]
 rw[zT g,zT i]at h;exact Option.some.inj h
def Aw6(l:List (List Bc))(now:Int)(j:Nat):(Ahe l now j).length=l.length:=by
 unfold Ahe;simp only[zR,yS,zY,yP];omega
def tickO(n:Ai)(m:B4)(d:Bool)(now:Int)(j:Nat):It:=[(0,.box (bA n 1 now m.af m.ap)),(1,.box (Sx n m.up d)),(2,.row 1 U1 (Ahe m.al now j)),(3,.row 1 Ym m.ai)]
def A9r(n:Ai)(m:B4)(d:Bool)(J D:Int)(p:D8 n m J D)(l:At n.c):Sq 83 [.ptr 0 0] (I5 n m d) (.tup []) (I5 n (lO m) d):=cT F83 ntmps83 λF hF=>by
 unfold At at l;have I:=p.ay;have nz:m.al.length<2147483648:=by rw[p.ca];exact l
 have gh:=p.ck;obtain ⟨g,P⟩:=kE ((if 1099511627776<m.ay+1 then 1099511627776 else m.ay+1));have fc:lO m=⟨m.up,Ahe m.al g m.al.length,m.ai,g,m.af,m.ap⟩:=by
  have:min (m.ay+1) 1099511627776=g:=by rw[<-P];split<;>omega
  unfold lO Ahe;rw[this,yM,wO,yV]
 rw[fc]
 conv=>whnf
 refine iW ?_;refine Al (A69 P q_ q_ q_) q_ q_ (oO ?_);refine Bl m.al.length (λj=>[(0,.ptr 0 0),(16,.osl 2),(17,Aa m.al.length),(18,Aa j)]) (λj=>tickO n m d g j) [] kU ?_;intro j hj;refine gI ?_ ?_<;>intro h
 .have i:j<m.al.length:=qA h;have R:=Aw6 m.al g j;have o:(j:Int).toNat<(Ahe m.al g j).length:=by rw[R];simpa using i
  obtain ⟨t,r⟩:=kE (m.al[j]);have e1:(Ahe m.al g j)[(j:Int).toNat]'o=t:=(Bdk m.al g j i (by rw[R];exact i)).trans r;have l:=A4i m.al g j i;rw[r]at l;have ht:=gh t (by rw[<-r];exact zI i);clear h;refine oO ?_;refine⟨by omega,o,?_⟩
  conv=>whnf
  refine⟨q_,o,?_⟩;rw[e1]
  conv=>whnf
  refine cD (Beg t g ht.cb ht.an) F171 (oD ?_);refine⟨by omega,o,?_⟩
  conv=>whnf
  refine⟨q_,o,Ak7 t g,q_,q_,?_⟩
  conv=>whnf
  refine kW ?_;refine iW ?_;exact A9 [] i ⟨kA,⟨.inl q_,q_,.inl q_,q_,.inl (zH (Ob.row 1 U1) l.symm),q_,.inl q_,q_,z_⟩,q_,q_⟩
 .have jh:j=m.al.length:=qB h;subst jh;clear h;refine oO ?_;exact Bf q_ .nil [] (I5 n ⟨m.up,Ahe m.al g m.al.length,m.ai,g,m.af,m.ap⟩ d) (λ_ h=>h) q_ q_ kU
def As0(n:Ai)(m:B4)(d:Bool):It:=[(0,.box (bA n 4 m.ay m.af m.ap)),(1,.non),(2,.row 1 U1 m.al),(3,.row 1 Ym m.ai),(4,.box (Sx n m.up d))]
def upT(m:B4)(up:List Bool):B4:=⟨up,m.al,m.ai,m.ay,m.af,m.ap⟩
def doD(n:Ai)(m:B4)(d:Bool)(x:B7):Bool :=
 if x.kind=1 then d else if x.kind=2 then (if (C5 m x.l x.az).2.2 then true else d) else if x.kind=3 then d else if x.kind=4 then d else if x.kind=5 then (if x.up.length=n.x.length then false else d) else d
def Ayw(n:Ai)(p:n.Fin)(I:n.Num)(m:B4)(d:Bool)(J D:Int)(r:D8 n m J D)(hJ:J<900000000000)(P:0<=D)(R:D<=900000000000)(x:B7)(hb:x.bytes.length<100000):Sq 42 [.ptr 0 0,Dm x] (I5 n m d) (.tup [.sl 3 Im (fS n m x).2,Aa 0]) (As0 n (fS n m x).1 (doD n m d x)):=cT F42 ntmps42 λF hF=>by
 have g:=fS.eq_1 n m x;generalize fS n m x=a0 at *;have i:=doD.eq_1 n m d x;generalize doD n m d x=l at *
 conv=>whnf
 refine Al (Ac1 (d:=900) q_ q_ q_) q_ q_ (oF ?_);constructor<;>intro h
 .have j:x.kind=1:=by simpa using h
  rw[zE j]at g i;subst g;subst i;have o:=Ayv n p m l J D r j_ j_ x.ac x.bytes hb;refine oO ?_;refine Al (Ad [] q_ F80 o q_ kA q_ kB) q_ q_ (oO ?_);refine Ar 4 3 Im q_ (Vs 1 4 q_ q_ qq ?_);exact done q_ (.cons .tmp As) [] (As0 n (M4 n m x.ac x.bytes) l) (λ_ h=>h) q_ q_ kU
 have j:¬x.kind=1:=kS h;rw[zD j]at g i;clear h;refine gI ?_ ?_<;>intro h
 .have j:x.kind=2:=by simpa using h
  rw[zE j]at g i;subst g;have o:=A9s n p I m d J D r P R x.l x.az;rw[<-i]at o;refine oO ?_;refine Al (Ad [] q_ F81 o q_ kA q_ kB) q_ q_ (oO ?_);refine Vs 1 4 q_ q_ qq ?_;exact done q_ (.cons .tmp As) [] (As0 n (T5 n m x.l x.az).1 l) (λ_ h=>h) q_ q_ kU
 have j:¬x.kind=2:=kS h;rw[zD j]at g i;clear h;refine gI ?_ ?_<;>intro h
 .have j:x.kind=3:=by simpa using h
  rw[zE j]at g i;subst g;subst i;have o:=Asz n m l x.l x.az (M1 r _);refine oO ?_;refine Al (Ad [] q_ F82 o q_ kA q_ kB) q_ q_ (oO ?_);refine Ar 4 3 Im q_ (Vs 1 4 q_ q_ qq ?_);exact done q_ (.cons .tmp As) [] (As0 n (C5 m x.l x.az).1 l) (λ_ h=>h) q_ q_ kU
 have j:¬x.kind=3:=kS h;rw[zD j]at g i;clear h;refine gI ?_ ?_<;>intro h
 .have j:x.kind=4:=by simpa using h
  rw[zE j]at g i;subst g;subst i;have o:=A9r n m l J D r p.c;refine oO ?_;refine Al (Ad [] q_ F83 o q_ kA q_ kB) q_ q_ (oO ?_);refine Ar 4 3 Im q_ (Vs 1 4 q_ q_ qq ?_);exact done q_ (.cons .tmp As) [] (As0 n (lO m) l) (λ_ h=>h) q_ q_ kU
 have j:¬x.kind=4:=kS h;rw[zD j]at g i;clear h;refine gI ?_ ?_<;>intro h
 .have j:x.kind=5:=by simpa using h
  rw[zE j]at g i;clear h;refine oO ?_;refine kW ?_;constructor<;>intro h
  .have t:x.up.length=n.x.length:=qA h;rw[zE t]at g i;subst g;subst i;clear h;have lc:=p.x;unfold At at lc;refine oO ?_;refine gF (A1t x.up j_) F84 ?_;refine Ar 4 3 Im q_ (An 55 (Sx n x.up false) q_ vL ?_);exact done q_ (.cons .tmp As) [(4,55)] (As0 n (upT m x.up) false) (λ_ h=>h) q_ q_ kU
  .have t:¬x.up.length=n.x.length:=qB h;rw[zD t]at g i;subst g;subst i;clear h;refine oO ?_;refine Ar 4 3 Im q_ (Vs 1 4 q_ q_ qq ?_);exact done q_ (.cons .tmp As) [] (As0 n m l) (λ_ h=>h) q_ q_ kU
 have j:¬x.kind=5:=kS h;rw[zD j]at g i;subst g;subst i;clear h;refine oO ?_;refine Ar 4 3 Im q_ (Vs 1 4 q_ q_ qq ?_);exact done q_ (.cons .tmp As) [] (As0 n m l) (λ_ h=>h) q_ q_ kU
def Ah9(n:Ai)(g:n.Fin)(i:okB n (List.replicate n.x.length true)=false):Sp 41 [Aq n] (.tup [.val (.pointer none),Aa 2]):=cT F41 ntmps41 λF p=>by
 have j:=g.x;unfold At at j;have l:=A2y n.x.length j_;have o:=Aj7 n (List.replicate n.x.length true) g i;generalize List.replicate n.x.length true=up at *
 conv=>whnf
 refine Wu 7 Ab [true] q_ q_ ?_;refine Ao 7 q_ (oO ?_);refine gF l F77 ?_;refine c0 o F78 (oT ?_);exact dN
def A2n(n:Ai)(j:n.Fin)(l:okB n (List.replicate n.x.length true)=true):Sq 41 [Aq n] [] (.tup [.ptr 0 0,Aa 0]) (I5 n (Vg n) false):=cT F41 ntmps41 λF R=>by
 have o:=j.x;have p:=j.c;unfold At at o p;have r:=A2y n.x.length j_;have t:=Aob n (List.replicate n.x.length true) j l;have I:=Vg.eq_1 n;generalize Vg n=m at *;generalize List.replicate n.x.length true=up at *;refine fW ?_;refine Wu 7 Ab [true] q_ q_ ?_;refine Ao 7 q_ (gL r F77 ?_);refine gL t F78 ?_;refine fU ?_;refine C6 (Ad [(0,700),(1,701),(2,702),(3,703),(4,704),(5,705),(6,706),(7,707)] q_ F79 (Yb n j) q_ z_ q_ kB) y_ q_ (fU ?_);refine C6 (Cw Γ.toTy (d:=28) (n:=n.c.length) (λ_:Unit=>Jl) () q_ q_ q_ q_ q_ q_ q_ q_ j_ j_ q_ q_ q_) y_ q_ (fU ?_);refine C6 (Cw Γ.toTy (d:=32) (n:=n.c.length) (λ_:Unit=>Jl) () q_ q_ q_ q_ q_ q_ q_ q_ j_ j_ q_ q_ q_) y_ q_ (fU ?_);refine⟨y_,?_⟩;refine Ao 700 q_ (Ao 701 q_ ?_);refine Ao 702 q_ (Ao 703 q_ ?_);refine Ao 704 q_ (Ao 705 q_ ?_);refine Ao 706 q_ (Ao 707 q_ ?_);refine Axf 28 (e':=U1) (l':=List.replicate n.c.length []) q_ qx (λM w i J P v g=>?_) ?_
 .rw[List.getElem_replicate];simp only[D3]at g;exact Ald g
 refine Axf 32 (e':=Ym) (l':=List.replicate n.c.length []) q_ qx (λM w i J P v g=>?_) ?_
 .rw[List.getElem_replicate];simp only[D3]at g;exact Ald g
 refine An 24 (Sx n up false) q_ vL (fU ?_);subst I;exact done q_ (.cons .tmp As) [(0,34),(1,24),(2,28),(3,32)] (I5 n ⟨up,List.replicate n.c.length [],List.replicate n.c.length [],0,0,λ_=>0⟩ false) (λ_ h=>h) q_ q_ kU
end
section
def Afl(n:Ai):∀(a b:List B7) (m:B4),Ja n m (a++b)=((Ja n (Ja n m a).1 b).1,(Ja n m a).2++(Ja n (Ja n m a).1 b).2)
 |[],b,m=>by simp[Ja]
 |o::a,b,m=>by
  rw[wF,Ja,Ja,Afl n a b];simp
def A5f(n:Ai)(m:B4)(l:List B7)(j:Nat)(g:j<l.length):Ja n m (l.take (j+1))=((fS n (Ja n m (l.take j)).1 l[j]).1,(Ja n m (l.take j)).2++(fS n (Ja n m (l.take j)).1 l[j]).2):=by
 rw[zZ g,Afl];simp[Ja]
def runF(n:Ai)(s:B4×Bool)(l:List B7):B4×Bool:=l.foldl (λs x=>((fS n s.1 x).1,doD n s.1 s.2 x)) s
def As8(n:Ai):∀(l:List B7) (s:B4×Bool),(runF n s l).1=(Ja n s.1 l).1
 |[],s=>rfl
 |x::l,s=>by
  have:=As8 n l ((fS n s.1 x).1,doD n s.1 s.2 x);rw[Ja];exact this
def runD(n:Ai)(m:B4)(d:Bool)(l:List B7):Bool:=(runF n (m,d) l).2
def A5g(n:Ai)(m:B4)(d:Bool)(l:List B7)(j:Nat)(g:j<l.length):runD n m d (l.take (j+1))=doD n (Ja n m (l.take j)).1 (runD n m d (l.take j)) l[j]:=by
 unfold runD;rw[zZ g];have:=As8 n (l.take j) (m,d);unfold runF at this|-;rw[xS];show doD n (List.foldl _ (m,d) (l.take j)).1 _ l[j]=_;rw[this]
def A1o{n:Ai}(j:n.Fin)(P:n.Num){m:B4}{J D:Int}(h:D8 n m J D)(R:0<=J)(p:0<=D)(x:B7):D8 n (fS n m x).1 (J+1) (D+4294967298):=by
 unfold fS;split
 .exact(A0s j h R p _ _).mono j_ j_
 split
 .have g:=Abg h x.l x.az;unfold T5;split
  .exact g.1.mono j_ j_
  .have hb:=eM j (X9 n (C5 m x.l x.az).1.up) (Uk (C5 m x.l x.az).1 x.l) x.l (C5 m x.l x.az).2.1 (C5 m x.l x.az).1.ay;have r:=Aty g.1 p x.l (Agn (n:=n) (fw:=X9 n (C5 m x.l x.az).1.up) (dom:=x.l) (now:=(C5 m x.l x.az).1.ay) (Ad8 g.1 x.l) g.2);have l:=dW j (C5 m x.l x.az).2.1.ad (lZ n (C5 m x.l x.az).1 x.l (C5 m x.l x.az).2.1).2.1 r j_ (eL j P g.2);refine l.mono j_ ?_;unfold lZ;omega
 split
 .exact(Abg h x.l x.az).1.mono j_ j_
 split
 .have r:=h.ay;refine⟨h.up,by unfold lO;simp only[yS];exact h.ca,h.bv,λt I=>?_,h.cj,?_,?_,λi=>?_⟩
  .unfold lO at I;obtain ⟨t0,o,rfl⟩:=yT.1 I;exact Bge (h.ck t0 o) _
  .unfold lO;dsimp only;omega
  .have:=h.inj;unfold lO;dsimp only;omega
  .have:=h.bo i;unfold lO;dsimp only;omega
 split
 .split
  .rename_i l;exact D8.mono (n:=n) (m:=⟨x.up,m.al,m.ai,m.ay,m.af,m.ap⟩) ⟨l,h.ca,h.bv,h.ck,h.cj,h.ay,h.inj,h.bo⟩ j_ j_
  .exact h.mono j_ j_
 .exact h.mono j_ j_
def A3s{n:Ai}(g:n.Fin)(m:B4)(x:B7):(fS n m x).2.length<4294967296:=by
 unfold fS;split
 .show (0:Nat)<4294967296;decide
 split
 .unfold T5;split
  .show (0:Nat)<4294967296;decide
  .have j:=eM g (X9 n (C5 m x.l x.az).1.up) (Uk (C5 m x.l x.az).1 x.l) x.l (C5 m x.l x.az).2.1 (C5 m x.l x.az).1.ay;have i:=Y0 n (C5 m x.l x.az).2.1.ad (lZ n (C5 m x.l x.az).1 x.l (C5 m x.l x.az).2.1).2.1 (Xf (C5 m x.l x.az).1 x.l (lZ n (C5 m x.l x.az).1 x.l (C5 m x.l x.az).2.1));unfold lZ at i|-;omega
 split
 .show (0:Nat)<4294967296;decide
 split
 .show (0:Nat)<4294967296;decide
 split
 .show (0:Nat)<4294967296;decide
 .show (0:Nat)<4294967296;decide
def A2u{n:Ai}(g:n.Fin)(i:n.Num):∀(l:List B7) {m:B4} {J D:Int},D8 n m J D->0<=J->0<=D->D8 n (Ja n m l).1 (J+l.length) (D+l.length*4294967298)
 |[],m,J,D,h,_,_=>by
  rw[Ja];exact h.mono qx qx
 |x::l,m,J,D,h,j,o=>by
  rw[Ja];have:=A2u g i l (A1o g i h j o x) j_ j_;exact this.mono (by simp only[yI];omega) (by simp only[yI];omega)
def As7{n:Ai}(g:n.Fin):∀(l:List B7) (m:B4),(Ja n m l).2.length<=l.length*4294967296
 |[],m=>by simp[Ja]
 |x::l,m=>by
  rw[Ja];have i:=As7 g l (fS n m x).1;have j:=A3s g m x;simp only[zR,yI];omega
def Ahj(n:Ai):D8 n (Vg n) 0 0:=by
 refine⟨by simp[Vg],by simp[Vg],by simp[Vg],λt g=>?_,λl j=>?_,by simp[Vg],by simp[Vg],λi=>by simp[Vg]⟩
 .have:t=[]:=(List.mem_replicate.1 g).2;rw[this];exact Aer
 .have:l=[]:=(List.mem_replicate.1 j).2;rw[this];exact Afy
def Axv(n:Ai):List Bool:=List.replicate n.x.length true
def runT(n:Ai)(l:List B7):List Kt×Int:=if okB n (Axv n)=true then ((Ja n (Vg n) l).2,0) else ([],2)
structure Adt(l:List B7):Prop where
 bq:l.length<=200
 bytes:∀x∈l,x.bytes.length<=2000
attribute [local irreducible]G DR
set_option maxRecDepth 100000
def runO(n:Ai)(m:B4)(d:Bool)(l:List Kt):It:=[(0,.box (bA n 1 m.ay m.af m.ap)),(1,.box (Sx n m.up d)),(2,.row 1 U1 m.al),(3,.row 1 Ym m.ai),(1000,.row 3 Im l)]
def A2m(n:Ai)(i:n.Fin)(R:n.Num)(l:List B7)(hl:Adt l):Sp 20 [Aq n,.sl 6 Dm l] (.tup [.sl 3 Im (runT n l).1,Aa (runT n l).2]):=cT F20 ntmps20 λF hF=>by
 have p:=runT.eq_1 n l;generalize runT n l=a1 at *;have a0:=hl.bq;cases r:okB n (Axv n)
 .rw[zD (by rw[r];simp)]at p;subst p;have t:=Ah9 n i r
  conv=>whnf
  refine c0 t F41 (oT ?_);exact Ar 4 3 Im q_ dN
 .rw[zE r]at p;subst p;have t:=A2n n i r;have ey:=Ahj n;generalize Vg n=g at *
  conv=>whnf
  refine Al (Ad [(0,800),(1,801),(2,802),(3,803)] q_ F41 t q_ z_ q_ kB) q_ q_ (oF ?_);refine Ct 8 1000 3 Im q_ q_ ?_;refine Bl l.length (λj=>[(6,.ptr 0 0),(8,.osl 1000),(21,.sl 6 Dm l),(22,Aa l.length),(23,Aa j)]) (λj=>runO n (Ja n g (l.take j)).1 (runD n g false (l.take j)) (Ja n g (l.take j)).2) [(0,800),(1,801),(2,802),(3,803)] kU ?_;intro j hj;refine gI ?_ ?_<;>intro h
  .have o:j<l.length:=qA h;have ai:(j:Int).toNat<l.length:=kS o;obtain ⟨x,I⟩:=kE (l[j]);have e1:l[(j:Int).toNat]'ai=x:=I;have J:=A5f n g l j o;have tv:=A5g n g false l j o;rw[I]at J tv;have a2:=hl.bytes x (by rw[<-I];exact zI o);have sf:=A2u i R (l.take j) ey (wB _) (wB _);have dw:(l.take j).length=j:=by rw[zY];omega
   have P:=As7 i (l.take j) g;rw[dw]at sf P;have q5:=Ayw n i R (Ja n g (l.take j)).1 (runD n g false (l.take j)) _ _ sf j_ j_ j_ x j_;have js:=A3s i (Ja n g (l.take j)).1 x;clear h;refine oO ?_;refine⟨q_,by omega,ai,?_⟩;rw[e1]
   conv=>whnf
   refine Al (Ad [(4,30)] q_ F42 q5 q_ kA q_ kB) q_ q_ (oO ?_);refine Al (Ah Γ.toTy 35 q_ q_ q_ q_ q_ (.row q_) .sl qx j_ j_) q_ q_ (gG ?_);have g1:(Ja n g (l.take (j+1))).1=(fS n (Ja n g (l.take j)).1 x).1:=by rw[J]
   have g2:(Ja n g (l.take (j+1))).2=(Ja n g (l.take j)).2++(fS n (Ja n g (l.take j)).1 x).2:=by rw[J]
   refine A9 [(1,30),(1000,35)] o ⟨kA,?_,q_,q_⟩;dsimp only;rw[g1,g2,tv];exact⟨.inl q_,q_,.inl q_,q_,.inl q_,q_,.inl q_,q_,.inl q_,q_,z_⟩
  .have jh:j=l.length:=qB h;subst jh;rw[yM];clear h;refine oO ?_;exact Ao 1000 q_ dN
end
section
def Ak4{P:Kg->Prop}{S:Dn}(h:∀f∈S.list,P f.hop)(d k:Int){x:Kg}(i:P x)(a:Int):∀f∈(Hf S d k x a).list,P f.hop:=by
 rw[Hf];split
 .exact h
 .rw[Wa];split<;>(intro f g;rcases yJ.1 g with g|g;exact h f g;rw[zX]at g;subst g;exact i)
def Ak5{P:Kg->Prop}{k i:Int}:∀{l:List Kg} {S:Dn},(∀f∈S.list,P f.hop)->(∀h∈l,P h)->∀f∈(ext1 S k i l).list,P f.hop
 |[],S,h,_=>h
 |x::l,S,h,g=>Ak5 (l:=l) (Ak4 h x.l k (g x qx) i) (λy j=>g y (by simp[j]))
def Aw3{P:Kg->Prop}{i:Int}:∀{l:List lL} {S:Dn},(∀f∈S.list,P f.hop)->(∀q∈l,P ⟨3,0,q.l,q.addr⟩)->∀f∈(ext2 S i l).list,P f.hop
 |[],S,h,_=>h
 |x::l,S,h,g=>Aw3 (l:=l) (Ak4 h x.l 1 (g x qx) i) (λy j=>g y (by simp[j]))
def Bga{P:Kg->Prop}{n:Ai}(g:∀d,∀x∈J0 n d,P x)(j:∀d,∀q∈Hw n d,P ⟨3,0,q.l,q.addr⟩){S:Dn}(h:∀f∈S.list,P f.hop)(i:Int):∀f∈(Y4 n S i).list,P f.hop:=by
 rw[Y4];split
 .exact Aw3 (Ak5 h (g _)) (j _)
 .exact Ak5 h (g _)
def A77{P:Kg->Prop}{n:Ai}{dev:Int}(h:∀d,P ⟨0,0,d,0⟩)(l:List Int):∀f∈(Wp n dev l).list,P f.hop:=by
 suffices i:∀(l:List Int) (S:Dn),(∀f∈S.list,P f.hop)->∀f∈(l.foldl (Qh n dev) S).list,P f.hop from i l _ (λf j=>by simp[Q5]at j)
 intro l
 induction l with
 |nil=>exact λS h=>h
 |cons x l o=>
  intro S g;refine o _ ?_;rw[Qh];split
  .exact g
  .exact Ak4 g _ _ (h _) _
def Ak3{P:Kg->Prop}{n:Ai}(l:∀d,∀x∈J0 n d,P x)(o:∀d,∀q∈Hw n d,P ⟨3,0,q.l,q.addr⟩){p:Int}:∀(k:Nat) (S:Dn) (i:Nat),S.OK n->Hu S.list->(∀f∈S.list,P f.hop)->i<=S.list.length->(Jj n p k S i).2=true ->
  ∀h∈(Jj n p k S i).1,P h
 |0,S,i,_,_,_,_,h=>by cases h
 |k+1,S,i,ok,r,t,hi,h=>by
  rw[Jj]at h|-;split at h
  .rename_i I;rw[zE I];split at h
   .rename_i g;rw[zE g];exact(Ago r t I).1
   .rename_i g;rw[zD g];have j:=r.ext (n:=n) (i:=i) ⟨by omega,by omega⟩;exact Ak3 l o k _ _ (ok.ext i) j.1 (Bga l o t i) j_ h
  .cases h
def Bf9{P:Kg->Prop}{n:Ai}(j:∀d,∀x∈J0 n d,P x)(l:∀d,∀q∈Hw n d,P ⟨3,0,q.l,q.addr⟩)(o:∀d,P ⟨0,0,d,0⟩){from_ i:Int}(h:(Kh n from_ i).2=true):∀x∈(Kh n from_ i).1,P x:=by
 rw[Kh]at h|-;split at h
 .rename_i g;rw[zE g];have hp:=dG g.1;have p:(I1 n from_).OK n:=by
   rw[I1,Aj hp.2];exact fY λv r t=>Qt g.2.2.2 hp.2 r t
  have I:Hu (I1 n from_).list:=by rw[I1];exact aM _ _ _
  exact Ak3 j l _ _ _ p I (by rw[I1];exact A77 o _) (xV _) h
 .cases h
def LinkOK(n:Ai)(h:Kg):Prop:=h.kind=1->(0<=h.ac/\h.ac.toNat<n.g.length)/\0<=(Af n.g h.ac).ah/\(Af n.g h.ac).ah.toNat<n.x.length
def At4{n:Ai}{i:Int}(h:0<=Eg n i):(0<=i/\i.toNat<n.g.length)/\0<=(Af n.g i).ah/\(Af n.g i).ah.toNat<n.x.length:=by
 have j:=Q7 h;unfold Eg at h;split at h
 .rename_i g;have l:Af n.g i=n.g[i.toNat]:=Aj j.1.2;rw[l]at g|-;exact⟨j.1,g.2.1,(Ue g.2.2 j.1.2 g.2.1).1⟩
 .omega
def way_links{n:Ai}{from_ l:Int}(h:(Kh n from_ l).2=true):∀x∈(Kh n from_ l).1,LinkOK n x:=by
 refine Bf9 (λd x g=>?_) (λd q _ e=>?_) (λd e=>?_) h
 .rw[J0]at g;split at g
  .rcases yJ.1 g with g|g
   .obtain ⟨p,_,hp⟩:=vM.1 g;rw[Md]at hp;split at hp
    .rename_i i;simp only[Option.some.injEq]at hp;subst hp;intro _;refine At4 ?_;rw[Ef]at i;split at i
     .rename_i j;rw[Mv]at j;split at j
      .rename_i o;exact o.1
      .cases j
     .cases i
    .cases hp
   .obtain ⟨p,hp,rfl⟩:=yT.1 g;intro e;simp[Xg]at e
  .cases g
 .simp at e
 .simp at e
def Apx:Nat:=2203318222849
def Afe(n:Ai)(l:List Kg)(i:Nat)(h:Kg):Bool:=Am h.l n.c.length&&!(decide (h.kind=3)&&(decide (i=0)||decide ((Af n.c (Af l ((i:Int)-1)).l).ar<0)))
def Aei(l:List Kg):Int:=Bt (λh=>decide (h.kind=3)) l
def Agu(a:Nat):Dv:=⟨0,0,64,17,1,a,[]⟩
def Avf(n:Ai)(l:List Kg):Irb:=Af n.r (Af n.c (Af l (Aei l-1)).l).ar
def Aj6(n:Ai)(l:List Kg):Bg:=if 0<Aei l then ⟨I4 (Avf n l).addr,Apx,2048,(Sd (Agu (Af l (Aei l)).addr.toNat)).1⟩ else ⟨281474976710655,Apx,34997,[]⟩
def Ol(n:Ai)(l:List Kg):List UInt8×Int:=if Ac n=true/\l≠[]/\Lu (Afe n l) l=true then (Vc (Aj6 n l),0) else ([],2)
def Vj(n:Ai)(from_:Int)(l:List Kg):B7 :=
 ⟨1,from_,0,0,if (Af n.c (Af l 0).l).z≠(Af n.g from_).native then Vc (Om (Dw (Ol n l).1).1 (Af n.c (Af l 0).l).z).1 else (Ol n l).1,[]⟩
structure GoM where
 m:B4
 d:Bool
 out:List B7
def doW(n:Ai)(s:GoM)(x:B7):GoM:=⟨(fS n s.m x).1,doD n s.m s.d x,s.out++[x]⟩
def Afv(m:B4)(d:Int):B7:=⟨2,0,d,if (((if Am d m.ai.length then Ec m d else []).length:Int)-1)<0 then 0 else ((if Am d m.ai.length then Ec m d else []).length:Int)-1,[],[]⟩
def Aiv(n:Ai)(s:GoM)(d:Int):GoM:=doW n s (Afv s.m d)
def upW(n:Ai)(h:Kg):List Bool:=(List.replicate n.x.length false).set (Af n.g h.ac).ah.toNat true
def nD(n:Ai)(s:GoM)(h:Kg):GoM:=if h.kind=1 then doW n s ⟨5,0,0,0,[],upW n h⟩ else s
def goW(n:Ai)(from_:Int)(l:List Kg):Nat->GoM
 |0=>doW n ⟨Vg n,false,[]⟩ (Vj n from_ l)
 |k+1=>Aiv n (nD n (goW n from_ l k) (Af l ((k+1:Nat):Int))) (Af l ((k:Nat):Int)).l
def Bcq(n:Ai)(from_:Int)(l:List Kg):GoM:=Aiv n (goW n from_ l (l.length-1)) (Af l ((l.length:Int)-1)).l
def Qx(n:Ai)(from_ g:Int):List B7×Int :=
 if Qq n from_=true/\Qq n g=true/\from_≠g/\okB n (Axv n)=true then
  (if (Kh n from_ g).2=true then ((Bcq n from_ (Kh n from_ g).1).out,0) else ([],31))
 else ([],2)
structure Vl where
 kind:Int
 cd:Int
 row:Int
 error:Int
 ba:Int
 to:Int
 bz:List B7
def cI(r:Vl):SV:=.agg [Aa r.kind,Aa r.cd,Aa r.row,Aa r.error,Aa r.ba,Aa r.to,.sl 6 Dm r.bz]
def Ajf(m:B4)(i:Nat)(t:List Bc):B4:=if 60<t.length then m else (Bbo m i t).1
def Ajg(g:B4)(l:List (List Bc)):Nat->B4
 |0=>g
 |j+1=>Ajf (Ajg g l j) j ((l[j]?).getD [])
attribute [local irreducible]G DR
set_option maxRecDepth 100000
def Ajx(l:List Kg)(p:Kg->Bool)(f:FuncId)(first cap:List SV)(r:(SV.clo (.func f) first cap).inn []=true)(I:∀x∈l,J3 prog f (first++[Er x]++cap) (Ab (p x)))(J:At l):Sp 202 [.sl 4 Er l,.clo (.func f) first cap] (Aa (Bt p l)):=cT F202 ntmps202 λF hF=>by
 unfold At at J;have P:∀x:Kg,C7 [] (first++[Er x]++cap)=true:=λx=>El r rfl
 refine fW ?_;refine Bb l.length (λj=>Ic (λ_ x=>!(p x)) l j) (λj=>[(0,.sl 4 Er l),(1,.clo (.func f) first cap),(7,Aa l.length),(8,Aa j)]) (λ_=>[]) [] (Bn _ _) ⟨⟨q_,q_,Br _,r,q_,q_,q_,q_,z_⟩,z_,q_,q_⟩ ?_;intro j hj g;refine gH ?_ ?_<;>intro h
 .have h:=zO h;have o:j<l.length:=by omega
  refine fU ?_;refine⟨q_,by omega,by omega,?_⟩;refine fW ?_;refine Is (I l[j] (zI o)) q_ q_ q_ (by simp only[P];rfl) q_ q_ ?_;refine fU ?_;constructor<;>intro t
  .refine fU ?_;refine Av q_ As (zH Aa ?_) q_;exact Dz o (λi hi R=>kS (g i hi R)) t
  .refine gE ?_;exact A6 [] g o (Bk g o (by simp[t])) ⟨⟨q_,q_,Br _,r,q_,q_,q_,q_,z_⟩,z_,q_,q_⟩
 .have h:=zQ h;refine fU ?_;refine Av q_ As (zH Aa ?_) q_;exact Ez λi hi=>kS (g i hi j_)
def Ay4(h:Kg):Sp 203 [Er h] (Ab (decide (h.kind=3))):=cT F203 ntmps203 λF g=>by
 exact gA
def Bfg{a:Type}{p:a->Bool}{l:List a}{i:Int}(h:Bt p l=i)(r:0<=i):∃hi:i.toNat<l.length,p l[i.toNat]=true:=by
 rcases aC p l with ⟨g,_⟩|⟨k,j,g,o,_⟩
 .omega
 .have e:i.toNat=k:=by omega
  subst e;exact⟨j,o⟩
def Bdn(a:Nat)(h:a<4294967296):Mx (Agu a):=⟨by show 0<=255;decide,by show 0<=65535;decide,by show 64<=255;decide,by show 17<=255;decide,by show 1<4294967296;decide,h⟩
def A8d(a:Nat):(Sd (Agu a)).1.length=20:=by
 rw[Sd,zD (by show ¬1480<0;decide)];show (Kr (Agu a) _++[]).length=20;rw[yV];rfl
def Auf{n:Ai}(g:Eb n)(d:Int):0<=(Af n.r d).addr/\(Af n.r d).addr<4294967296:=by
 rw[Af];cases h:n.r[d.toNat]? with
 |none=>exact⟨by decide,by decide⟩
 |some x=>exact g x (List.mem_of_getElem? h)
def Aoa{n:Ai}(g:Eb n)(l:List Kg):Cf (Aj6 n l):=by
 unfold Aj6;split
 .have:=Auf g (Af n.c (Af l (Aei l-1)).l).ar;refine⟨?_,by show 2203318222849<281474976710656;decide,by show 2048<=65535;decide,?_⟩
  .show 2199023255552+(Avf n l).addr.toNat<281474976710656;unfold Avf;omega
  .show (Sd _).1.length<=1504;rw[A8d];decide
 .exact⟨by decide,by decide,by decide,by decide⟩
def A37(n:Ai)(hn:n.Fin)(hu:Eb n)(l:List Kg)(hl:At l)(gb:∀h∈l,0<=h.addr/\h.addr<4294967296):Sp 120 [Aq n,.sl 4 Er l] (.tup [.sl 1 Ae (Ol n l).1,Aa (Ol n l).2]):=cT F120 ntmps120 λF hF=>by
 have g:=Ol.eq_1 n l;generalize Ol n l=a0 at *;have hr:=A7 n hn;have i7:=hl;unfold At at i7;refine gR ?_ ?_<;>intro h
 .have h0:l=[]:=yF (qA h);rw[zD (λx=>x.2.1 h0)]at g;subst g;refine T ?_;exact Ar 4 1 Ae q_ D
 have h0:0<l.length:=qB h;clear h;have ag:l≠[]:=λe=>by rw[e]at h0;simp at h0
 refine Bi 2 8 (Aq n) q_ q_ q_ (gD hr F49 ?_);cases hb:Ac n
 .rw[zD (λx=>by rw[hb]at x;cases x.1)]at g;subst g;refine T ?_;exact Ar 4 1 Ae q_ D
 refine T ?_;refine Bb l.length (λj=>Ic (Afe n l) l j) (λj=>[(1,.sl 4 Er l),(2,.ref 8 (Aq n) 0),(6,.ptr 6 0),(22,.sl 4 Er l),(23,Aa l.length),(24,Aa j)]) (λ_=>[(6,.box [B1 281474976710655,B1 2203318222849,Aa 34997,Jl])]) [] (Bn _ _) U ?_;intro j hj hI;refine gP ?_ ?_<;>intro h
 .have J:j<l.length:=qA h;have ai:(j:Int).toNat<l.length:=kS J;obtain ⟨x,eo⟩:=kE (l[j]);have e1:l[(j:Int).toNat]'ai=x:=eo;have o:=Afe.eq_1 n l j x;have ew:Afe n l j x=false->a0=([],2):=λh2=>by
   rw[zD (λy=>by have:=Cm.1 y.2.2 j J;rw[eo,h2]at this;cases this)]at g;exact g
  clear h;refine S ?_;refine⟨q_,by omega,ai,?_⟩;rw[e1];by_cases ur:x.l<0
  .have g:=ew (by rw[o,Ab3 j_,yE]);subst g;refine T ?_;exact Ar 4 1 Ae q_ D
  by_cases jr:(n.c.length:Int)<=x.l
  .have g:=ew (by rw[o,Ab3 j_,yE]);subst g;refine T ?_;exact Ar 4 1 Ae q_ D
  have bd:=Xc (n:=n.c.length) (i:=x.l) j_;rw[bd,yB]at o;by_cases hk:x.kind=3;rotate_left
  .rw[zJ hk,yE]at o;refine T ?_;exact A6 [] hI J (Bk hI J (by rw[eo];exact o)) U
  rw[zL hk,yB]at o;by_cases ni:j=0
  .have g:=ew (by rw[o,zL ni];rfl);subst g;refine T ?_;exact Ar 4 1 Ae q_ D
  rw[zJ ni,vI]at o;have p:((j:Int)-1).toNat<l.length:=by omega
  have P:=hI (j-1) j_ j_;have xj:Am (l[((j:Int)-1).toNat]'p).l n.c.length=true:=by
   have e:((j:Int)-1).toNat=j-1:=by omega
   simp only[e];unfold Afe at P;simp only[zG]at P;exact P.1
  have t:=Ta.1 xj;rw[Aj p,Aj t.2]at o;by_cases pq:(n.c[(l[((j:Int)-1).toNat]'p).l.toNat]'t.2).ar<0
  .have g:=ew (by rw[o,zL pq];rfl);subst g;refine T ?_;refine⟨λ_=>?_,λh=>zW pq (zQ h)⟩;refine T ?_;exact Ar 4 1 Ae q_ D
  rw[zJ pq]at o;refine T ?_;refine⟨λh=>zW (zO h) pq,λ_=>?_⟩;refine T ?_;exact A6 [] hI J (Bk hI J (by rw[eo];exact o)) U
 .have jh:j=l.length:=qB h;subst jh;clear h;have db:Lu (Afe n l) l=true:=Cm.2 λi hi=>hI i hi hi
  rw[zE ⟨hb,ag,db⟩]at g;subst g;have qi:=Ajx l (λh=>decide (h.kind=3)) 203 [] [] rfl (λx hx=>⟨⟨_,_,F203⟩,Ay4 x⟩) hl;have R:Bt (λh=>decide (h.kind=3)) l=Aei l:=rfl;rw[R]at qi;have J:=Kf (λh:Kg=>decide (h.kind=3)) l;have zh:=λh0=>Bfg R h0
  rw[R]at J;have q7:=Tj (Aj6 n l) (Aoa hu l);have js:=Aj6.eq_1 n l;have ru:=Avf.eq_1 n l;generalize Avf n l=ib at *;generalize Aei l=r at *;refine gD qi F202 ?_;constructor<;>intro h
  .have h1:0<r:=zO h;rw[zE h1]at js;obtain ⟨I,a1⟩:=zh j_;have o:=Cm.1 db r.toNat I;have p:(r-1).toNat<l.length:=by omega
   have xj:Am (l[(r-1).toNat]'p).l n.c.length=true:=by
    have P:=Cm.1 db (r-1).toNat p;unfold Afe at P;simp only[zG]at P;exact P.1
   have t:=Ta.1 xj;unfold Afe at o;rw[a1,show ((r.toNat:Int)-1)=r-1 by omega,Aj p,Aj t.2]at o;simp only[zG,yB,xH,wY,yC]at o;have br:=(A7q hb t.2).resolve_left j_;have lz:0<=(n.c[(l[(r-1).toNat]'p).l.toNat]'t.2).ar/\(n.c[(l[(r-1).toNat]'p).l.toNat]'t.2).ar.toNat<n.r.length:=by unfold Kw at br;omega
   rw[Aj p,Aj t.2,Aj lz.2]at ru;rw[Aj I]at js;have ha:=gb _ (zI I);have wx:=yQ ha.1;have a2:=hu _ (zI lz.2);have lm:=yQ a2.1;have q5:Sp 204 [.agg [Aa 0,Aa 0,Aa 64,Aa 17,Bo 1,Bo ((l[r.toNat]'I).addr.toNat:Nat),.sl 1 Ae []]] (.tup [.sl 1 Ae (Sd (Agu (l[r.toNat]'I).addr.toNat)).1,Aa (Sd (Agu (l[r.toNat]'I).addr.toNat)).2]):=Aqu (Agu (l[r.toNat]'I).addr.toNat) (Bdn _ j_) (by show 0<100000;decide);rw[wx]at q5;have q6:=An0 (n.r[(n.c[(l[(r-1).toNat]'p).l.toNat]'t.2).ar.toNat]'lz.2).addr.toNat j_;rw[lm]at q6;subst ru;rw[js]at q7|-;clear js;generalize (Sd (Agu (l[r.toNat]'I).addr.toNat)).1=bo at *;refine T ?_;refine G_vw 74 (.agg [Aa 0,Aa 0,Aa 64,Aa 17,Bo 1,Bo (l[r.toNat]'I).addr,.sl 1 Ae []]) (.agg vL) (gN q5 F204 q6 F205 ?_);exact Al (Ad [(0,999)] q_ F19 q7 q_ z_ q_ ⟨.inr q_,z_⟩) q_ q_ (Ao 999 q_ gA)
  .have h1:¬0<r:=zQ h;rw[zD h1]at js;rw[js]at q7|-;clear js;refine T ?_;refine G_vw 99 (.agg [B1 281474976710655,B1 Apx,Aa 34997,.sl 1 Ae []]) (.agg vL) ?_;exact Al (Ad [(0,999)] q_ F19 q7 q_ z_ q_ ⟨.inr q_,z_⟩) q_ q_ (Ao 999 q_ gA)
def Amx(b:List UInt8):Cf (Dw b).1:=by
 by_cases h:(Dw b).2=0
 .exact bQ h
 .rw[A4m h];exact Jd
def Asq{f:Bg}(g:Cf f)(v:Nat)(i:v<=4094):Cf (Om f v).1:=by
 by_cases h:(Om f v).2=0
 .exact A9c g v i h
 .unfold Om at h|-;split
  .exact Jd
  .rename_i j;rw[zD j]at h;split
   .exact Jd
   .rename_i l;rw[zD l]at h;exact zW q_ h
def Aa8{n:Ai}(g:Eb n)(l:List Kg):(Ol n l).1.length<=1518:=by
 unfold Ol;split
 .show (Vc _).length<=1518;rw[Js];have:=(Aoa g l).body;omega
 .show 0<=1518;decide
def Axm(n:Ai)(hn:n.Fin)(J:Eb n)(hb:Ac n=true)(port:Int)(hp:0<=port/\port.toNat<n.g.length)(l:List Kg)(hl:At l)(P:∀h∈l,nZ n h)(h0:0<l.length):Sp 61 [Aq n,Aa port,.sl 4 Er l] (Dm (Vj n port l)):=cT F61 ntmps61 λF hF=>by
 have g:(0:Int).toNat<l.length:=h0;have i:=P _ (zI g);have q1:=A37 n hn J l hl (λh hh=>(P h hh).2);have jo:=Aa8 (n:=n) J l;have hv:=Aaq hb i.1.2;have o:=Vj.eq_1 n port l;rw[Aj g,Aj i.1.2,Aj hp.2]at o;generalize Vj n port l=a0 at *;obtain ⟨R,xk⟩:∃v:Nat,(n.c[(l[(0:Int).toNat]'g).l.toNat]'i.1.2).z=v:=⟨_,(yQ j_).symm⟩
 have ur:0<=(l[(0:Int).toNat]'g).l/\(l[(0:Int).toNat]'g).l.toNat<n.c.length:=i.1;have p:=λf j=>Asr f R j j_
 have I:=λf j=>Asq (f:=f) j R j_
 rw[<-xk]at p I;clear xk;generalize Ol n l=r at *;have q2:=aD r.1 j_;have j:=Amx r.1;generalize Dw r.1=tk at *;have p:=p _ j;have q4:=Tj _ (I _ j);clear I;refine fW ?_;refine Bi 3 8 (Aq n) q_ q_ q_ (gD q1 F120 ?_);constructor<;>intro h
 .have t:(n.c[(l[(0:Int).toNat]'g).l.toNat]'i.1.2).z≠(n.g[port.toNat]'hp.2).native:=by simpa using h
  rw[zE t]at o;clear h hv t;generalize Om tk.1 (n.c[(l[(0:Int).toNat]'g).l.toNat]'i.1.2).z=tg at *;subst o;refine gB q2 F121 p F122 ?_;refine Al (Ad [(0,55)] q_ F19 q4 q_ z_ q_ ⟨.inr q_,z_⟩) q_ q_ ?_;refine Ao 55 q_ (T ?_);exact An 6 [Aa 1,Aa port,Aa 0,Aa 0,.sl 1 Ae (Vc tg.1),.sl 1 Ab []] q_ vL D
 .have t:¬(n.c[(l[(0:Int).toNat]'g).l.toNat]'i.1.2).z≠(n.g[port.toNat]'hp.2).native:=by simpa using h
  rw[zD t]at o;subst o;refine T ?_;exact An 6 [Aa 1,Aa port,Aa 0,Aa 0,.sl 1 Ae r.1,.sl 1 Ab []] q_ vL D
abbrev stO(n:Ai)(s:GoM):It:=[(0,.box (bA n 1 s.m.ay s.m.af s.m.ap)),(1,.box (Sx n s.m.up s.d)),(2,.row 1 U1 s.m.al),(3,.row 1 Ym s.m.ai),(5,.box [.ptr 0 0]),(6,.box [.osl 7]),(7,.row 6 Dm s.out)]
abbrev stN(n:Ai)(s:GoM):It:=[(0,.box (bA n 4 s.m.ay s.m.af s.m.ap)),(1,.non),(2,.row 1 U1 s.m.al),(3,.row 1 Ym s.m.ai),(4,.box (Sx n s.m.up s.d)),(5,.box [.ptr 0 0]),(6,.box [.osl 8]),(7,.non),(8,.row 6 Dm s.out)]
abbrev doSV:SV:=.clo (.func 58) [] [.ptr 5 0,.ptr 6 0]
abbrev pkO(n:Ai)(s:GoM):It:=[(0,.box (bA n 1 s.m.ay s.m.af s.m.ap)),(1,.box (Sx n s.m.up s.d)),(2,.row 1 U1 s.m.al),(3,.row 1 Ym s.m.ai),(5,.box [.ptr 0 0]),(6,.box [.osl 7]),(7,.row 6 Dm s.out),(9,.box [doSV])]
abbrev pkN(n:Ai)(s:GoM):It:=[(0,.box (bA n 4 s.m.ay s.m.af s.m.ap)),(1,.non),(2,.row 1 U1 s.m.al),(3,.row 1 Ym s.m.ai),(4,.box (Sx n s.m.up s.d)),(5,.box [.ptr 0 0]),(6,.box [.osl 8]),(7,.non),(8,.row 6 Dm s.out),(9,.box [doSV])]
def A8o(n:Ai)(i:n.Fin)(j:n.Num)(s:GoM)(J D:Int)(o:D8 n s.m J D)(p:J<900000000000)(t:0<=D)(I:D<=900000000000)(g:s.out.length<1000000)(x:B7)(P:x.bytes.length<100000):Sq 58 [Dm x,.ptr 5 0,.ptr 6 0] (stO n s) (.tup []) (stN n (doW n s x)):=cT F58 ntmps58 λF hF=>by
 have R:=Ayw n i j s.m s.d J D o p t I x P;have aa:=doW.eq_1 n s x;generalize fS n s.m x=r at *;generalize doD n s.m s.d x=dd at *;generalize doW n s x=a0 at *;subst aa;refine fW ?_;refine X (Ac1 (d:=900) q_ q_ q_) ?_;refine X (Ad [] q_ F42 R q_ W q_ V) ?_;refine X (Ah Γ.toTy 8 q_ q_ q_ q_ q_ (.row q_) (.lit (e:=Dm) (l:=[x]) q_ q_) qx kO kO) ?_;exact Bf q_ .nil [] (stN n ⟨r.1,dd,s.out++[x]⟩) (λ_ h=>h) q_ q_ U
def Bd1(n:Ai)(i:n.Fin)(j:n.Num)(m:B4)(d:Bool)(J D:Int)(o:D8 n m J D)(p:J<900000000000)(t:0<=D)(I:D<=900000000000)(x:B7)(P:x.bytes.length<100000):Sq 58 [Dm x,.ptr 5 0,.ptr 6 0] [(0,.box (bA n 1 m.ay m.af m.ap)),(1,.box (Sx n m.up d)),(2,.row 1 U1 m.al),(3,.row 1 Ym m.ai),(5,.box [.ptr 0 0]),(6,.box [Jl])] (.tup [])
   [(0,.box (bA n 4 (doW n ⟨m,d,[]⟩ x).m.ay (doW n ⟨m,d,[]⟩ x).m.af (doW n ⟨m,d,[]⟩ x).m.ap)),(1,.non),(2,.row 1 U1 (doW n ⟨m,d,[]⟩ x).m.al),(3,.row 1 Ym (doW n ⟨m,d,[]⟩ x).m.ai),(4,.box (Sx n (doW n ⟨m,d,[]⟩ x).m.up (doW n ⟨m,d,[]⟩ x).d)),(5,.box [.ptr 0 0]),(6,.box [.osl 8]),(8,.row 6 Dm (doW n ⟨m,d,[]⟩ x).out)]:=cT F58 ntmps58 λF hF=>by
 have R:=Ayw n i j m d J D o p t I x P;have g:=doW.eq_1 n ⟨m,d,[]⟩ x;dsimp only at g;generalize fS n m x=r at *;generalize doD n m d x=dd at *;generalize doW n ⟨m,d,[]⟩ x=a0 at *;subst g;refine fW ?_;refine X (Ac1 (d:=900) q_ q_ q_) ?_;refine X (Ad [] q_ F42 R q_ W q_ V) ?_;refine X (Ah Γ.toTy 8 q_ q_ q_ q_ q_ .nil (.lit (e:=Dm) (l:=[x]) q_ q_) qx qx qx) ?_;exact Bf q_ .nil [] [(0,.box (bA n 4 r.1.ay r.1.af r.1.ap)),(1,.non),(2,.row 1 U1 r.1.al),(3,.row 1 Ym r.1.ai),(4,.box (Sx n r.1.up dd)),(5,.box [.ptr 0 0]),(6,.box [.osl 8]),(8,.row 6 Dm ([]++[x]))] (λ_ h=>h) q_ q_ U
def A7a{P:Program}{o:Oper}{s:SS}{x y:Operand}{at_:Array TypeId}{k l:IntKind}{m n r:Int}(g:(if m<n then n else m)=r)(h:o.op=.call ⟨.builtin .max,#[x,y],at_⟩)(p:ev s x=.val (.int k m))(t:ev s y=.val (.int l n)):Good P o s ⟨.val (.int k r),[],[]⟩:=by
 subst g;exact Good.pure λb a w _ g I=>by
  have i:=g x (by simp[h,Op.operands,Call.operands]);have j:=g y (by simp[h,Op.operands,Call.operands]);rw[p]at i;rw[t]at j;refine⟨.int k (if m<n then n else m),?_,by simp[Rd]⟩;simp[execOp,h,resolve,invoke,builtin,Builtin.max_,Builtin.max2,i.val,j.val]
def Ahu(n:Ai)(t:n.Fin)(I:n.Num)(s:GoM)(J D:Int)(l:D8 n s.m J D)(P:J<900000000000)(R:0<=D)(hD:D<=900000000000)(g:s.out.length<1000000)(dom:Int):Sq 59 [Aa dom,.ptr 9 0,.ptr 5 0] (pkO n s) (.tup []) (pkN n (Aiv n s dom)):=cT F59 ntmps59 λF hF=>by
 have i:=M1 l dom;have q1:=A48 n s.m s.d dom i;have q2:=A8o n t I s J D l P R hD g (Afv s.m dom) (by show 0<100000;decide);rw[Aiv];generalize doW n s (Afv s.m dom)=j at *;have o:=Afv.eq_1 s.m dom;have a0:(if Am dom s.m.ai.length=true then Ec s.m dom else []).length<1000000:=by
  have:=i.1;split
  .omega
  .simp
 generalize (if Am dom s.m.ai.length=true then Ec s.m dom else [])=p at *;obtain ⟨v,r⟩:∃v:Int,(if (p.length:Int)-1<0 then 0 else (p.length:Int)-1)=v:=⟨_,rfl⟩
 rw[r]at o;generalize Afv s.m dom=px at *;subst o;refine T ?_;refine Xe (Ad [] q_ F60 q1 q_ W q_ V) ?_;refine Xd (A7a r q_ q_ q_) ?_;refine Xd (Qr [] [] (A3 q_ q_ F58) q2 (.cons (.agg vL) (.cons (.refl _) (.cons (.refl _) .nil))) W q_ V q_) ?_;exact Bf q_ .nil [] (pkN n j) (λ_ h=>h) q_ q_ U
end
section
def Ark{n:Ai}(g:n.Fin)(i:n.Num){s:GoM}{J D:Int}(h:D8 n s.m J D)(j:0<=J)(l:0<=D)(x:B7):D8 n (doW n s x).m (J+1) (D+4294967298)/\(doW n s x).out.length=s.out.length+1 :=
 ⟨A1o g i h j l x,by simp[doW]⟩
def Au1{n:Ai}(g:n.Fin)(i:n.Num){s:GoM}{J D:Int}(h:D8 n s.m J D)(j:0<=J)(l:0<=D)(x:Kg):D8 n (nD n s x).m (J+1) (D+4294967298)/\(nD n s x).out.length<=s.out.length+1:=by
 unfold nD;split
 .have:=Ark g i h j l ⟨5,0,0,0,[],upW n x⟩;exact⟨this.1,by omega⟩
 .exact⟨h.mono j_ j_,by omega⟩
def Aq3{n:Ai}(g:n.Fin)(i:n.Num)(from_:Int)(l:List Kg):∀k:Nat,D8 n (goW n from_ l k).m (1+2*k) ((1+2*k)*4294967298)/\(goW n from_ l k).out.length<=1+2*k
 |0=>by
  have:=Ark g i (s:=⟨Vg n,false,[]⟩) (Ahj n) (wB _) (wB _) (Vj n from_ l);rw[goW];exact⟨this.1.mono j_ j_,by rw[this.2];simp⟩
 |k+1=>by
  obtain ⟨o,r⟩:=Aq3 g i from_ l k;rw[goW];have p:=Au1 g i o j_ j_ (Af l ((k+1:Nat):Int));have j:=Ark g i p.1 j_ j_ (Afv (nD n (goW n from_ l k) (Af l ((k+1:Nat):Int))).m (Af l ((k:Nat):Int)).l);refine⟨j.1.mono j_ j_,?_⟩;have t:=j.2;unfold Aiv;omega
def Af8{n:Ai}(j:Eb n)(o:Ac n=true)(from_:Int){l:List Kg}(p:0<l.length)(r:∀h∈l,nZ n h):(Vj n from_ l).bytes.length<100000:=by
 have g:(0:Int).toNat<l.length:=p;have i:=r _ (zI g);have J:=Aaq o i.1.2;show (if _ then _ else _:List UInt8).length<100000;rw[Aj g,Aj i.1.2];obtain ⟨t,I⟩:∃v:Nat,(n.c[(l[(0:Int).toNat]'g).l.toNat]'i.1.2).z=v:=⟨_,(yQ j_).symm⟩
 rw[I];split
 .rw[Js];have:=(Asq (Amx (Ol n l).1) t j_).body;omega
 .have:=Aa8 (n:=n) j l;omega
attribute [local irreducible]G DR
set_option maxRecDepth 100000
def Axl(n:Ai)(o:n.Fin)(I:n.Num)(hu:Eb n)(from_ g:Int):Sp 28 [Aq n,Aa from_,Aa g] (.tup [.sl 6 Dm (Qx n from_ g).1,Aa (Qx n from_ g).2]):=cT F28 ntmps28 λF hF=>by
 have i:=Qx.eq_1 n from_ g;generalize Qx n from_ g=a5 at *;have h1:=Aa7 n from_;have h2:=Aa7 n g;have lc:=o.x;unfold At at lc;refine fW ?_;refine Bi 3 8 (Aq n) q_ q_ q_ (gD h1 F57 ?_);cases hf:Qq n from_
 .rw[zD (λx=>by rw[hf]at x;cases x.1)]at i;subst i;refine T ?_;exact Ar 6 6 Dm q_ D
 refine gD h2 F57 ?_;cases ht:Qq n g
 .rw[zD (λx=>by rw[ht]at x;cases x.2.1)]at i;subst i;refine T ?_;exact Ar 6 6 Dm q_ D
 refine gP ?_ ?_<;>intro h
 .rw[zD (λx=>x.2.2.1 (kS h))]at i;subst i;refine T ?_;exact Ar 6 6 Dm q_ D
 have ag:from_≠g:=kS h;clear h;refine T ?_;cases aq:okB n (Axv n)
 .rw[zD (λx=>by rw[aq]at x;cases x.2.2.2)]at i;subst i;refine C (Ah9 n o aq) F41 ?_;exact Ar 6 6 Dm q_ D
 rw[zE ⟨hf,ht,ag,aq⟩]at i;refine X (Ad [(0,800),(1,801),(2,802),(3,803)] q_ F41 (A2n n o aq) q_ z_ q_ V) ?_;have q2:=wayS n o hu from_ g;have p:=@Axn n hu from_ g;have r:=@way_links n from_ g;have kr:At (Kh n from_ g).1\/True:=.inr trivial;generalize Kh n from_ g=wr at *;obtain ⟨l,ok⟩:=wr;cases ok
 .rw[zD qx]at i;subst i;refine C q2 F56 ?_;exact Ar 6 6 Dm q_ D
 rw[zE rfl]at i;obtain ⟨gb,a4,R,hb⟩:=p rfl;have a0:=r rfl;clear p r kr;dsimp only at *;have dh:=Ac8 hb;have h0:0<l.length:=xP.2 R;have ny:At l:=by unfold At;omega
 have hp:=dG hf;have q3:=Axm n o hu hb from_ hp l ny gb h0;have q4:=Bd1 n o I (Vg n) false 0 0 (Ahj n) j_ j_ j_ (Vj n from_ l) (Af8 hu hb from_ h0 gb);rw[show doW n ⟨Vg n,false,[]⟩ (Vj n from_ l)=goW n from_ l 0 from rfl]at q4;refine gN q2 F56 q3 F61 ?_;refine Xd (A1 [(0,800),(1,801),(2,802),(3,803),(4,804),(5,8),(6,12),(8,805)] (A3 q_ q_ F58) q4 q_ W q_ V) ?_;have gg:(l.drop 1).length=l.length-1:=by simp
 refine X (O0 (lo:=1) (hi:=l.length) Γ.toTy (l.drop 1) q_ q_ q_ q_ (.inr ⟨_,_,q_,q_⟩) (.inl ⟨q_,q_⟩) j_ (yG _) (by rw[yM])) ?_;clear q2 q3 q4;refine Bl (l.drop 1).length (λj=>[(3,.ref 8 (Aq n) 0),(10,.sl 4 Er l),(12,.ptr 6 0),(13,.ptr 9 0),(14,.clo (.func 59) [] [.ptr 9 0,.ptr 5 0]),(58,.sl 4 Er (l.drop 1)),(59,Aa (l.drop 1).length),(60,Aa j)]) (λj=>pkO n (goW n from_ l j))
  [(0,800),(1,804),(2,802),(3,803),(5,8),(6,12),(7,805),(9,13)] U ?_
 intro j hj;obtain ⟨ax,j6⟩:=Aq3 o I from_ l j;refine gP ?_ ?_<;>intro h
 .have ab:j<(l.drop 1).length:=qA h;have ai:(j:Int).toNat<(l.drop 1).length:=kS ab;have dg:((j+1:Nat):Int).toNat<l.length:=by omega
  have bh:(j:Int).toNat<l.length:=by omega
  have wv:goW n from_ l (j+1)=Aiv n (nD n (goW n from_ l j) (l[((j+1:Nat):Int).toNat]'dg)) (l[(j:Int).toNat]'bh).l:=by rw[goW,Aj dg,Aj bh]
  have e1:(l.drop 1)[(j:Int).toNat]'ai=l[((j+1:Nat):Int).toNat]'dg:=by
   rw[vS];congr 1;omega
  have a2:=a0 _ (zI dg);generalize l[((j+1:Nat):Int).toNat]'dg=x at *;generalize goW n from_ l j=s at *;have tw:=nD.eq_1 n s x;clear h;refine S ?_;refine⟨q_,by omega,ai,?_⟩;rw[e1];refine gP ?_ ?_<;>intro h
  .have hk:x.kind=1:=by simpa using h
   rw[zE hk]at tw;obtain ⟨eh,a3,J⟩:=a2 hk;have P:=upW.eq_1 n x;rw[Aj eh.2]at a3 J P;have q6:=A8o n o I s _ _ ax j_ j_ j_ j_ ⟨5,0,0,0,[],upW n x⟩ (by show 0<100000;decide);obtain ⟨bx,a1⟩:=Ark o I ax j_ j_ ⟨5,0,0,0,[],upW n x⟩;rw[<-tw]at q6 bx a1;rw[P]at q6;clear tw P;generalize nD n s x=s1 at *;have t:=Ahu n o I s1 _ _ bx j_ j_ j_ j_ (l[(j:Int).toNat]'bh).l;rw[<-wv]at t;clear h;refine T ?_;refine X (Cw Γ.toTy (d:=71) (n:=n.x.length) Ab false q_ q_ q_ q_ q_ q_ q_ q_ j_ j_ q_ q_ q_) ?_;refine⟨by rw[wS];exact J,?_⟩;refine fW ?_;refine⟨q_,(by rw[wS];exact J),true,q_,q_,?_⟩;refine T ?_;refine Ao 71 q_ (X (Qr [(4,40),(8,41)] [] (A3 q_ q_ F58) q6 (.cons (.agg vL) (.cons (.refl _) (.cons (.refl _) .nil))) W q_ V q_) ?_);refine X (A1 [(1,40),(7,41),(4,42),(8,43)] (A3 q_ q_ F59) t q_ W q_ V) ?_;exact A9 [(1,42),(7,43)] ab U
  .have hk:¬x.kind=1:=by simpa using h
   rw[zD hk]at tw;rw[tw]at wv;have t:=Ahu n o I s _ _ ax j_ j_ j_ j_ (l[(j:Int).toNat]'bh).l;rw[<-wv]at t;clear h;refine T ?_;refine X (A1 [(4,42),(8,43)] (A3 q_ q_ F59) t q_ W q_ V) ?_;exact A9 [(1,42),(7,43)] ab U
 .have jh:j=(l.drop 1).length:=qB h;subst jh;have py:((l.length:Int)-1).toNat<l.length:=by omega
  have gv:Bcq n from_ l=Aiv n (goW n from_ l (l.drop 1).length) (l[((l.length:Int)-1).toNat]'py).l:=by rw[Bcq,Aj py,gg]
  have t:=Ahu n o I _ _ _ ax j_ j_ j_ j_ (l[((l.length:Int)-1).toNat]'py).l;rw[<-gv]at t;clear gv;generalize Bcq n from_ l=s2 at *;generalize goW n from_ l (l.drop 1).length=s at *;subst i;clear h;refine T ?_;refine X (A1 [(4,42),(8,43)] (A3 q_ q_ F59) t q_ W q_ V) ?_;exact Ao 43 q_ D
end
end Go.Sy.Zaa
