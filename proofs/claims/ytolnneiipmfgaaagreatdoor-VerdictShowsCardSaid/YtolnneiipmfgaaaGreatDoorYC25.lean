/- Parts of a proof. -/
import Derived.Test.YtolnneiipmfgaaaGreatDoorYC23
set_option linter.all false
set_option linter.unusedVariables false
set_option linter.unusedSimpArgs false
set_option linter.deprecated false
namespace Go.Sy.YtolnneiipmfgaaaGreatDoor
open Go.Proofs Go.Proofs.Tryz
def Aun{b c:List UInt8}(h:(verifyT b c).kind=2):okB (netTextT b).1 (Ar4 (netTextT b).1)=true:=by
 obtain ⟨_,f,to,_,_,hs,_⟩:=Us h;exact Aly hs
def Adg(l:List StepM):List StepM:=l.filter λx=>!decide (x.kind=1)
def At2(l:List StepM)(j:Nat)(hj:j<l.length):Adg (l.take (j+1))=Adg (l.take j)++if l[j].kind=1 then [] else [l[j]]:=by
 unfold Adg;rw[yC hj,List.filter_append];congr 1;by_cases h:l[j].kind=1
 ·rw[zE h,List.filter_cons_of_neg (by rw[zL h];decide)];rfl
 ·rw[zD h,List.filter_cons_of_pos (by rw[zI h];rfl)];rfl
def Azi(l:List StepM):(Adg l).length≤l.length:=tU _ _
def Azj{l:List StepM}(h:∀y∈l,y.kind≠1):Adg l=l:=List.filter_eq_self.2 λy hy=>by rw[zI (h y hy)];rfl
def A07(t:Int)(l:List SeenM)(j:Nat)(hj:j<l.length):Ans t (l.take (j+1))=(Ans t (l.take j)||(decide (l[j].port=t)&&decide (l[j].origin=1))):=by
 rw[yC hj,Ans,List.any_append];show _=_;rw[←Ans];simp
attribute [local irreducible] Go.Sy.G Go.Sy.DR
set_option maxRecDepth 100000
set_option maxHeartbeats 4000000
def Aig(b c:List UInt8):Sp 3 [.sl 1 Ak b,.sl 1 Ak c] (Ab true):=cT F3 ntmps3 λF hF=>by
 have qw:=Anv;by_cases b0:4000<b.length
 ·have f0:decide ((b.length:Int)>4000)=true:=zL q_;refine gD qw F4 ?_;exact D
 have f0:decide ((b.length:Int)>4000)=false:=zI q_;by_cases c0:4000<c.length
 ·have f1:decide ((c.length:Int)>4000)=true:=zL q_;refine gD qw F4 ?_;exact D
 have f1:decide ((c.length:Int)>4000)=false:=zI q_;have q0:=Aet b c q_ q_;have q1:=Apm b q_;by_cases k2:(verifyT b c).kind=2;rotate_left
 ·have g0:((verifyT b c).kind != 2)=true:=by rw[xB];exact k2
  refine gA qw F4 q0 F5 ?_;exact D
 have g0:((verifyT b c).kind != 2)=false:=by rw[k2];rfl
 obtain ⟨e1,-⟩:=Us k2;have ax:=Aun k2;obtain ⟨i0,rest,hsc,i1,i2,i3,hl,hk,y2,hq⟩:=Aum k2;obtain ⟨hn,B,hc⟩:=Xy e1;generalize verifyT b c=r at *;generalize netTextT b=nt at *;obtain ⟨n,yk,ne⟩:=nt;dsimp only at *;have gb:=(Aky B.right).2.2.2.1;have okA:ScriptOK (i0::rest):=⟨by rw[yM];omega,λ y hy=>by
  rcases yH.1 hy with rfl|hy
  ·exact i3
  ·rw[(hk y hy).2];exact xQ _⟩
 have y3:ScriptOK rest:=⟨by omega,λy hy=>okA.bytes y (List.mem_cons_of_mem _ hy)⟩
 have dp:Adg (i0::rest)=rest:=by
  rw[Adg,List.filter_cons_of_neg (by rw[zL i1];decide)];exact Azj λy hy=>by rcases (hk y hy).1 with e|e<;>rw[e]<;>decide
 have ar:∀y∈i0::rest,y.kind=1→y.port=r.from_:=λy hy h=>by
  rcases yH.1 hy with rfl|hy
  ·exact i2
  ·rcases (hk y hy).1 with e|e<;>rw[e]at h<;>cases h
 have q3:=Awa n hn B.num (i0::rest) okA;have q4:=Awa n hn B.num rest y3;rw[runT,zE ax]at q3 q4;dsimp only at q3 q4;rw[hq]at q4;have kh:=Afs hn (i0::rest) (newT n);have gn:(i0::rest).length=rest.length+1:=rfl;rw[←hsc]at q3 dp ar kh y2 gn;generalize (D7 n (newT n) r.script).2=av at *;rw[←dp]at q4;have lq:r.script.length≤194:=by omega
 clear okA y3 hq hsc i1 i2 i3 hk B hc ax qw;have qw:=Anv;have g1:(ne != 0)=false:=by rw[e1];rfl
 have g2:decide ((r.script.length:Int)>4*(n.domains.length:Int)+2)=false:=zI q_;refine gA qw F4 q0 F5 ?_;refine gI q1 F6 q3 F7 ?_;refine A8 av.length (λj=>[(5,.ptr 5 0),(6,.ptr 6 0),(9,Ab (Ans r.to (av.take j))),(11,Aa 0),(61,.sl 3 Ej av),(62,Aa av.length),(63,Aa j)]) (λ_=>[(5,.box (cellsOf (Q7 r))),(6,.box (Da n))]) [] U ?_;intro j hj;refine T ?_;constructor<;>intro h
 ·have ab:j<av.length:=qA h;have ai:(j:Int).toNat<av.length:=ab;clear h;have ff:=A07 r.to av j ab;have e2:av[(j:Int).toNat]'ai=av[j]:=rfl;rw[←e2]at ff;clear e2;cases a1:Ans r.to (av.take j) with
  |true=>
   rw[a1,tR]at ff;refine T ?_;refine Az [] ab ?_;rw[ff];exact U
  |false=>
   rw[a1,uB]at ff;by_cases b1:(av[(j:Int).toNat]'ai).port=r.to
   ·have g7:((av[(j:Int).toNat]'ai).port==r.to)=true:=by rw[b1];simp
    have m5:Ans r.to (av.take (j+1))=((av[(j:Int).toNat]'ai).origin==1):=by
     rw[ff,zL b1,yF,wF];simp
    refine T ?_;refine Az [] ab ?_;rw[m5];exact U
   ·have g7:((av[(j:Int).toNat]'ai).port==r.to)=false:=by rw[zR];exact b1
    rw[zI b1,yG]at ff;refine T ?_;refine Az [] ab ?_;rw[ff];exact U
 have cm:j=av.length:=qB h;subst cm;clear h hj;rw[yN,y2];refine T ?_;refine Ce 14 1000 6 Du E E ?_;refine A8 r.script.length (λj=>[(5,.ptr 5 0),(6,.ptr 6 0),(9,Ab true),(11,Aa 0),(14,.osl 1000),(82,.sl 6 Du r.script),(83,Aa r.script.length),(84,Aa j)]) (λj=>[(5,.box (cellsOf (Q7 r))),(6,.box (Da n)),(1000,.row 6 Du (Adg (r.script.take j)))]) [] U ?_;intro j hj;refine T ?_;constructor<;>intro h
 ·have ab:j<r.script.length:=qA h;have ai:(j:Int).toNat<r.script.length:=ab;clear h;obtain ⟨x,gd⟩:∃x,r.script[j]=x:=⟨_,rfl⟩
  have e2:r.script[(j:Int).toNat]'ai=x:=gd;have hs:=At2 r.script j ab;have hp:=ar r.script[j] (zJ ab);have j8:=Azi (r.script.take j);rw[zY]at j8;rw[gd]at hs hp;refine S ?_;refine⟨E,by omega,ai,?_⟩;rw[e2];by_cases hk:x.kind=1
  ·have g4:(x.kind==1)=true:=by rw[hk];rfl
   have g5:(x.port != r.from_)=false:=by rw[hp hk,bne_self_eq_false]
   have g6:(x.kind != 1)=false:=by rw[hk];rfl
   rw[zE hk,xM]at hs;refine T ?_;exact Az [] ab ⟨⟨E,E,E,E,E,E,E,E,E,E,E,E,E,E,E,E,Y⟩,⟨.inl E,E,.inl E,E,.inl (zH (Ob.row 6 Du) hs),E,Y⟩,E,E⟩
  ·have g4:(x.kind==1)=false:=by rw[zR];exact hk
   have g6:(x.kind != 1)=true:=by rw[xB];exact hk
   rw[zD hk]at hs;refine T ?_;refine X (Ag Γ.toTy 104 rfl rfl rfl rfl rfl (.row rfl) (.lit (e:=Du) (l:=[x]) rfl rfl) (λj hj=>by cases hj;decide) (by simp;omega) (by simp;omega)) ?_;exact Az [(1000,104)] ab ⟨⟨E,E,E,E,E,E,E,E,E,E,E,E,E,E,E,E,Y⟩,⟨.inl E,E,.inl E,E,.inl (zH (Ob.row 6 Du) hs),E,Y⟩,E,E⟩
 have cm:j=r.script.length:=qB h;subst cm;rw[yN];refine T ?_;refine Aj 1000 E ?_;refine C q4 F7 ?_;exact D
end Go.Sy.YtolnneiipmfgaaaGreatDoor
