/- Parts of a proof. -/
import Derived.Test.YticmobkdaneelaaGreatDoorYE32
set_option linter.all false
set_option linter.unusedVariables false
set_option linter.unusedSimpArgs false
set_option linter.deprecated false
namespace Go.Sy.YticmobkdaneelaaGreatDoor
open Go.Proofs Go.Proofs.Tryz
attribute [local irreducible] Go.Sy.G Go.Sy.DR
set_option maxRecDepth 100000
set_option maxHeartbeats 4000000
def Aot(n:Net)(hn:n.Fin)(hr:Ac n=true)(dev port:ByteArray):Sp 262 [Am n,Aw dev,Aw port] (Aa (endI n dev port)):=cT F262 ntmps262 λF hF=>by
 have q1:=Ke n hn hr dev;have q2:=Xy n hn hr (Cn n dev) port;have aa:=endI.eq_1 n dev port;generalize endI n dev port=res at *;generalize Uq n (Cn n dev) port=pt at *;generalize Cn n dev=d at *;by_cases h:d<0
 ·have g:decide (d<0)=true:=zO h;rw[zG h]at aa;subst aa;refine gD q1 F258 ?_;exact D
 ·have g:decide (d<0)=false:=zL h;rw[zD h]at aa;subst aa;refine gB q1 F258 q2 F259 ?_;exact D
def end_range{n:Net}{dev port:ByteArray}(h:¬endI n dev port<0):∃k:Nat,endI n dev port=k∧k<n.ports.length:=by
 unfold endI at h⊢;split
 ·rename_i h1;rw[zG h1]at h;omega
 ·rename_i h1;rw[zD h1]at h;exact K6 h
def A2q(n:Net)(hn:n.Fin)(l:LineM)(hl:LineW l):Sp 184 [Am n,A3 l] (.tup [Am (putLink n l).1,Aa (putLink n l).2]):=cT F184 ntmps184 λF hF=>by
 have qr:=Ky l hl;have qn:=A1 n hn;have db:=Te n hn;have aa:=putLink.eq_1 n l;dsimp only at aa;have hf:=fitsB.eq_1 n l 3;generalize putLink n l=res at *;generalize fitsB n l 3=f at *;cases h1:(l.kind==3) with
 |false=>
  have g1:(l.kind != 3)=true:=by rw[bne,h1];rfl
  rw[h1,yE]at hf;rw[hf,zG rfl]at aa;subst aa;refine T ?_;refine Ak 4 (C6 emptyN) E vL ?_;exact gA
 |true=>
 have g1:(l.kind != 3)=false:=by rw[bne,h1];rfl
 rw[h1,yF]at hf;cases h2:Cj l with
 |false=>
  rw[h2]at qr hf;rw[hf,yE,zG rfl]at aa;subst aa;refine gD qr F261 ?_;refine Ak 4 (C6 emptyN) E vL ?_;exact gA
 |true=>
 rw[h2]at qr hf;cases hr:Ac n with
 |false=>
  rw[hr]at qn hf;rw[hf,wR,zG rfl]at aa;subst aa;refine gB qr F261 qn F22 ?_;refine Ak 4 (C6 emptyN) E vL ?_;exact gA
 |true=>
 rw[hr]at qn hf;rw[hf,zD y_]at aa;have q1:=Aot n hn hr l.dev l.port;have q2:=Aot n hn hr l.peer l.far;have ra:=@end_range n l.dev l.port;have rb:=@end_range n l.peer l.far;have il:n.links.length<2147483648:=hn.links;generalize endI n l.dev l.port=a at *;generalize endI n l.peer l.far=b at *;refine gB qr F261 qn F22 ?_;refine gJ q1 F262 q2 F262 ?_;refine Xd (Acp Γ.toTy E E E E E E) ?_;refine T ?_;refine Bf 2 8 (Am n) E E E ?_;refine Bf 3 17 (A3 l) E E E ?_;refine Bf 6 2 (.agg [Aa a,Aa b]) E E E ?_;refine C3 (λj:Nat=>j≤2∧(1≤j→¬a<0)∧(2≤j→¬b<0)) (λj=>[(2,.ref 8 (Am n) 0),(3,.ref 17 (A3 l) 0),(4,.ptr 1001 0),(6,.ref 2 (.agg [Aa a,Aa b]) 0),(41,.agg [Aa a,Aa b]),(42,Aa j)]) (λ_=>[(1001,.box [.val (.slice none 0 0),.val (.slice none 0 0),.val (.slice none 0 0),.val (.slice none 0 0),.val (.slice none 0 0),.val (.slice none 0 0),.val (.slice none 0 0),.val (.slice none 0 0)])]) (λj=>2-j) 0 [(1001,4)] ⟨by omega,by omega,by omega⟩ U ?_;rintro j ⟨hj,ja,jb⟩;have hc:j=0∨j=1∨j=2:=by omega
 rcases hc with rfl|rfl|rfl
 ·by_cases ka:a<0
  ·have g1:decide (a<0)=true:=zO ka;rw[zG (.inl ka)]at aa;subst aa;refine T ?_;refine X (Cs (k:=.int .i64) Γ.toTy E E E Tryz.underlying3 E E j_ j_ E) ?_;refine Ak 1001 (C6 emptyN) E vL ?_;exact gA
  ·have g1:decide (a<0)=false:=zL ka;refine T ?_;refine X (Cs (k:=.int .i64) Γ.toTy E E E Tryz.underlying3 E E j_ j_ E) ?_;exact Be 1 [] ⟨by omega,λ_=>ka,by omega⟩ q_ U
 ·have ka:=ja q_;by_cases kb:b<0
  ·have g1:decide (b<0)=true:=zO kb;rw[zG (.inr kb)]at aa;subst aa;refine T ?_;refine X (Cs (k:=.int .i64) Γ.toTy E E E Tryz.underlying3 E E j_ j_ E) ?_;refine Ak 1001 (C6 emptyN) E vL ?_;exact gA
  ·have g1:decide (b<0)=false:=zL kb;refine T ?_;refine X (Cs (k:=.int .i64) Γ.toTy E E E Tryz.underlying3 E E j_ j_ E) ?_;exact Be 2 [] ⟨by omega,λ_=>ka,λ_=>kb⟩ q_ U
 ·have ka:=ja q_;have kb:=jb q_;obtain ⟨a,rfl,ku⟩:=ra ka;obtain ⟨b,rfl,km⟩:=rb kb;rw[zD (λh=>h.elim ka kb)]at aa;clear ja jb ra rb hj;have je:(a:Int).toNat<n.ports.length:=ku;have np:(b:Int).toNat<n.ports.length:=km;have hna:nth n.ports (a:Int)=n.ports[(a:Int).toNat]'je:=Ai je;have hnb:nth n.ports (b:Int)=n.ports[(b:Int).toNat]'np:=Ai np;rw[hna,hnb]at aa;by_cases k1:(n.ports[(a:Int).toNat]'je).dev=(n.ports[(b:Int).toNat]'np).dev
  ·have g1:((n.ports[(a:Int).toNat]'je).dev==(n.ports[(b:Int).toNat]'np).dev)=true:=by rw[yJ];exact k1
   rw[zG (.inl k1)]at aa;subst aa;refine T ?_;refine Ak 1001 (C6 emptyN) E vL ?_;exact gA
  have g1:((n.ports[(a:Int).toNat]'je).dev==(n.ports[(b:Int).toNat]'np).dev)=false:=by rw[zR];exact k1
  by_cases k2:0≤(n.ports[(a:Int).toNat]'je).link
  ·have g2:decide ((n.ports[(a:Int).toNat]'je).link≥0)=true:=zO k2;rw[zG (.inr (.inl k2))]at aa;subst aa;refine T ?_;refine Ak 1001 (C6 emptyN) E vL ?_;exact gA
  have g2:decide ((n.ports[(a:Int).toNat]'je).link≥0)=false:=zL k2;by_cases k3:0≤(n.ports[(b:Int).toNat]'np).link
  ·have g3:decide ((n.ports[(b:Int).toNat]'np).link≥0)=true:=zO k3;rw[zG (.inr (.inr k3))]at aa;subst aa;refine T ?_;refine Ak 1001 (C6 emptyN) E vL ?_;exact gA
  have g3:decide ((n.ports[(b:Int).toNat]'np).link≥0)=false:=zL k3;rw[zD (by rintro (h|h|h);exact k1 h;exact k2 h;exact k3 h)]at aa;by_cases k4:n.links.length=20
  ·have g4:((n.links.length:Int)==20)=true:=by rw[yJ];omega
   rw[zG k4]at aa;subst aa;refine T ?_;refine Ak 1001 (C6 emptyN) E vL ?_;exact gA
  have g4:((n.links.length:Int)==20)=false:=by rw[zR];omega
  rw[zD k4]at aa;have t1:Hk n.ports (a:Int) (n.links.length:Int)=n.ports.set (a:Int).toNat (⟨(n.ports[(a:Int).toNat]'je).row,(n.ports[(a:Int).toNat]'je).dev,(n.ports[(a:Int).toNat]'je).native,(n.ports[(a:Int).toNat]'je).cost,(n.links.length:Int),(n.ports[(a:Int).toNat]'je).name,(n.ports[(a:Int).toNat]'je).tagged⟩:Port):=by rw[Hk,hna]
  have l1:(Hk n.ports (a:Int) (n.links.length:Int)).length=n.ports.length:=by rw[Hk,yR]
  have ag:n.ports≠[]:=λe=>by rw[e]at ku;cases ku
  obtain ⟨P1,hP1⟩:∃P1,Hk n.ports (a:Int) (n.links.length:Int)=P1:=⟨_,rfl⟩
  rw[hP1]at aa t1 l1;have em:(b:Int).toNat<P1.length:=by rw[l1];exact np
  have vi:nth P1 (b:Int)=P1[(b:Int).toNat]'em:=Ai em;have hne1:P1≠[]:=λe=>by rw[e]at em;cases em
  have t2:Hk P1 (b:Int) (n.links.length:Int)=P1.set (b:Int).toNat (⟨(P1[(b:Int).toNat]'em).row,(P1[(b:Int).toNat]'em).dev,(P1[(b:Int).toNat]'em).native,(P1[(b:Int).toNat]'em).cost,(n.links.length:Int),(P1[(b:Int).toNat]'em).name,(P1[(b:Int).toNat]'em).tagged⟩:Port):=by rw[Hk,vi]
  obtain ⟨P2,hP2⟩:∃P2,Hk P1 (b:Int) (n.links.length:Int)=P2:=⟨_,rfl⟩
  rw[hP2]at aa t2;subst aa;refine T ?_;refine X (Ad [(0,901),(1,902),(2,903),(3,904),(4,905),(5,906),(6,907),(7,908)] E F30 db E W E V) ?_;refine C3 (λj:Nat=>j≤2) (λj=>[(3,.ref 17 (A3 l) 0),(4,.ptr 1001 0),(6,.ref 2 (.agg [Aa (a:Int),Aa (b:Int)]) 0),(11,.ptr 1002 0),(86,.agg [Aa (a:Int),Aa (b:Int)]),(87,Aa j)]) (λj=>[(1001,.box [.val (.slice none 0 0),.val (.slice none 0 0),.val (.slice none 0 0),.val (.slice none 0 0),.val (.slice none 0 0),.val (.slice none 0 0),.val (.slice none 0 0),.val (.slice none 0 0)]),(1002,.box [.osl 901,.osl 902,.osl 903,.osl 904,.osl 905,.osl 906,.osl 907,.osl 908]),(901,.row 5 Ax n.devices),(902,.row 7 A4 (if j=0 then n.ports else if j=1 then P1 else P2)),(903,.row 3 Bz n.links),(904,.row 6 As n.domains),(905,.row 4 A0 n.statics),(906,.row 4 Ba n.floods),(907,.row 5 Ca n.vrfs),(908,.row 5 B4 n.irbs)]) (λj=>2-j) 0 [(1002,11)] q_ U ?_;intro j hj;have hc:j=0∨j=1∨j=2:=by omega
  rcases hc with rfl|rfl|rfl
  ·rw[zG rfl];refine T ?_;refine X (Cs (k:=.int .i64) Γ.toTy E E E Tryz.underlying3 E E j_ j_ E) ?_;refine T ?_;refine⟨ag,?_⟩;refine T ?_;refine⟨(⟨(n.ports[(a:Int).toNat]'je).row,(n.ports[(a:Int).toNat]'je).dev,(n.ports[(a:Int).toNat]'je).native,(n.ports[(a:Int).toNat]'je).cost,(n.links.length:Int),(n.ports[(a:Int).toNat]'je).name,(n.ports[(a:Int).toNat]'je).tagged⟩:Port),E,E,?_⟩;refine T ?_;exact Be 1 [] q_ q_ ⟨⟨E,E,E,E,E,E,E,E,E,E,E,E,Y⟩,⟨.inl E,E,.inl E,E,.inl E,E,.inl (zH (Ob.row 7 A4) t1),E,.inl E,E,.inl E,E,.inl E,E,.inl E,E,.inl E,E,.inl E,E,Y⟩,E,E⟩
  ·rw[zD j_,zG rfl];refine T ?_;refine X (Cs (k:=.int .i64) Γ.toTy E E E Tryz.underlying3 E E j_ j_ E) ?_;refine T ?_;refine⟨hne1,?_⟩;refine T ?_;refine⟨(⟨(P1[(b:Int).toNat]'em).row,(P1[(b:Int).toNat]'em).dev,(P1[(b:Int).toNat]'em).native,(P1[(b:Int).toNat]'em).cost,(n.links.length:Int),(P1[(b:Int).toNat]'em).name,(P1[(b:Int).toNat]'em).tagged⟩:Port),E,E,?_⟩;refine T ?_;exact Be 2 [] q_ q_ ⟨⟨E,E,E,E,E,E,E,E,E,E,E,E,Y⟩,⟨.inl E,E,.inl E,E,.inl E,E,.inl (zH (Ob.row 7 A4) t2),E,.inl E,E,.inl E,E,.inl E,E,.inl E,E,.inl E,E,.inl E,E,Y⟩,E,E⟩
  ·rw[zD j_,zD j_];refine T ?_;refine X (Ag Γ.toTy 109 E E E E E (.row E) (.lit (e:=Bz) (l:=[(⟨l.row,(a:Int),(b:Int)⟩:Link)]) E E) j_ (by simp only[yC];omega) (by simp only[yC];omega)) ?_;refine T ?_;refine Aj 901 E ?_;refine Aj 902 E ?_;refine Aj 109 E ?_;refine Aj 904 E ?_;refine Aj 905 E ?_;refine Aj 906 E ?_;refine Aj 907 E ?_;refine Aj 908 E ?_;exact D
end Go.Sy.YticmobkdaneelaaGreatDoor
