/- Parts of a proof. -/
import Derived.Test.YtolnneiipmfgaaaGreatDoorYC14
import Derived.Test.YtolnneiipmfgaaaGreatDoorYC18
set_option linter.all false
set_option linter.unusedVariables false
set_option linter.unusedSimpArgs false
set_option linter.deprecated false
namespace Go.Sy.YtolnneiipmfgaaaGreatDoor
open Go.Proofs Go.Proofs.Tryz
attribute [local irreducible] Go.Sy.G Go.Sy.DR
set_option maxRecDepth 100000
set_option maxHeartbeats 4000000
def Ag0(l:List ByteArray)(p:ByteArray→Bool)(f:FuncId)(first cap:List SV)(hc:(SV.clo (.func f) first cap).inn []=true)(hf:∀x∈l,Hb prog f (first++[Ap x]++cap) (Ab (p x)))(hl:Am l):Sp 136 [.sl 1 Ap l,.clo (.func f) first cap] (Aa (Br p l)):=cT F136 ntmps136 λF hF=>by
 unfold Am at hl;have ar:∀x:ByteArray,B8 [] (first++[Ap x]++cap)=true:=λx=>C9 hc rfl
 refine fW ?_;refine Bi l.length (λj=>H8 (λ_ x=>!(p x)) l j) (λj=>[(0,.sl 1 Ap l),(1,.clo (.func f) first cap),(7,Aa l.length),(8,Aa j)]) (λ_=>[]) [] (Bo _ _) ⟨⟨E,E,Bd _,hc,E,E,E,E,Y⟩,Y,E,E⟩ ?_;intro j hj hI;refine fU ?_;constructor<;>intro h
 ·have h:=zO h;have an:j<l.length:=by omega
  refine fU ?_;refine⟨E,by omega,by omega,?_⟩;refine fW ?_;refine Eg (hf l[j] (zJ an)) E E E (by simp only[ar];rfl) E E ?_;refine fU ?_;constructor<;>intro h2
  ·refine fU ?_;refine As E (.cons .tmp .nil) (zH Aa ?_) E;exact Co an (λi hi bc=>by simpa using hI i hi bc) h2
  ·refine gG ?_;exact Bc [] hI an (Bl hI an (by simp[h2])) ⟨⟨E,E,Bd _,hc,E,E,E,E,Y⟩,Y,E,E⟩
 ·have h:=zT h;refine fU ?_;refine As E (.cons .tmp .nil) (zH Aa ?_) E;exact Di (λi hi=>by simpa using hI i hi q_)
def Qo(l:List ByteArray)(p:ByteArray→Bool)(f:FuncId)(first cap:List SV)(hc:(SV.clo (.func f) first cap).inn []=true)(hf:∀x∈l,Hb prog f (first++[Ap x]++cap) (Ab (p x)))(hl:Am l):Sp 69 [.sl 1 Ap l,.clo (.func f) first cap] (Ab (l.any p)):=cT F69 ntmps69 λF hF=>by
 have h0:B8 [] [.sl 1 Ap l,.clo (.func f) first cap]=true:=by simp only[B8,hc];rfl
 refine fW ?_;refine Mn (Ag0 l p f first cap hc hf hl) F136 E E (by simp only[h0];rfl) E E ?_;refine fU ?_;exact As E (.cons .tmp .nil) (zH Ab (Jm _ _).symm) E
def Agz(l:List TenM)(p:TenM→Bool)(f:FuncId)(first cap:List SV)(hc:(SV.clo (.func f) first cap).inn []=true)(hf:∀x∈l,Hb prog f (first++[Eu x]++cap) (Ab (p x)))(hl:Am l):Sp 70 [.sl 4 Eu l,.clo (.func f) first cap] (Aa (Br p l)):=cT F70 ntmps70 λF hF=>by
 unfold Am at hl;have ar:∀x:TenM,B8 [] (first++[Eu x]++cap)=true:=λx=>C9 hc rfl
 refine fW ?_;refine Bi l.length (λj=>H8 (λ_ x=>!(p x)) l j) (λj=>[(0,.sl 4 Eu l),(1,.clo (.func f) first cap),(7,Aa l.length),(8,Aa j)]) (λ_=>[]) [] (Bo _ _) ⟨⟨E,E,Bd _,hc,E,E,E,E,Y⟩,Y,E,E⟩ ?_;intro j hj hI;refine fU ?_;constructor<;>intro h
 ·have h:=zO h;have an:j<l.length:=by omega
  refine fU ?_;refine⟨E,by omega,by omega,?_⟩;refine fW ?_;refine Eg (hf l[j] (zJ an)) E E E (by simp only[ar];rfl) E E ?_;refine fU ?_;constructor<;>intro h2
  ·refine fU ?_;refine As E (.cons .tmp .nil) (zH Aa ?_) E;exact Co an (λi hi bc=>by simpa using hI i hi bc) h2
  ·refine gG ?_;exact Bc [] hI an (Bl hI an (by simp[h2])) ⟨⟨E,E,Bd _,hc,E,E,E,E,Y⟩,Y,E,E⟩
 ·have h:=zT h;refine fU ?_;refine As E (.cons .tmp .nil) (zH Aa ?_) E;exact Di (λi hi=>by simpa using hI i hi q_)
def Aa4(l:List TenM)(p:TenM→Bool)(f:FuncId)(first cap:List SV)(hc:(SV.clo (.func f) first cap).inn []=true)(hf:∀x∈l,Hb prog f (first++[Eu x]++cap) (Ab (p x)))(hl:Am l):Sp 24 [.sl 4 Eu l,.clo (.func f) first cap] (Ab (l.any p)):=cT F24 ntmps24 λF hF=>by
 have h0:B8 [] [.sl 4 Eu l,.clo (.func f) first cap]=true:=by simp only[B8,hc];rfl
 refine fW ?_;refine Mn (Agz l p f first cap hc hf hl) F70 E E (by simp only[h0];rfl) E E ?_;refine fU ?_;exact As E (.cons .tmp .nil) (zH Ab (Jm _ _).symm) E
structure TenOK(t:TenM):Prop where
 name:t.name.size≤100000
 devs:t.devs.length≤100000∧∀s∈t.devs,s.size≤100000
 ports:t.ports.length≤100000∧∀s∈t.ports,s.size≤100000
def oddS(s:ByteArray)(hs:s.size≤1000000):Sp 68 [Ap s] (Ab (!(A1 s))):=cT F68 ntmps68 λF hF=>by
 have q:=E3 s hs;refine gD q F47 ?_;exact D
def Amb(t:TenM)(ht:TenOK t):Sp 23 [Eu t] (Ab (Q2 t)):=cT F23 ntmps23 λF hF=>by
 have qn:=E3 t.name (by have:=ht.name;omega);have qd:=Qo t.devs (λs=>!(A1 s)) 68 [] [] rfl (λs hs=>⟨⟨_,_,F68⟩,oddS s (by have:=ht.devs.2 s hs;omega)⟩) (by have:=ht.devs.1;unfold Am;omega);have qp:=Qo t.ports (λs=>!(A1 s)) 68 [] [] rfl (λs hs=>⟨⟨_,_,F68⟩,oddS s (by have:=ht.ports.2 s hs;omega)⟩) (by have:=ht.ports.1;unfold Am;omega);have aa:Q2 t=(A1 t.name&&(decide (t.devs.length=t.ports.length)&&(decide (0<t.devs.length)&&(decide (t.devs.length≤16)&&(!(t.devs.any λs=>!(A1 s))&&!(t.ports.any λs=>!(A1 s))))))):=rfl;rw[aa];clear aa ht;generalize (t.devs.any λs=>!(A1 s))=od at *;generalize (t.ports.any λs=>!(A1 s))=op at *;obtain ⟨row,nm,ds,ps⟩:=t;dsimp only at *;generalize A1 nm=b1 at *;cases b1
 ·refine gD qn F47 ?_;exact D
 by_cases k1:ds.length=ps.length;rotate_left
 ·have f1:((ds.length:Int)==(ps.length:Int))=false:=by rw[zR];omega
  rw[zI k1];refine gD qn F47 ?_;exact D
 have f1:((ds.length:Int)==(ps.length:Int))=true:=by rw[yI];omega
 rw[zL k1];by_cases k2:0<ds.length;rotate_left
 ·have f2:decide ((ds.length:Int)>0)=false:=zI q_;rw[zI k2];refine gD qn F47 ?_;exact D
 have f2:decide ((ds.length:Int)>0)=true:=zL q_;rw[zL k2];by_cases k3:ds.length≤16;rotate_left
 ·have f3:decide ((ds.length:Int)≤16)=false:=zI q_;rw[zI k3];refine gD qn F47 ?_;exact D
 have f3:decide ((ds.length:Int)≤16)=true:=zL q_;rw[zL k3];cases od;rotate_left
 ·refine gA qn F47 qd F69 ?_;exact D
 ·refine gA qn F47 qd F69 ?_;refine C qp F69 ?_;exact D
def A01(n:Net)(i:Int)(ow:List Int)(ps:List ByteArray):Il n i ow [] ps=(ow,0):=by
 rw[Il];intro d ds p ps h;cases h
def claimS(n:Net)(hn:n.Fin)(hr:Ac n=true)(i:Int)(t:TenM)(ht:t.devs.length=t.ports.length)(hl:t.devs.length≤100000)(ow:List Int)(how:ow.length=n.ports.length):Sq 25 [Ao n,.osl 0,Aa i,Eu t] [(0,.row 1 Aa ow)] (Aa (Il n i ow t.devs t.ports).2) [(0,.row 1 Aa (Il n i ow t.devs t.ports).1)]:=cT F25 ntmps25 λF hF=>by
 obtain ⟨row,nm,ds,ps⟩:=t;dsimp only at *;obtain ⟨res,aa⟩:∃res,Il n i ow ds ps=res:=⟨_,rfl⟩
 rw[aa];refine T ?_;refine Cj (λx:Nat×List Int=>Il n i x.2 (ds.drop x.1) (ps.drop x.1)=res∧x.1≤ds.length∧x.2.length=n.ports.length) (λx=>[(1,.osl 0),(2,Aa i),(4,.ptr 4 0),(7,.ptr 7 0),(8,Aa 0),(13,.sl 1 Ap ds),(14,Aa ds.length),(15,Aa x.1)]) (λx=>[(0,.row 1 Aa x.2),(4,.box (Da n)),(7,.box [Aa row,Ap nm,.sl 1 Ap ds,.sl 1 Ap ps])]) (λx=>ds.length-x.1) (0,ow) [] ⟨aa,by simp,how⟩ U ?_;rintro ⟨j,vk⟩ ⟨hI,hj,hlen⟩;dsimp only at hI hj hlen⊢;refine T ?_;constructor<;>intro h
 ·have ab:j<ds.length:=qA h;have r6:j<ps.length:=by omega
  have ai:(j:Int).toNat<ds.length:=ab;have lu:(j:Int).toNat<ps.length:=r6;clear h;rw[yK ab,yK r6,Il]at hI;have q1:=I4 n hn hr (ds[(j:Int).toNat]'ai);have q2:=Tl n hn hr (Cg n (ds[(j:Int).toNat]'ai)) (ps[(j:Int).toNat]'lu);have eI:Og n (Cg n ds[j]) ps[j]=Og n (Cg n (ds[(j:Int).toNat]'ai)) (ps[(j:Int).toNat]'lu):=rfl;rw[eI]at hI;have m4:¬Og n (Cg n (ds[(j:Int).toNat]'ai)) (ps[(j:Int).toNat]'lu)<0→(Og n (Cg n (ds[(j:Int).toNat]'ai)) (ps[(j:Int).toNat]'lu)).toNat<n.ports.length:=λh=>by
   obtain ⟨k,e,hk⟩:=Ke (p:=λp:Port=>p.dev==(Cg n (ds[(j:Int).toNat]'ai))&&p.name==(ps[(j:Int).toNat]'lu)) (l:=n.ports) h;show (Br _ n.ports).toNat<_;rw[e];exact hk
  generalize Og n (Cg n (ds[(j:Int).toNat]'ai)) (ps[(j:Int).toNat]'lu)=at_ at *;by_cases k1:at_<0
  ·have f1:decide (at_<0)=true:=zL k1;rw[zE k1]at hI;subst hI;refine gA q1 F72 q2 F71 ?_;exact E0
  have f1:decide (at_<0)=false:=zI k1;have hp:=m4 k1;have h0:0≤at_:=by omega
  have mw:at_.toNat<vk.length:=by omega
  rw[zD k1,Af hp,Af mw]at hI;by_cases k2:0≤(n.ports[at_.toNat]'hp).link
  ·have f2:decide ((n.ports[at_.toNat]'hp).link≥0)=true:=zL k2;rw[zE (.inl k2)]at hI;subst hI;refine gA q1 F72 q2 F71 ?_;exact E0
  have f2:decide ((n.ports[at_.toNat]'hp).link≥0)=false:=zI k2;by_cases k3:vk[at_.toNat]'mw=-1;rotate_left
  ·have f3:(vk[at_.toNat]'mw != -1)=true:=by rw[xB];exact k3
   rw[zE (.inr k3)]at hI;subst hI;refine gA q1 F72 q2 F71 ?_;exact E0
  have f3:(vk[at_.toNat]'mw != -1)=false:=by rw[bne_eq_false_iff_eq];exact k3
  rw[zD (λh=>h.elim k2 (λh=>h k3))]at hI;refine gA q1 F72 q2 F71 ?_;refine⟨i,E,E,?_⟩;refine T ?_;exact Ax (j+1,vk.set at_.toNat i) [] ⟨hI,ab,by simp;exact hlen⟩ (by dsimp only;omega) U
 ·have cm:j=ds.length:=qB h;subst cm;clear h;rw[wQ,vI q_]at hI;rw[A01]at hI;subst hI;refine T ?_;exact E0
def Oc(m k:Nat):List Int:=List.replicate k (-1)++List.replicate (m-k) 0
def Vc(m k:Nat)(h:k≤m):(Oc m k).length=m:=by simp[Oc];omega
def A2q(m:Nat):Oc m m=List.replicate m (-1):=by simp[Oc]
def Ayx(m k c:Nat)(_h:k≤m)(hc:c=min k (m-k)):(Oc m k).take k++(Oc m k).take c++(Oc m k).drop (k+c)=Oc m (k+c):=by
 have e1:(Oc m k).take k=List.replicate k (-1):=by
  rw[Oc,vO y_];simp
 have e2:(Oc m k).take c=List.replicate c (-1):=by
  rw[Oc,vO (by simp;omega)];simp;omega
 have e3:(Oc m k).drop (k+c)=List.replicate (m-(k+c)) 0:=by
  rw[Oc,List.drop_append,vI y_,wP];simp;omega
 rw[e1,e2,e3,Oc,List.replicate_append_replicate]
def Atf(m:Nat)(h:m<2147483648):Sq 21 [.sl 1 Aa [-1],Aa m] [] (.osl 30) [(30,.row 1 Aa (List.replicate m (-1)))]:=cT F21 ntmps21 λF hF=>by
 have hw:IntKind.u64.wrap (m:Int)=m:=by rw[IntKind.wrap_u64];omega
 have x3:IntKind.i64.wrap (m:Int)=m:=by rw[IntKind.wrap_i64];omega
 have q:=mulS m q_;rw[←hw]at q;refine fW ?_;refine c0 q F67 ?_;rw[hw];refine fU ?_;refine⟨λh1=>yB (zO h1) q_,λ_=>?_⟩;refine fU ?_;rw[x3];refine Ah (B4 Γ.toTy (d:=30) (n:=m) Aa (0:Int) E E E E E E E E q_ q_ E E E) E E ?_;refine fU ?_;refine Ah (Wy Γ.toTy (l:=List.replicate m (0:Int)) (m:=([-1]:List Int)) E E E E E .sl) E E ?_;have e0:([-1]:List Int).take (List.replicate m (0:Int)).length++(List.replicate m (0:Int)).drop ([-1]:List Int).length=Oc m (min 1 m):=by
  cases m with
  |zero=>rfl
  |succ m=>simp[Oc,Nat.min_eq_left,tF]
 have e1:min ([-1]:List Int).length (List.replicate m (0:Int)).length=min 1 m:=by simp
 rw[e0,e1];refine fU ?_;refine Cj (λk:Nat=>min 1 m≤k∧k≤m) (λk=>[(7,.osl 30),(8,Aa k)]) (λk=>[(30,.row 1 Aa (Oc m k))]) (λk=>m-k) (min 1 m) [] q_ uU ?_;intro k hk;have hl:=Vc m k hk.2;refine fU ?_;constructor<;>intro h1
 ·have ab:k<m:=by have:=zO h1;rw[hl]at this;omega
  clear h1;have cw:1≤k:=by omega
  have af:Oc m k≠[]:=λe=>by rw[e]at hl;simp at hl;omega
  refine Arw 30 [7] E af (λi hi=>by simp at hi;subst hi;rfl) ?_;intro b cap hc;rw[hl]at hc⊢;have gn:¬cap=k:=by omega
  have nk:=Ayx m k (min k (m-k)) hk.2 rfl;refine fU ?_;refine Bv (Dp (lo:=k) (hi:=m) Γ.toTy E E E E (.inr ⟨_,_,E,E⟩) (.inl ⟨E,E⟩) q_ q_) z_ E ?_;refine fU ?_;refine Bv (Dp (lo:=0) (hi:=k) Γ.toTy E E E E (.inl ⟨E,E⟩) (.inr ⟨_,_,E,E⟩) q_ q_) z_ E ?_;refine fU ?_;refine Bv (X7 Γ.toTy 30 (lo:=k) (k:=k) E E E E (by rw[zD gn,Nat.mul_one]) E (by rw[zD q_,Nat.zero_mul]) E hl q_ q_) z_ E ?_;refine gG ?_;refine⟨z_,?_⟩;refine fW ?_;refine Abk 30 31 [7] m E E (by rw[nk,Vc m _ q_];exact yD _) (λi hi=>by simp at hi;subst hi;rfl) ?_;have fx:((Oc m k).take k++(Oc m k).take (min k (m-k))++(Oc m k).drop (k+min k (m-k))).take m=Oc m (k+min k (m-k)):=by
   rw[nk,xG (by rw[Vc m _ q_];exact yD _)]
  exact Ax (k+min k (m-k)) [(30,31)] q_ q_ ⟨⟨E,E,E,E,Y⟩,⟨.inl (zH (Ob.row 1 Aa) fx.symm),E,Y⟩,E,E⟩
 ·have hkm:k=m:=by have:=zT h1;rw[hl]at this;omega
  subst hkm;rw[A2q];refine fU ?_;exact E0
def Ak8(n:Net)(i:Int):∀(ds ps:List ByteArray) (ow:List Int),(Il n i ow ds ps).1.length=ow.length
 |[],[],_=>rfl
 |[],_::_,_=>rfl
 |_::_,[],_=>rfl
 |d::ds,p::ps,ow=>by
  rw[Il];split
  ·rfl
  split
  ·rfl
  rw[Ak8 n i ds ps];simp
def Alq{t:TenM}(h:Q2 t=true):t.devs.length=t.ports.length:=by
 simp only[Q2,zG,zK]at h;exact h.2.1
def twiceS(x t:TenM):Sp 22 [Eu x,.ref 4 (Eu t) 0] (Ab (x.name==t.name)):=cT F22 ntmps22 λF hF=>by
 exact gB
def A7t(n:Net)(hn:n.Fin)(L:List TenM)(hL:∀t∈L,TenOK t)(hl:L.length≤100000):Sp 10 [Ao n,.sl 4 Eu L] (.tup [.sl 1 Aa (assignT n L).1,Aa (assignT n L).2.1,Aa (assignT n L).2.2.1,Aa (assignT n L).2.2.2]):=cT F10 ntmps10 λF hF=>by
 have q0:=A0 n hn;have aa:=assignT.eq_1 n L;generalize assignT n L=res at *;have oc:n.ports.length<2147483648:=hn.ports;cases hr:Ac n with
 |false=>
  rw[hr]at q0;rw[zE hr]at aa;subst aa;refine gD q0 F20 ?_;refine An 4 1 Aa E ?_;exact D
 |true=>
 rw[hr]at q0;rw[zD (by rw[hr];exact Bool.noConfusion)]at aa;dsimp only at aa;refine gD q0 F20 ?_;refine J3 16 Aa [-1] E E ?_;refine Aj 16 E ?_;refine X (Ad [(30,20)] E F21 (Atf n.ports.length oc) E Y E ⟨.inr E,Y⟩) ?_;obtain ⟨ga,hga⟩:∃ga,Sx n L 0 (List.replicate n.ports.length (-1)) L=ga:=⟨_,rfl⟩
 rw[hga]at aa;refine Cj (λx:Nat×List Int=>Sx n L x.1 x.2 (L.drop x.1)=ga∧x.1≤L.length∧x.2.length=n.ports.length) (λx=>[(1,.sl 4 Eu L),(2,.ptr 2 0),(4,.osl 20),(5,Aa 0),(6,Aa 0),(7,Aa 0),(21,.sl 4 Eu L),(22,Aa L.length),(23,Aa x.1)]) (λx=>[(2,.box (Da n)),(20,.row 1 Aa x.2)]) (λx=>L.length-x.1) (0,List.replicate n.ports.length (-1)) [] ⟨hga,by simp,xS⟩ U ?_;rintro ⟨j,ow⟩ ⟨hI,hj,hlen⟩;dsimp only at hI hj hlen⊢;refine T ?_;constructor<;>intro h
 ·have ab:j<L.length:=qA h;have ai:(j:Int).toNat<L.length:=ab;have ep:L.drop j=L[(j:Int).toNat]'ai::L.drop (j+1):=yK ab;rw[ep,Sx]at hI;have ht:=hL _ (zJ ai);clear h;have qq:=Aa4 (L.take j) (λx=>x.name==(L[(j:Int).toNat]'ai).name) 22 [] [.ref 4 (Eu (L[(j:Int).toNat]'ai)) 0] rfl (λx _=>⟨⟨_,_,F22⟩,twiceS x _⟩) (by unfold Am;rw[zY];omega);have q1:=Amb (L[(j:Int).toNat]'ai) ht;refine T ?_;refine Ba 9 4 (Eu (L[(j:Int).toNat]'ai)) E E E ?_;cases c1:Q2 (L[(j:Int).toNat]'ai) with
  |false=>
   rw[c1]at q1;rw[zE (.inl c1)]at hI;subst hI;rw[zE (by show (2:Int)≠0;decide)]at aa;subst aa;refine C q1 F23 ?_;refine An 4 1 Aa E ?_;exact D
  |true=>
  rw[c1]at q1;have hdp:=Alq c1;by_cases c2:10≤j
  ·have f2:decide (((j:Nat):Int)≥10)=true:=zL q_;rw[zE (.inr c2)]at hI;subst hI;rw[zE (by show (2:Int)≠0;decide)]at aa;subst aa;refine C q1 F23 ?_;refine An 4 1 Aa E ?_;exact D
  have f2:decide (((j:Nat):Int)≥10)=false:=zI q_;rw[zD (λh=>h.elim (λh=>by rw[c1]at h;cases h) c2)]at hI;cases c3:(L.take j).any (λx=>x.name==(L[(j:Int).toNat]'ai).name) with
  |true=>
   rw[c3]at qq;rw[zE c3]at hI;subst hI;rw[zE (by show (30:Int)≠0;decide)]at aa;subst aa;refine C q1 F23 ?_;refine X (Jn (lo:=0) (hi:=j) Γ.toTy (L.take j) E E E E (.inl ⟨E,E⟩) (.inr ⟨_,_,E,E⟩) (xQ _) q_ (by rw[List.drop_zero])) ?_;refine C qq F24 ?_;refine An 4 1 Aa E ?_;exact D
  |false=>
  rw[c3]at qq;rw[zD (by rw[c3];exact Bool.noConfusion)]at hI;have qc:=claimS n hn hr ((j:Nat):Int) (L[(j:Int).toNat]'ai) hdp (by have:=ht.devs.1;omega) ow hlen;have gn:=Ak8 n ((j:Nat):Int) (L[(j:Int).toNat]'ai).devs (L[(j:Int).toNat]'ai).ports ow;generalize Il n ((j:Nat):Int) ow (L[(j:Int).toNat]'ai).devs (L[(j:Int).toNat]'ai).ports=cg at *;obtain ⟨vk,ce⟩:=cg;dsimp only at hI gn qc;by_cases c4:ce=0;rotate_left
  ·have f4:(ce != 0)=true:=by rw[xB];exact c4
   rw[zE c4]at hI;subst hI;rw[zE c4]at aa;subst aa;refine C q1 F23 ?_;refine X (Jn (lo:=0) (hi:=j) Γ.toTy (L.take j) E E E E (.inl ⟨E,E⟩) (.inr ⟨_,_,E,E⟩) (xQ _) q_ (by rw[List.drop_zero])) ?_;refine C qq F24 ?_;refine X (Ad [(0,20)] E F25 qc E W E V) ?_;refine An 4 1 Aa E ?_;exact D
  have f4:(ce != 0)=false:=by rw[c4];rfl
  rw[zD (λh=>h c4)]at hI;refine C q1 F23 ?_;refine X (Jn (lo:=0) (hi:=j) Γ.toTy (L.take j) E E E E (.inl ⟨E,E⟩) (.inr ⟨_,_,E,E⟩) (xQ _) q_ (by rw[List.drop_zero])) ?_;refine C qq F24 ?_;refine X (Ad [(0,20)] E F25 qc E W E V) ?_;exact Ax (j+1,vk) [] ⟨hI,ab,by dsimp only;omega⟩ (by dsimp only;omega) U
 ·have cm:j=L.length:=qB h;rw[cm,wQ,Sx]at hI;subst hI;clear h;rw[zD (by show ¬((0:Int)≠0);decide)]at aa;dsimp only at aa;refine T ?_;obtain ⟨B,hB⟩:∃B,Ah2 n ow 0 n.ports=B:=⟨_,rfl⟩
  rw[hB]at aa;refine Cj (λk:Nat=>Ah2 n ow k (n.ports.drop k)=B∧k≤n.ports.length) (λk=>[(2,.ptr 2 0),(4,.osl 20),(5,Aa 0),(6,Aa 0),(7,Aa 0),(12,Aa k)]) (λ_=>[(2,.box (Da n)),(20,.row 1 Aa ow)]) (λk=>n.ports.length-k) 0 [] ⟨hB,by omega⟩ U ?_;rintro k ⟨hK,hk⟩;refine T ?_;constructor<;>intro h
  ·have om:k<n.ports.length:=qA h;have bl:(k:Int).toNat<n.ports.length:=om;have cw:(k:Int).toNat<ow.length:=by rw[hlen];exact om
   clear h;rw[yK om,Ah2,Af cw]at hK;by_cases d1:(n.ports[(k:Int).toNat]'bl).link<0;rotate_left
   ·have g1:decide ((n.ports[(k:Int).toNat]'bl).link<0)=false:=zI d1;rw[zD (λh=>d1 h.1)]at hK;refine T ?_;exact Ax (k+1) [] ⟨hK,om⟩ q_ U
   have g1:decide ((n.ports[(k:Int).toNat]'bl).link<0)=true:=zL d1;by_cases d2:ow[(k:Int).toNat]'cw=-1;rotate_left
   ·have g2:(ow[(k:Int).toNat]'cw == -1)=false:=by rw[zR];exact d2
    rw[zD (λh=>d2 h.2)]at hK;refine T ?_;exact Ax (k+1) [] ⟨hK,om⟩ q_ U
   have g2:(ow[(k:Int).toNat]'cw == -1)=true:=by rw[yI];exact d2
   rw[zE ⟨d1,d2⟩]at hK;subst hK;rw[zE om,Af bl]at aa;subst aa;have g3:decide (((k:Nat):Int)<(n.ports.length:Int))=true:=zL q_;refine T ?_;refine An 4 1 Aa E ?_;exact D
  ·have vj:k=n.ports.length:=qB h;clear h;rw[vj,wQ,Ah2]at hK;rw[←hK,zD q_]at aa;subst aa;have g3:decide (((k:Nat):Int)<(n.ports.length:Int))=false:=zI q_;refine T ?_;refine Aj 20 E ?_;exact D
def Ag2(l:List Hop)(p:Hop→Bool)(f:FuncId)(first cap:List SV)(hc:(SV.clo (.func f) first cap).inn []=true)(hf:∀x∈l,Hb prog f (first++[Df x]++cap) (Ab (p x)))(hl:Am l):Sp 148 [.sl 4 Df l,.clo (.func f) first cap] (Aa (Br p l)):=cT F148 ntmps148 λF hF=>by
 unfold Am at hl;have ar:∀x:Hop,B8 [] (first++[Df x]++cap)=true:=λx=>C9 hc rfl
 refine fW ?_;refine Bi l.length (λj=>H8 (λ_ x=>!(p x)) l j) (λj=>[(0,.sl 4 Df l),(1,.clo (.func f) first cap),(7,Aa l.length),(8,Aa j)]) (λ_=>[]) [] (Bo _ _) ⟨⟨E,E,Bd _,hc,E,E,E,E,Y⟩,Y,E,E⟩ ?_;intro j hj hI;refine fU ?_;constructor<;>intro h
 ·have h:=zO h;have an:j<l.length:=by omega
  refine fU ?_;refine⟨E,by omega,by omega,?_⟩;refine fW ?_;refine Eg (hf l[j] (zJ an)) E E E (by simp only[ar];rfl) E E ?_;refine fU ?_;constructor<;>intro h2
  ·refine fU ?_;refine As E (.cons .tmp .nil) (zH Aa ?_) E;exact Co an (λi hi bc=>by simpa using hI i hi bc) h2
  ·refine gG ?_;exact Bc [] hI an (Bl hI an (by simp[h2])) ⟨⟨E,E,Bd _,hc,E,E,E,E,Y⟩,Y,E,E⟩
 ·have h:=zT h;refine fU ?_;refine As E (.cons .tmp .nil) (zH Aa ?_) E;exact Di λi hi=>by simpa using hI i hi q_
def As8(h:Hop):Sp 149 [Df h] (Ab (decide (h.kind=3))):=cT F149 ntmps149 λF hF=>by
 exact gB
def A7c{α:Type}{p:α→Bool}{l:List α}{i:Int}(h:Br p l=i)(h0:0≤i):∃hi:i.toNat<l.length,p l[i.toNat]=true:=by
 rcases Ov p l with ⟨h1,_⟩|⟨k,hk,h1,h2,_⟩
 ·omega
 ·have e:i.toNat=k:=by omega
  subst e;exact⟨hk,h2⟩
def A5u(a:Nat)(h:a<4294967296):PacketOK (Mo a):=⟨by show 0≤255;decide,by show 0≤65535;decide,by show 64≤255;decide,by show 17≤255;decide,by show 1<4294967296;decide,h⟩
def A1e(a:Nat):(ipPutT (Mo a)).1.length=20:=by
 rw[ipPutT,zD (by show ¬1480<0;decide)];show (Hl (Mo a) _++[]).length=20;rw[xM];rfl
def Apl{n:Net}(hu:Ds n)(d:Int):0≤(nth n.irbs d).addr∧(nth n.irbs d).addr<4294967296:=by
 rw[nth];cases h:n.irbs[d.toNat]? with
 |none=>exact⟨by decide,by decide⟩
 |some x=>exact hu x (List.mem_of_getElem? h)
def Akr{n:Net}(hu:Ds n)(l:List Hop):FrameOK (frameW n l):=by
 unfold frameW;split
 ·have:=Apl hu (nth n.domains (nth l (Yr l-1)).domain).irb;refine⟨?_,by show 2203318222849<281474976710656;decide,by show 2048≤65535;decide,?_⟩
  ·show 2199023255552+(irbOf n l).addr.toNat<281474976710656;unfold irbOf;omega
  ·show (ipPutT _).1.length≤1504;rw[A1e];decide
 ·exact⟨by decide,by decide,by decide,by decide⟩
def Axs(n:Net)(hn:n.Fin)(hu:Ds n)(l:List Hop)(hl:Am l)(ee:∀h∈l,0≤h.addr∧h.addr<4294967296):Sp 80 [Ao n,.sl 4 Df l] (.tup [.sl 1 Ak (wayBytes n l).1,Aa (wayBytes n l).2]):=cT F80 ntmps80 λF hF=>by
 have aa:=wayBytes.eq_1 n l;generalize wayBytes n l=res at *;have hr:=A0 n hn;have js:=hl;unfold Am at js;refine fW ?_;constructor<;>intro h
 ·have h0:l=[]:=zX (qA h);rw[zD (λx=>x.2.1 h0)]at aa;subst aa;refine T ?_;refine An 4 1 Ak E ?_;exact D
 have h0:0<l.length:=qB h;clear h;have af:l≠[]:=λe=>by rw[e]at h0;simp at h0
 refine Ba 2 8 (Ao n) E E E ?_;refine gD hr F20 ?_;cases hb:Ac n
 ·rw[zD (λx=>by rw[hb]at x;cases x.1)]at aa;subst aa;refine T ?_;refine An 4 1 Ak E ?_;exact D
 refine T ?_;refine Bi l.length (λj=>H8 (stepB n l) l j) (λj=>[(1,.sl 4 Df l),(2,.ref 8 (Ao n) 0),(6,.ptr 6 0),(22,.sl 4 Df l),(23,Aa l.length),(24,Aa j)]) (λ_=>[(6,.box [Bj 281474976710655,Bj 2203318222849,Aa 34997,.val (.slice none 0 0)])]) [] (Bo _ _) U ?_;intro j hj hI;refine T ?_;constructor<;>intro h
 ·have ab:j<l.length:=qA h;have ai:(j:Int).toNat<l.length:=by simpa using ab
  obtain ⟨x,gd⟩:∃x,l[j]=x:=⟨_,rfl⟩
  have e1:l[(j:Int).toNat]'ai=x:=gd;have br:=stepB.eq_1 n l j x;have d9:stepB n l j x=false→res=([],2):=λh2=>by
   rw[zD (λy=>by have:=allB_iff.1 y.2.2 j ab;rw[gd,h2]at this;cases this)]at aa;exact aa
  clear h;refine S ?_;refine⟨E,by omega,ai,?_⟩;rw[e1];by_cases ly:x.domain<0
  ·have aa:=d9 (by rw[br,Z1 q_,yG]);subst aa;refine T ?_;refine An 4 1 Ak E ?_;exact D
  by_cases iv:(n.domains.length:Int)≤x.domain
  ·have aa:=d9 (by rw[br,Z1 q_,yG]);subst aa;refine T ?_;refine An 4 1 Ak E ?_;exact D
  have a7:=Qg (n:=n.domains.length) (i:=x.domain) q_;rw[a7,yF]at br;by_cases hk:x.kind=3;rotate_left
  ·rw[zI hk,yG]at br;refine T ?_;exact Bc [] hI ab (Bl hI ab (by rw[gd];exact br)) U
  rw[zL hk,yF]at br;by_cases lu:j=0
  ·have aa:=d9 (by rw[br,zL lu];rfl);subst aa;refine T ?_;refine An 4 1 Ak E ?_;exact D
  rw[zI lu,uB]at br;have cw:((j:Int)-1).toNat<l.length:=by omega
  have ry:=hI (j-1) q_ q_;have vm:Ai (l[((j:Int)-1).toNat]'cw).domain n.domains.length=true:=by
   have e:((j:Int)-1).toNat=j-1:=by omega
   simp only[e];unfold stepB at ry;simp only[zG]at ry;exact ry.1
  have j4:=placeB_iff.1 vm;rw[Af cw,Af j4.2]at br;by_cases m4:(n.domains[(l[((j:Int)-1).toNat]'cw).domain.toNat]'j4.2).irb<0
  ·have aa:=d9 (by rw[br,zL m4];rfl);subst aa;refine T ?_;refine⟨λ_=>?_,λh=>yB m4 (zT h)⟩;refine T ?_;refine An 4 1 Ak E ?_;exact D
  rw[zI m4]at br;refine T ?_;refine⟨λh=>yB (zO h) m4,λ_=>?_⟩;refine T ?_;exact Bc [] hI ab (Bl hI ab (by rw[gd];exact br)) U
 ·have jc:j=l.length:=qB h;subst jc;clear h;have df:H7 (stepB n l) l=true:=allB_iff.2 λi hi=>hI i hi hi
  rw[zE ⟨hb,af,df⟩]at aa;subst aa;have qi:=Ag2 l (λh=>decide (h.kind=3)) 149 [] [] rfl (λx hx=>⟨⟨_,_,F149⟩,As8 x⟩) hl;have hri:Br (λh=>decide (h.kind=3)) l=Yr l:=rfl;rw[hri]at qi;have ab:=Ij (λh:Hop=>decide (h.kind=3)) l;have his:=λh0=>A7c hri h0
  rw[hri]at ab;have q7:=M2 (frameW n l) (Akr hu l);have fy:=frameW.eq_1 n l;have p9:=irbOf.eq_1 n l;generalize irbOf n l=ib at *;generalize Yr l=r at *;refine gD qi F148 ?_;constructor<;>intro h
  ·have h1:0<r:=zO h;rw[zE h1]at fy;obtain ⟨ji,hr3⟩:=his q_;have br:=allB_iff.1 df r.toNat ji;have cw:(r-1).toNat<l.length:=by omega
   have vm:Ai (l[(r-1).toNat]'cw).domain n.domains.length=true:=by
    have ry:=allB_iff.1 df (r-1).toNat cw;unfold stepB at ry;simp only[zG]at ry;exact ry.1
   have j4:=placeB_iff.1 vm;unfold stepB at br;rw[hr3,show ((r.toNat:Int)-1)=r-1 by omega,Af cw,Af j4.2]at br;simp only[zG,yF,yT,wJ,yE]at br;have ar:=(A0s hb j4.2).resolve_left q_;have kt:0≤(n.domains[(l[(r-1).toNat]'cw).domain.toNat]'j4.2).irb∧(n.domains[(l[(r-1).toNat]'cw).domain.toNat]'j4.2).irb.toNat<n.irbs.length:=by unfold InIrbs at ar;omega
   rw[Af cw,Af j4.2,Af kt.2]at p9;rw[Af ji]at fy;have ha:=ee _ (zJ ji);have xz:=yR ha.1;have hxa:=hu _ (zJ kt.2);have l6:=yR hxa.1;have q5:Sp 150 [.agg [Aa 0,Aa 0,Aa 64,Aa 17,A9 1,A9 ((l[r.toNat]'ji).addr.toNat:Nat),.sl 1 Ak []]] (.tup [.sl 1 Ak (ipPutT (Mo (l[r.toNat]'ji).addr.toNat)).1,Aa (ipPutT (Mo (l[r.toNat]'ji).addr.toNat)).2]):=Amt (Mo (l[r.toNat]'ji).addr.toNat) (A5u _ q_) (by show 0<100000;decide);rw[xz]at q5;have q6:=Aki (n.irbs[(n.domains[(l[(r-1).toNat]'cw).domain.toNat]'j4.2).irb.toNat]'kt.2).addr.toNat q_;rw[l6]at q6;subst p9;rw[fy]at q7⊢;clear fy;generalize (ipPutT (Mo (l[r.toNat]'ji).addr.toNat)).1=bo at *;refine T ?_;refine G_vw 74 (.agg [Aa 0,Aa 0,Aa 64,Aa 17,A9 1,A9 (l[r.toNat]'ji).addr,.sl 1 Ak []]) (.agg vL) ?_;refine gI q5 F150 q6 F151 ?_;refine Ah (Ad [(0,999)] E F83 q7 E Y E ⟨.inr E,Y⟩) E E ?_;refine Aj 999 E ?_;exact gB
  ·have h1:¬0<r:=zT h;rw[zD h1]at fy;rw[fy]at q7⊢;clear fy;refine T ?_;refine G_vw 99 (.agg [Bj 281474976710655,Bj Mq,Aa 34997,.sl 1 Ak []]) (.agg vL) ?_;refine Ah (Ad [(0,999)] E F83 q7 E Y E ⟨.inr E,Y⟩) E E ?_;refine Aj 999 E ?_;exact gB
def Ajk(b:List UInt8):FrameOK (takeF b).1:=by
 by_cases h:(takeF b).2=0
 ·exact Aff h
 ·rw[Ax3 h];exact Er
def Aof{f:FrameM}(hf:FrameOK f)(v:Nat)(hv:v≤4094):FrameOK (tagT f v).1:=by
 by_cases h:(tagT f v).2=0
 ·exact A15 hf v hv h
 ·unfold tagT at h⊢;split
  ·exact Er
  ·rename_i h1;rw[zD h1]at h;split
   ·exact Er
   ·rename_i h2;rw[zD h2]at h;exact yB E h
def Zf{n:Net}(hu:Ds n)(l:List Hop):(wayBytes n l).1.length≤1518:=by
 unfold wayBytes;split
 ·show (Lu _).length≤1518;rw[D5];have:=(Akr hu l).body;omega
 ·show 0≤1518;decide
def Arz(n:Net)(hn:n.Fin)(hu:Ds n)(hb:Ac n=true)(port:Int)(hp:0≤port∧port.toNat<n.ports.length)(l:List Hop)(hl:Am l)(ee:∀h∈l,Abj n h)(h0:0<l.length):Sp 32 [Ao n,Aa port,.sl 4 Df l] (Du (injectW n port l)):=cT F32 ntmps32 λF hF=>by
 have bl:(0:Int).toNat<l.length:=h0;have hd:=ee _ (zJ bl);have q1:=Axs n hn hu l hl (λh hh=>(ee h hh).2);have sh:=Zf (n:=n) hu l;have hv:=Y4 hb hd.1.2;have aa:=injectW.eq_1 n port l;rw[Af bl,Af hd.1.2,Af hp.2]at aa;generalize injectW n port l=res at *;obtain ⟨ve,s5⟩:∃v:Nat,(n.domains[(l[(0:Int).toNat]'bl).domain.toNat]'hd.1.2).vlan=v:=⟨_,(yR q_).symm⟩
 have ly:0≤(l[(0:Int).toNat]'bl).domain∧(l[(0:Int).toNat]'bl).domain.toNat<n.domains.length:=hd.1;have q3:=λf hf=>Aog f ve hf q_
 have ho:=λf hf=>Aof (f:=f) hf ve q_
 rw[←s5]at q3 ho;clear s5;generalize wayBytes n l=bb at *;have q2:=Tx bb.1 q_;have hf:=Ajk bb.1;generalize takeF bb.1=tk at *;have q3:=q3 _ hf;have q4:=M2 _ (ho _ hf);clear ho;refine fW ?_;refine Ba 3 8 (Ao n) E E E ?_;refine gD q1 F80 ?_;constructor<;>intro h
 ·have lj:(n.domains[(l[(0:Int).toNat]'bl).domain.toNat]'hd.1.2).vlan≠(n.ports[port.toNat]'hp.2).native:=by simpa using h
  rw[zE lj]at aa;clear h hv lj;generalize tagT tk.1 (n.domains[(l[(0:Int).toNat]'bl).domain.toNat]'hd.1.2).vlan=tg at *;subst aa;refine gA q2 F81 q3 F82 ?_;refine Ah (Ad [(0,55)] E F83 q4 E Y E ⟨.inr E,Y⟩) E E ?_;refine Aj 55 E ?_;refine T ?_;refine Al 6 [Aa 1,Aa port,Aa 0,Aa 0,.sl 1 Ak (Lu tg.1),.sl 1 Ab []] E vL ?_;exact D
 ·have lj:¬(n.domains[(l[(0:Int).toNat]'bl).domain.toNat]'hd.1.2).vlan≠(n.ports[port.toNat]'hp.2).native:=by simpa using h
  rw[zD lj]at aa;subst aa;refine T ?_;refine Al 6 [Aa 1,Aa port,Aa 0,Aa 0,.sl 1 Ak bb.1,.sl 1 Ab []] E vL ?_;exact D
abbrev stO(n:Net)(s:GoM):Obs:=[(0,.box (Um n 1 s.m.now s.m.injected s.m.drops)),(1,.box (Le n s.m.up s.d)),(2,.row 1 Qc s.m.tables),(3,.row 1 Q9 s.m.queues),(5,.box [.ptr 0 0]),(6,.box [.osl 7]),(7,.row 6 Du s.out)]
abbrev stN(n:Net)(s:GoM):Obs:=[(0,.box (Um n 4 s.m.now s.m.injected s.m.drops)),(1,.non),(2,.row 1 Qc s.m.tables),(3,.row 1 Q9 s.m.queues),(4,.box (Le n s.m.up s.d)),(5,.box [.ptr 0 0]),(6,.box [.osl 8]),(7,.non),(8,.row 6 Du s.out)]
abbrev doSV:SV:=.clo (.func 29) [] [.ptr 5 0,.ptr 6 0]
abbrev pkO(n:Net)(s:GoM):Obs:=[(0,.box (Um n 1 s.m.now s.m.injected s.m.drops)),(1,.box (Le n s.m.up s.d)),(2,.row 1 Qc s.m.tables),(3,.row 1 Q9 s.m.queues),(5,.box [.ptr 0 0]),(6,.box [.osl 7]),(7,.row 6 Du s.out),(9,.box [doSV])]
abbrev pkN(n:Net)(s:GoM):Obs:=[(0,.box (Um n 4 s.m.now s.m.injected s.m.drops)),(1,.non),(2,.row 1 Qc s.m.tables),(3,.row 1 Q9 s.m.queues),(4,.box (Le n s.m.up s.d)),(5,.box [.ptr 0 0]),(6,.box [.osl 8]),(7,.non),(8,.row 6 Du s.out),(9,.box [doSV])]
def A1k(n:Net)(hn:n.Fin)(ck:n.Num)(s:GoM)(J D:Int)(ay:MacOK n s.m J D)(hJ:J<900000000000)(sx:0≤D)(hD:D≤900000000000)(hlen:s.out.length<1000000)(x:StepM)(hb:x.bytes.length<100000):Sq 29 [Du x,.ptr 5 0,.ptr 6 0] (stO n s) (.tup []) (stN n (doW n s x)):=cT F29 ntmps29 λF hF=>by
 have q1:=As3 n hn ck s.m s.d J D ay hJ sx hD x hb;have aa:=doW.eq_1 n s x;generalize doT n s.m x=r at *;generalize doD n s.m s.d x=dd at *;generalize doW n s x=res at *;subst aa;refine fW ?_;refine X (Aar (d:=900) E E E) ?_;refine X (Ad [] E F16 q1 E W E V) ?_;refine X (Ag Γ.toTy 8 E E E E E (.row E) (.lit (e:=Du) (l:=[x]) E E) y_ (by simp;omega) (by simp;omega)) ?_;exact A4 E .nil [] (stN n ⟨r.1,dd,s.out++[x]⟩) (λ_ h=>h) E E U
def A51(n:Net)(hn:n.Fin)(ck:n.Num)(m:MacM)(d:Bool)(J D:Int)(ay:MacOK n m J D)(hJ:J<900000000000)(sx:0≤D)(hD:D≤900000000000)(x:StepM)(hb:x.bytes.length<100000):Sq 29 [Du x,.ptr 5 0,.ptr 6 0] [(0,.box (Um n 1 m.now m.injected m.drops)),(1,.box (Le n m.up d)),(2,.row 1 Qc m.tables),(3,.row 1 Q9 m.queues),(5,.box [.ptr 0 0]),(6,.box [.val (.slice none 0 0)])] (.tup [])
   [(0,.box (Um n 4 (doW n ⟨m,d,[]⟩ x).m.now (doW n ⟨m,d,[]⟩ x).m.injected (doW n ⟨m,d,[]⟩ x).m.drops)),(1,.non),(2,.row 1 Qc (doW n ⟨m,d,[]⟩ x).m.tables),(3,.row 1 Q9 (doW n ⟨m,d,[]⟩ x).m.queues),(4,.box (Le n (doW n ⟨m,d,[]⟩ x).m.up (doW n ⟨m,d,[]⟩ x).d)),(5,.box [.ptr 0 0]),(6,.box [.osl 8]),(8,.row 6 Du (doW n ⟨m,d,[]⟩ x).out)]:=cT F29 ntmps29 λF hF=>by
 have q1:=As3 n hn ck m d J D ay hJ sx hD x hb;have aa:=doW.eq_1 n ⟨m,d,[]⟩ x;dsimp only at aa;generalize doT n m x=r at *;generalize doD n m d x=dd at *;generalize doW n ⟨m,d,[]⟩ x=res at *;subst aa;refine fW ?_;refine X (Aar (d:=900) E E E) ?_;refine X (Ad [] E F16 q1 E W E V) ?_;refine X (Ag Γ.toTy 8 E E E E E .nil (.lit (e:=Du) (l:=[x]) E E) y_ y_ y_) ?_;exact A4 E .nil [] [(0,.box (Um n 4 r.1.now r.1.injected r.1.drops)),(1,.non),(2,.row 1 Qc r.1.tables),(3,.row 1 Q9 r.1.queues),(4,.box (Le n r.1.up dd)),(5,.box [.ptr 0 0]),(6,.box [.osl 8]),(8,.row 6 Du ([]++[x]))] (λ_ h=>h) E E U
def A0f{P:Program}{o:Oper}{s:SS}{x y:Operand}{at_:Array TypeId}{k k':IntKind}{m n r:Int}(hr:(if m<n then n else m)=r)(h:o.op=.call ⟨.builtin .max,#[x,y],at_⟩)(hx:ev s x=.val (.int k m))(hy:ev s y=.val (.int k' n)):Good P o s ⟨.val (.int k r),[],[]⟩:=by
 subst hr;exact Good.pure λκ a w _ hr ho=>by
  have h1:=hr x (by simp[h,Op.operands,Call.operands]);have h2:=hr y (by simp[h,Op.operands,Call.operands]);rw[hx]at h1;rw[hy]at h2;refine⟨.int k (if m<n then n else m),?_,by simp[Rd]⟩;simp[execOp,h,resolve,invoke,builtin,Builtin.max_,Builtin.max2,h1.val,h2.val]
def Ae5(n:Net)(hn:n.Fin)(ck:n.Num)(s:GoM)(J D:Int)(ay:MacOK n s.m J D)(hJ:J<900000000000)(sx:0≤D)(hD:D≤900000000000)(hlen:s.out.length<1000000)(dom:Int):Sq 30 [Aa dom,.ptr 9 0,.ptr 5 0] (pkO n s) (.tup []) (pkN n (Vk n s dom)):=cT F30 ntmps30 λF hF=>by
 have hqo:=I3 ay dom;have q1:=Ayj n s.m s.d dom hqo;have q2:=A1k n hn ck s J D ay hJ sx hD hlen (pickX s.m dom) (by show 0<100000;decide);rw[Vk];generalize doW n s (pickX s.m dom)=res at *;have ru:=pickX.eq_1 s.m dom;have hql:(if Ai dom s.m.queues.length=true then queueL s.m dom else []).length<1000000:=by
  have:=hqo.1;split
  ·omega
  ·simp
 generalize (if Ai dom s.m.queues.length=true then queueL s.m dom else [])=qs at *;obtain ⟨v,hv⟩:∃v:Int,(if (qs.length:Int)-1<0 then 0 else (qs.length:Int)-1)=v:=⟨_,rfl⟩
 rw[hv]at ru;generalize pickX s.m dom=px at *;subst ru;refine T ?_;refine Xe (Ad [] E F31 q1 E W E V) ?_;refine Xd (A0f hv E E E) ?_;refine Xd (L3 [] [] (Av E E F29) q2 (.cons (.agg vL) (.cons (.refl _) (.cons (.refl _) .nil))) W E V E) ?_;exact A4 E .nil [] (pkN n res) (λ_ h=>h) E E U
end Go.Sy.YtolnneiipmfgaaaGreatDoor
namespace Go.Sy.YtolnneiipmfgaaaGreatDoor
open Go.Proofs Go.Proofs.Tryz
def Anc{n:Net}(hn:n.Fin)(ck:n.Num){s:GoM}{J D:Int}(h:MacOK n s.m J D)(hJ:0≤J)(hD:0≤D)(x:StepM):MacOK n (doW n s x).m (J+1) (D+4294967298)∧(doW n s x).out.length=s.out.length+1 :=
 ⟨A47 hn ck h hJ hD x,by simp[doW]⟩
def A35{n:Net}(hn:n.Fin)(ck:n.Num){s:GoM}{J D:Int}(h:MacOK n s.m J D)(hJ:0≤J)(hD:0≤D)(x:Hop):MacOK n (linkW n s x).m (J+1) (D+4294967298)∧(linkW n s x).out.length≤s.out.length+1:=by
 unfold linkW;split
 ·have:=Anc hn ck h hJ hD ⟨5,0,0,0,[],upW n x⟩;exact⟨this.1,by omega⟩
 ·exact⟨h.mono q_ q_,by omega⟩
def A4w{n:Net}(hn:n.Fin)(ck:n.Num)(from_:Int)(l:List Hop):∀k:Nat,MacOK n (goW n from_ l k).m (1+2*k) ((1+2*k)*4294967298)∧(goW n from_ l k).out.length≤1+2*k
 |0=>by
  have:=Anc hn ck (s:=⟨newT n,false,[]⟩) (Aml n) (wB _) (wB _) (injectW n from_ l);rw[goW];exact⟨this.1.mono q_ q_,by rw[this.2];simp⟩
 |k+1=>by
  obtain ⟨h1,h2⟩:=A4w hn ck from_ l k;rw[goW];have h3:=A35 hn ck h1 q_ q_ (nth l ((k+1:Nat):Int));have h4:=Anc hn ck h3.1 q_ q_ (pickX (linkW n (goW n from_ l k) (nth l ((k+1:Nat):Int))).m (nth l ((k:Nat):Int)).domain);refine⟨h4.1.mono q_ q_,?_⟩;have h5:=h4.2;unfold Vk;omega
def Aqe{n:Net}(hu:Ds n)(hb:Ac n=true)(from_:Int){l:List Hop}(h0:0<l.length)(ee:∀h∈l,Abj n h):(injectW n from_ l).bytes.length<100000:=by
 have bl:(0:Int).toNat<l.length:=h0;have hd:=ee _ (zJ bl);have hv:=Y4 hb hd.1.2;show (if _ then _ else _:List UInt8).length<100000;rw[Af bl,Af hd.1.2];obtain ⟨ve,s5⟩:∃v:Nat,(n.domains[(l[(0:Int).toNat]'bl).domain.toNat]'hd.1.2).vlan=v:=⟨_,(yR q_).symm⟩
 rw[s5];split
 ·rw[D5];have:=(Aof (Ajk (wayBytes n l).1) ve q_).body;omega
 ·have:=Zf (n:=n) hu l;omega
attribute [local irreducible] Go.Sy.G Go.Sy.DR
set_option maxRecDepth 100000
set_option maxHeartbeats 8000000
def Ary(n:Net)(hn:n.Fin)(ck:n.Num)(hu:Ds n)(from_ to:Int):Sp 12 [Ao n,Aa from_,Aa to] (.tup [.sl 6 Du (wscriptT n from_ to).1,Aa (wscriptT n from_ to).2]):=cT F12 ntmps12 λF hF=>by
 have ak:=wscriptT.eq_1 n from_ to;generalize wscriptT n from_ to=res at *;have h1:=Ze n from_;have h2:=Ze n to;have j5:=hn.links;unfold Am at j5;refine fW ?_;refine Ba 3 8 (Ao n) E E E ?_;refine gD h1 F28 ?_;cases hf:K1 n from_
 ·rw[zD (λx=>by rw[hf]at x;cases x.1)]at ak;subst ak;refine T ?_;refine An 6 6 Du E ?_;exact D
 refine gD h2 F28 ?_;cases ht:K1 n to
 ·rw[zD (λx=>by rw[ht]at x;cases x.2.1)]at ak;subst ak;refine T ?_;refine An 6 6 Du E ?_;exact D
 refine T ?_;constructor<;>intro h
 ·rw[zD (λx=>x.2.2.1 (by simpa using h))]at ak;subst ak;refine T ?_;refine An 6 6 Du E ?_;exact D
 have af:from_≠to:=by simpa using h
 clear h;refine T ?_;cases ax:okB n (Ar4 n)
 ·rw[zD (λx=>by rw[ax]at x;cases x.2.2.2)]at ak;subst ak;refine C (Afm n hn ax) F15 ?_;refine An 6 6 Du E ?_;exact D
 rw[zE ⟨hf,ht,af,ax⟩]at ak;refine X (Ad [(0,800),(1,801),(2,802),(3,803)] E F15 (Awb n hn ax) E Y E V) ?_;have q2:=wayS n hn hu from_ to;have yi:=@Ar0 n hu from_ to;have yj:=@way_links n from_ to;have lc:Am (wayT n from_ to).1∨True:=.inr trivial;generalize wayT n from_ to=wr at *;obtain ⟨l,ok⟩:=wr;cases ok
 ·rw[zD y_]at ak;subst ak;refine C q2 F27 ?_;refine An 6 6 Du E ?_;exact D
 rw[zE rfl]at ak;obtain ⟨ee,hlen,hlne,hb⟩:=yi rfl;have hlk2:=yj rfl;clear yi yj lc;dsimp only at *;have cu:=Aky hb;have h0:0<l.length:=xV.2 hlne;have lq:Am l:=by unfold Am;omega
 have hp:=K0 hf;have q3:=Arz n hn hu hb from_ hp l lq ee h0;have q4:=A51 n hn ck (newT n) false 0 0 (Aml n) q_ q_ q_ (injectW n from_ l) (Aqe hu hb from_ h0 ee);rw[show doW n ⟨newT n,false,[]⟩ (injectW n from_ l)=goW n from_ l 0 from rfl]at q4;refine gI q2 F27 q3 F32 ?_;refine Xd (Au [(0,800),(1,801),(2,802),(3,803),(4,804),(5,8),(6,12),(8,805)] (Av E E F29) q4 E W E V) ?_;have fu:(l.drop 1).length=l.length-1:=by simp
 refine X (Jn (lo:=1) (hi:=l.length) Γ.toTy (l.drop 1) E E E E (.inr ⟨_,_,E,E⟩) (.inl ⟨E,E⟩) q_ (yD _) (by rw[yN])) ?_;clear q2 q3 q4;refine A8 (l.drop 1).length (λj=>[(3,.ref 8 (Ao n) 0),(10,.sl 4 Df l),(12,.ptr 6 0),(13,.ptr 9 0),(14,.clo (.func 30) [] [.ptr 9 0,.ptr 5 0]),(58,.sl 4 Df (l.drop 1)),(59,Aa (l.drop 1).length),(60,Aa j)]) (λj=>pkO n (goW n from_ l j))
  [(0,800),(1,804),(2,802),(3,803),(5,8),(6,12),(7,805),(9,13)] U ?_
 intro j hj;obtain ⟨ay,ky⟩:=A4w hn ck from_ l j;refine T ?_;constructor<;>intro h
 ·have ab:j<(l.drop 1).length:=qA h;have ai:(j:Int).toNat<(l.drop 1).length:=by simpa using ab
  have cw:((j+1:Nat):Int).toNat<l.length:=by omega
  have bl:(j:Int).toNat<l.length:=by omega
  have ux:goW n from_ l (j+1)=Vk n (linkW n (goW n from_ l j) (l[((j+1:Nat):Int).toNat]'cw)) (l[(j:Int).toNat]'bl).domain:=by rw[goW,Af cw,Af bl]
  have e1:(l.drop 1)[(j:Int).toNat]'ai=l[((j+1:Nat):Int).toNat]'cw:=by
   rw[vQ];congr 1;omega
  have hxl:=hlk2 _ (zJ cw);generalize l[((j+1:Nat):Int).toNat]'cw=x at *;generalize goW n from_ l j=s at *;have vo:=linkW.eq_1 n s x;clear h;refine S ?_;refine⟨E,by omega,ai,?_⟩;rw[e1];refine T ?_;constructor<;>intro h
  ·have hk:x.kind=1:=by simpa using h
   rw[zE hk]at vo;obtain ⟨gu,w7,ug⟩:=hxl hk;have nn:=upW.eq_1 n x;rw[Af gu.2]at w7 ug nn;have q6:=A1k n hn ck s _ _ ay q_ q_ q_ q_ ⟨5,0,0,0,[],upW n x⟩ (by show 0<100000;decide);obtain ⟨bx,hol2⟩:=Anc hn ck ay q_ q_ ⟨5,0,0,0,[],upW n x⟩;rw[←vo]at q6 bx hol2;rw[nn]at q6;clear vo nn;generalize linkW n s x=s1 at *;have q7:=Ae5 n hn ck s1 _ _ bx q_ q_ q_ q_ (l[(j:Int).toNat]'bl).domain;rw[←ux]at q7;clear h;refine T ?_;refine X (B4 Γ.toTy (d:=71) (n:=n.links.length) Ab false E E E E E E E E q_ q_ E E E) ?_;refine⟨by rw[xS];exact ug,?_⟩;refine fW ?_;refine⟨E,(by rw[xS];exact ug),true,E,E,?_⟩;refine T ?_;refine Aj 71 E ?_;refine X (L3 [(4,40),(8,41)] [] (Av E E F29) q6 (.cons (.agg vL) (.cons (.refl _) (.cons (.refl _) .nil))) W E V E) ?_;refine X (Au [(1,40),(7,41),(4,42),(8,43)] (Av E E F30) q7 E W E V) ?_;exact Az [(1,42),(7,43)] ab U
  ·have hk:¬x.kind=1:=by simpa using h
   rw[zD hk]at vo;rw[vo]at ux;have q7:=Ae5 n hn ck s _ _ ay q_ q_ q_ q_ (l[(j:Int).toNat]'bl).domain;rw[←ux]at q7;clear h;refine T ?_;refine X (Au [(4,42),(8,43)] (Av E E F30) q7 E W E V) ?_;exact Az [(1,42),(7,43)] ab U
 ·have jc:j=(l.drop 1).length:=qB h;subst jc;have o9:((l.length:Int)-1).toNat<l.length:=by omega
  have jv:A0r n from_ l=Vk n (goW n from_ l (l.drop 1).length) (l[((l.length:Int)-1).toNat]'o9).domain:=by rw[A0r,Af o9,fu]
  have q7:=Ae5 n hn ck _ _ _ ay q_ q_ q_ q_ (l[((l.length:Int)-1).toNat]'o9).domain;rw[←jv]at q7;clear jv;generalize A0r n from_ l=s2 at *;generalize goW n from_ l (l.drop 1).length=s at *;subst ak;clear h;refine T ?_;refine X (Au [(4,42),(8,43)] (Av E E F30) q7 E W E V) ?_;refine Aj 43 E ?_;exact D
set_option maxHeartbeats 4000000
def Att{n:Net}{ow:List Int}(h:Th n ow=true):ow.length=n.ports.length:=by
 simp only[Th,zG,zK]at h;exact h.1.1
def leaksS(n:Net)(hn:n.Fin)(hu:Ds n)(ow:List Int):Sp 11 [Ao n,.sl 1 Aa ow] (.tup [Aa (leaksT n ow).1,Aa (leaksT n ow).2.1,Ab (leaksT n ow).2.2]):=cT F11 ntmps11 λF hF=>by
 have q0:=Amd n hn ow;have aa:=leaksT.eq_1 n ow;generalize leaksT n ow=res at *;cases ho:Th n ow with
 |false=>
  rw[ho]at q0;rw[zE ho]at aa;subst aa;refine gD q0 F26 ?_;exact D
 |true=>
 have ky:=Att ho;have oc:n.ports.length<2147483648:=hn.ports;rw[ho]at q0;rw[zD (by rw[ho];exact Bool.noConfusion)]at aa;refine gD q0 F26 ?_;refine Cj (λj:Nat=>res=Vs n ow j (ow.drop j)∧j≤ow.length) (λj=>[(1,.sl 1 Aa ow),(2,.ptr 2 0),(17,.sl 1 Aa ow),(18,Aa ow.length),(19,Aa j)]) (λ_=>[(2,.box (Da n))]) (λj=>ow.length-j) 0 [] ⟨aa,by omega⟩ U ?_;rintro j ⟨hI,hj⟩;refine T ?_;constructor<;>intro h
 ·have ab:j<ow.length:=qA h;have ai:(j:Int).toNat<ow.length:=ab;have ep:ow.drop j=ow[(j:Int).toNat]'ai::ow.drop (j+1):=yK ab;rw[ep,Vs]at hI;clear h;obtain ⟨R,hR⟩:∃R,Tp n ow j (ow[(j:Int).toNat]'ai) 0 ow=R:=⟨_,rfl⟩
  rw[hR]at hI;refine T ?_;refine Cj (λk:Nat=>Tp n ow j (ow[(j:Int).toNat]'ai) k (ow.drop k)=R∧k≤ow.length) (λk=>[(1,.sl 1 Aa ow),(2,.ptr 2 0),(7,Aa j),(8,Aa (ow[(j:Int).toNat]'ai)),(17,.sl 1 Aa ow),(18,Aa ow.length),(19,Aa j),(24,.sl 1 Aa ow),(25,Aa ow.length),(26,Aa k)]) (λ_=>[(2,.box (Da n))]) (λk=>ow.length-k) 0 [] ⟨hR,by omega⟩ U ?_;rintro k ⟨hK,hk⟩;refine T ?_;constructor<;>intro h
  ·have cz:k<ow.length:=qA h;have bl:(k:Int).toNat<ow.length:=cz;have ph:ow.drop k=ow[(k:Int).toNat]'bl::ow.drop (k+1):=yK cz;rw[ph,Tp]at hK;clear h;by_cases c1:ow[(j:Int).toNat]'ai<0
   ·have f1:decide ((ow[(j:Int).toNat]'ai)<0)=true:=zL c1;rw[zD (λh=>h.1 (.inl c1))]at hK;refine T ?_;exact Ax (k+1) [] ⟨hK,cz⟩ q_ U
   have f1:decide ((ow[(j:Int).toNat]'ai)<0)=false:=zI c1;by_cases c2:ow[(k:Int).toNat]'bl<0
   ·have f2:decide ((ow[(k:Int).toNat]'bl)<0)=true:=zL c2;rw[zD (λh=>h.1 (.inr (.inl c2)))]at hK;refine T ?_;exact Ax (k+1) [] ⟨hK,cz⟩ q_ U
   have f2:decide ((ow[(k:Int).toNat]'bl)<0)=false:=zI c2;by_cases c3:ow[(j:Int).toNat]'ai=ow[(k:Int).toNat]'bl
   ·have f3:(ow[(j:Int).toNat]'ai==ow[(k:Int).toNat]'bl)=true:=by rw[yI];exact c3
    rw[zD (λh=>h.1 (.inr (.inr c3)))]at hK;refine T ?_;exact Ax (k+1) [] ⟨hK,cz⟩ q_ U
   have f3:(ow[(j:Int).toNat]'ai==ow[(k:Int).toNat]'bl)=false:=by rw[zR];exact c3
   have hn3:¬(ow[(j:Int).toNat]'ai<0∨ow[(k:Int).toNat]'bl<0∨ow[(j:Int).toNat]'ai=ow[(k:Int).toNat]'bl):=λh=>h.elim c1 λh=>h.elim c2 c3
   have q:=wayS n hn hu j k;generalize wayT n j k=wr at *;obtain ⟨wl,ok⟩:=wr;dsimp only at q hK;cases ok
   ·rw[zD (λh=>Bool.noConfusion h.2)]at hK;refine gD q F27 ?_;exact Ax (k+1) [] ⟨hK,cz⟩ q_ U
   ·rw[zE ⟨hn3,rfl⟩]at hK;subst hK;dsimp only at hI;subst hI;refine gD q F27 ?_;exact D
  ·have vj:k=ow.length:=qB h;rw[vj,wQ,Tp]at hK;subst hK;clear h;dsimp only at hI;refine T ?_;exact Ax (j+1) [] ⟨hI,ab⟩ q_ U
 ·have cm:j=ow.length:=qB h;rw[cm,wQ,Vs]at hI;subst hI;clear h;exact gB
def Afx(w r e:Int):Sp 8 [Aa w,Aa r,Aa e] (Q7 (Vd w r e)):=cT F8 ntmps8 λF hF=>by
 refine T ?_;refine Al 6 (cellsOf (Q7 (Vd w r e))) E vL ?_;exact D
end Go.Sy.YtolnneiipmfgaaaGreatDoor
namespace Go.Sy.YtolnneiipmfgaaaGreatDoor
open Go.Proofs Go.Proofs.Tryz
def Adm{n:Net}{ow:List Int}{f:Nat}{a:Int}:∀(l:List Int) (i to:Nat),Tp n ow f a i l=some to→i≤to∧∃h:to-i<l.length,¬(a<0∨l[to-i]<0∨a=l[to-i])∧(wayT n f to).2=true
 |[],i,to,h=>by cases h
 |b::r,i,to,h=>by
  rw[Tp]at h;split at h
  ·rename_i hc;simp only[Option.some.injEq]at h;subst h;exact⟨yD _,by simp,by simpa using hc⟩
  ·obtain ⟨h1,h2,h3⟩:=Adm r (i+1) to h;refine⟨by omega,by rw[yM];omega,?_⟩;have e:to-i=(to-(i+1))+1:=by omega
   simp only[e,uQ];exact h3
def Adn{n:Net}{ow:List Int}:∀(l:List Int) (i:Nat),(Vs n ow i l).2.2=true→∃f to:Nat,Vs n ow i l=((f:Int),(to:Int),true)∧i≤f∧(∃h:f-i<l.length,∃g:to<ow.length,¬(l[f-i]<0∨ow[to]<0∨l[f-i]=ow[to]))∧(wayT n f to).2=true
 |[],i,h=>by cases h
 |a::r,i,h=>by
  rw[Vs]at h⊢;cases hl:Tp n ow i a 0 ow with
  |some to=>
   obtain ⟨h1,h2,h3,h4⟩:=Adm ow 0 to hl;refine⟨i,to,E,yD _,⟨by simp,by simpa using h2,by simpa using h3⟩,h4⟩
  |none=>
   rw[hl]at h;obtain ⟨f,to,e,h1,⟨h2,h3,h4⟩,h5⟩:=Adn r (i+1) h;refine⟨f,to,e,by omega,⟨by rw[yM];omega,h3,?_⟩,h5⟩;have e:f-i=(f-(i+1))+1:=by omega
   simp only[e,uQ];exact h4
def Auk{n:Net}{ow:List Int}(h:(leaksT n ow).2.2=true):∃f to:Nat,leaksT n ow=((f:Int),(to:Int),true)∧(∃(h1:f<ow.length) (h2:to<ow.length),0≤ow[f]∧0≤ow[to]∧ow[f]≠ow[to])∧(wayT n f to).2=true:=by
 rw[leaksT]at h⊢;split at h
 ·cases h
 rename_i hb;rw[zD hb];obtain ⟨f,to,e,h1,⟨h2,h3,h4⟩,h5⟩:=Adn ow 0 h;refine⟨f,to,e,⟨by simpa using h2,h3,?_⟩,h5⟩;simp only[Nat.sub_zero,uL]at h4;omega
def Aym{n:Net}(hc:Cu n=true){f t:Int}(h:(wayT n f t).2=true):(wscriptT n f t).2=0:=by
 have hw:=h;rw[wayT]at hw;split at hw
 ·rename_i hk;have ho:okB n (Ar4 n)=true:=ok_iff.2 ⟨xS,hk.2.2.2,hc⟩;rw[wscriptT,zE ⟨hk.1,hk.2.1,hk.2.2.1,ho⟩,zE h]
 ·cases hw
attribute [local irreducible] Go.Sy.G Go.Sy.DR
set_option maxRecDepth 100000
set_option maxHeartbeats 4000000
def Adk(b:List UInt8):(netTextT b).1.Fin∧Ds (netTextT b).1:=by
 by_cases h:(netTextT b).2.2=0
 ·rw[netTextT]at h⊢;split at h
  ·contradiction
  rename_i h1;rw[zD h1];exact Y9 (textT b).1 emptyN Kf (λx hx=>(by cases hx)) (λx hx=>(S5 b x hx).w) h
 ·have:(netTextT b).1=emptyN:=by
   rw[netTextT]at h⊢;split at h
   ·rename_i h1;rw[zE h1]
   ·rename_i h1;rw[zD h1];exact Ad4 (textT b).1 emptyN h
  rw[this];exact⟨Kf,λx hx=>by cases hx⟩
def Agg(b:List UInt8)(h:(netTextT b).2.2=0):(netTextT b).1.Num∧Cu (netTextT b).1=true:=by
 have hu:=(Adk b).2;rw[netTextT]at h hu⊢;split at h
 ·contradiction
 rename_i h1;rw[zD h1]at hu⊢;exact⟨⟨T6 (textT b).1 emptyN (λd hd=>by cases hd) (λx hx=>(S5 b x hx).w) h,hu⟩,A5c (Wc (textT b).1 emptyN V6 h)⟩
def Aoe:∀(l:List ByteArray) (t:TenM),TenOK t→(∀s∈l,s.size≤40)→t.devs.length+l.length≤1000→t.ports.length+l.length≤1000→TenOK (Afd t l).1
 |[],t,h,_,_,_=>h
 |w::l,t,h,hs,hd,hp=>by
  rw[Afd];have hw:=hs w y_;have hc:=Ak4 w;split
  ·exact⟨by decide,⟨by decide,λs hs=>(by cases hs)⟩,⟨by decide,λs hs=>(by cases hs)⟩⟩
  refine Aoe l _ ⟨h.name,⟨by simp at hd⊢;omega,λs hx=>?_⟩,⟨by simp at hp⊢;omega,λs hx=>?_⟩⟩ (λs hx=>hs s (by simp[hx])) (by simp at hd⊢;omega) (by simp at hp⊢;omega)
  ·rcases yL.1 hx with hx|hx
   ·exact h.devs.2 s hx
   ·rw[yA.1 hx];show (cutT 46 w).1.size≤_;omega
  ·rcases yL.1 hx with hx|hx
   ·exact h.ports.2 s hx
   ·rw[yA.1 hx];show (cutT 46 w).2.1.size≤_;omega
def Av6:TenOK Alp:=⟨by decide,⟨by decide,λs hs=>(by cases hs)⟩,⟨by decide,λs hs=>(by cases hs)⟩⟩
def Ax2(w:List ByteArray)(row:Int)(hs:∀s∈w,s.size≤40):TenOK (tenantT w row).1:=by
 rw[tenantT];split
 ·exact Av6
 rename_i h;simp only[uL]at h;split
 ·exact Av6
 have h1:wdT w 1=w[1]'q_:=Dm q_;refine Aoe _ _ ⟨?_,⟨xQ _,λs hs=>(by cases hs)⟩,⟨xQ _,λs hs=>(by cases hs)⟩⟩ (λs hx=>hs s (List.mem_of_mem_drop hx)) (by simp;omega) (by simp;omega);show (wdT w 1).size≤_;rw[h1];have:=hs _ (zJ (show 1<w.length by omega));omega
def Vh:∀(rs:List ByteArray) (i:Nat) (out:List TenM),(∀r∈rs,r.size≤20000)→(∀t∈out,TenOK t)→out.length≤10→(∀t∈(Kq i out rs).1,TenOK t)∧(Kq i out rs).1.length≤10
 |[],i,out,_,h,hl=>⟨h,hl⟩
 |r::rs,i,out,hr,h,hl=>by
  have hr':∀x∈rs,x.size≤20000:=λx hx=>hr x (by simp[hx])
  rw[Kq];split
  ·exact⟨λt ht=>(by cases ht),by simp⟩
  split
  ·exact Vh rs (i+1) out hr' h hl
  split
  ·exact⟨λt ht=>(by cases ht),by simp⟩
  split
  ·exact⟨λt ht=>(by cases ht),by simp⟩
  refine Vh rs (i+1) _ hr' (λt ht=>?_) (by simp;omega);rcases yL.1 ht with ht|ht
  ·exact h t ht
  ·rw[yA.1 ht];exact Ax2 _ _ (S1 r (hr r y_)).2
def Ay7(b:List UInt8):(∀t∈(policyT b).1,TenOK t)∧(policyT b).1.length≤10:=by
 rw[policyT];split
 ·exact⟨λt ht=>(by cases ht),by simp⟩
 ·exact Vh _ 0 [] (Qe b).2 (λt ht=>(by cases ht)) y_
def Aet(b c:List UInt8)(hb:b.length≤1000000)(hc:c.length≤1000000):Sp 5 [.sl 1 Ak b,.sl 1 Ak c] (Q7 (verifyT b c)):=cT F5 ntmps5 λF hF=>by
 have aa:=verifyT.eq_1 b c;generalize verifyT b c=res at *;have q1:=Apm b hb;have q2:=Ao6 c hc;obtain ⟨hn,hu⟩:=Adk b;have dp:=Agg b;obtain ⟨mw,a7⟩:=Ay7 c;generalize netTextT b=nt at *;generalize policyT c=pt at *;obtain ⟨n,yk,ne⟩:=nt;obtain ⟨L,prow,pe⟩:=pt;dsimp only at *;by_cases e1:ne=0;rotate_left
 ·have f1:(ne != 0)=true:=by rw[xB];exact e1
  rw[zE e1]at aa;subst aa;refine gA q1 F6 (Afx 1 yk ne) F8 ?_;exact D
 have f1:(ne != 0)=false:=by rw[e1];rfl
 rw[zD (λh=>h e1)]at aa;by_cases e2:pe=0;rotate_left
 ·have f2:(pe != 0)=true:=by rw[xB];exact e2
  rw[zE e2]at aa;subst aa;refine gA q1 F6 q2 F9 ?_;refine C (Afx 2 prow pe) F8 ?_;exact D
 have f2:(pe != 0)=false:=by rw[e2];rfl
 rw[zD (λh=>h e2),Ae8]at aa;have q3:=A7t n hn L mw q_;have q4:=leaksS n hn hu (assignT n L).1;have q5:=Ary n hn (dp e1).1 hu (leaksT n (assignT n L).1).1 (leaksT n (assignT n L).1).2.1;generalize assignT n L=a at *;obtain ⟨ow,wh,arow,ae⟩:=a;dsimp only at *;by_cases e3:ae=0;rotate_left
 ·have f3:(ae != 0)=true:=by rw[xB];exact e3
  rw[zE e3]at aa;subst aa;refine gA q1 F6 q2 F9 ?_;refine gI q3 F10 (Afx wh arow ae) F8 ?_;exact D
 have f3:(ae != 0)=false:=by rw[e3];rfl
 rw[zD (λh=>h e3)]at aa;generalize leaksT n ow=lk at *;obtain ⟨lf,lt,ll⟩:=lk;dsimp only at *;cases ll
 ·rw[zE rfl]at aa;subst aa;refine gA q1 F6 q2 F9 ?_;refine gI q3 F10 q4 F11 ?_;refine Al 4 (cellsOf (Q7 ⟨1,0,0,0,0,0,[]⟩)) E vL ?_;exact D
 ·rw[zD (by exact Bool.noConfusion)]at aa;generalize wscriptT n lf lt=sc at *;obtain ⟨sl,se⟩:=sc;dsimp only at *;subst aa;refine gA q1 F6 q2 F9 ?_;refine gI q3 F10 q4 F11 ?_;refine C q5 F12 ?_;exact D
def Afc : List UInt8 := "device a 1 00:00:00:00:00:01\nport a p 1 access 10\nport a q 1 access 10\n".toUTF8.data.toList
def K9 : List UInt8 := "device a 1 00:00:00:00:00:01\nport a p 1 access 10\nport a q 1 access 20\n".toUTF8.data.toList
def O2 : List UInt8 := "tenant x a.p\ntenant y a.q\n".toUTF8.data.toList
def Agb : List UInt8 := "tenant x a.p\n".toUTF8.data.toList
def ex38a:(verifyT Afc O2).kind=2∧(verifyT Afc O2).from_=0∧(verifyT Afc O2).to=1∧(verifyT Afc O2).script.length=2:=by decide +kernel
def ex38b:(verifyT K9 O2).kind=1:=by decide +kernel
def ex38c:(verifyT K9 Agb).kind=3∧(verifyT K9 Agb).where_=1∧(verifyT K9 Agb).row=3∧(verifyT K9 Agb).error=39:=by decide +kernel
def Anv:Sp 4 [] (Ab true):=cT F4 ntmps4 λF hF=>by
 have q1:=Aet Afc O2 j_ j_;have q2:=Aet K9 O2 j_ j_;have q3:=Aet K9 Agb j_ j_;obtain ⟨a1,a2,a3,a4⟩:=ex38a;have b1:=ex38b;obtain ⟨c1,c2,c3,c4⟩:=ex38c;generalize verifyT Afc O2=r1 at *;generalize verifyT K9 O2=r2 at *;generalize verifyT K9 Agb=r3 at *;obtain ⟨k1,w1,o1,e1,f1,t1,s1⟩:=r1;obtain ⟨k2,w2,o2,e2,f2,t2,s2⟩:=r2;obtain ⟨k3,w3,o3,e3,f3,t3,s3⟩:=r3;dsimp only at a1 a2 a3 a4 b1 c1 c2 c3 c4;subst a1 a2 a3 b1 c1 c2 c3 c4;have g1:((s1.length:Int)==2)=true:=by rw[a4];rfl
 refine T ?_;refine X (Ea Γ.toTy E E E E E E E) ?_;refine X (Ea Γ.toTy E E E E E E E) ?_;refine J3 4 Ak Afc E E ?_;refine J3 6 Ak O2 E E ?_;refine Aj 4 E ?_;refine Aj 6 E ?_;refine C q1 F5 ?_;refine X (Ea Γ.toTy E E E E E E E) ?_;refine X (Ea Γ.toTy E E E E E E E) ?_;refine J3 9 Ak K9 E E ?_;refine J3 11 Ak O2 E E ?_;refine Aj 9 E ?_;refine Aj 11 E ?_;refine C q2 F5 ?_;refine X (Ea Γ.toTy E E E E E E E) ?_;refine X (Ea Γ.toTy E E E E E E E) ?_;refine J3 14 Ak K9 E E ?_;refine J3 16 Ak Agb E E ?_;refine Aj 14 E ?_;refine Aj 16 E ?_;refine C q3 F5 ?_;exact D
end Go.Sy.YtolnneiipmfgaaaGreatDoor
