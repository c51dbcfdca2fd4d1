/- Parts of a proof. -/
import Derived.Test.YtodbnbfjhjcanaaGreatDoorXB29
set_option maxHeartbeats 4000000
set_option linter.all false
namespace Go.Sy.Zaa
open Go.Proofs Go.Proofs.Tryz
attribute [local irreducible]G DR
set_option maxRecDepth 100000
def Acu:=iA As 1 F155 ntmps155
def Q8(l:List ByteArray)(p:ByteArray->Bool)(f:FuncId)(first cap:List SV)(hc:(SV.clo (.func f) first cap).inn []=true)(hf:∀x∈l,Hg prog f (first++[As x]++cap) (Ab (p x)))(hl:An l):Sp 93 [.sl 1 As l,.clo (.func f) first cap] (Ab (l.any p)):=cT F93 ntmps93 λF hF=>by
 have h0:B7 [] [.sl 1 As l,.clo (.func f) first cap]=true:=by simp only[B7,hc];rfl
 refine fW ?_;refine M4 (Acu l p f first cap hc hf hl) F155 E E (by simp only[h0];rfl) E E (fU ?_);exact Ar E Aq (zH Ab (I8 _ _).symm) E
def Acs:=iA E1 4 F94 ntmps94
def dM(l:List TenM)(p:TenM->Bool)(f:FuncId)(first cap:List SV)(hc:(SV.clo (.func f) first cap).inn []=true)(hf:∀x∈l,Hg prog f (first++[E1 x]++cap) (Ab (p x)))(hl:An l):Sp 43 [.sl 4 E1 l,.clo (.func f) first cap] (Ab (l.any p)):=cT F43 ntmps43 λF hF=>by
 have h0:B7 [] [.sl 4 E1 l,.clo (.func f) first cap]=true:=by simp only[B7,hc];rfl
 refine fW ?_;refine M4 (Acs l p f first cap hc hf hl) F94 E E (by simp only[h0];rfl) E E (fU ?_);exact Ar E Aq (zH Ab (I8 _ _).symm) E
structure TenOK(t:TenM):Prop where
 name:t.name.size<=100000
 devs:t.devs.length<=100000/\∀s∈t.devs,s.size<=100000
 ports:t.ports.length<=100000/\∀s∈t.ports,s.size<=100000
def oddS(s:ByteArray)(hs:s.size<=1000000):Sp 92 [As s] (Ab (!(A3 s))):=cT F92 ntmps92 λF hF=>by
 have q:=E7 s hs;refine gC q F71 ?_;exact D
def Aih(t:TenM)(ht:TenOK t):Sp 42 [E1 t] (Ab (Sv t)):=cT F42 ntmps42 λF hF=>by
 have qn:=E7 t.name (by have:=ht.name;omega);have qd:=Q8 t.devs (λs=>!(A3 s)) 92 [] [] rfl (λs hs=>⟨⟨_,_,F92⟩,oddS s (by have:=ht.devs.2 s hs;omega)⟩) (by have:=ht.devs.1;unfold An;omega);have qp:=Q8 t.ports (λs=>!(A3 s)) 92 [] [] rfl (λs hs=>⟨⟨_,_,F92⟩,oddS s (by have:=ht.ports.2 s hs;omega)⟩) (by have:=ht.ports.1;unfold An;omega);have aa:Sv t=(A3 t.name&&(decide (t.devs.length=t.ports.length)&&(decide (0<t.devs.length)&&(decide (t.devs.length<=16)&&(!(t.devs.any λs=>!(A3 s))&&!(t.ports.any λs=>!(A3 s))))))):=rfl;rw[aa];clear aa ht;generalize (t.devs.any λs=>!(A3 s))=od at *;generalize (t.ports.any λs=>!(A3 s))=op at *;obtain ⟨row,nm,ds,ps⟩:=t;dsimp only at *;generalize A3 nm=b1 at *;cases b1
 .refine gC qn F71 ?_;exact D
 by_cases k1:ds.length=ps.length;rotate_left
 .have f1:((ds.length:Int)==(ps.length:Int))=false:=by rw[zU];omega
  rw[zK k1];refine gC qn F71 ?_;exact D
 have f1:((ds.length:Int)==(ps.length:Int))=true:=by rw[yJ];omega
 rw[zL k1];by_cases k2:0<ds.length;rotate_left
 .have f2:decide ((ds.length:Int)>0)=false:=zK q_;rw[zK k2];refine gC qn F71 ?_;exact D
 have f2:decide ((ds.length:Int)>0)=true:=zL q_;rw[zL k2];by_cases k3:ds.length<=16;rotate_left
 .have f3:decide ((ds.length:Int)<=16)=false:=zK q_;rw[zK k3];refine gC qn F71 ?_;exact D
 have f3:decide ((ds.length:Int)<=16)=true:=zL q_;rw[zL k3];cases od;rotate_left
 .refine gB qn F71 qd F93 ?_;exact D
 .refine gB qn F71 qd F93 ?_;refine C qp F93 ?_;exact D
def Ax2(n:Net)(i:Int)(ow:List Int)(ps:List ByteArray):Iy n i ow [] ps=(ow,0):=by
 rw[Iy];intro d ds p ps h;cases h
def claimS(n:Net)(hn:n.Fin)(hr:Ac n=true)(i:Int)(t:TenM)(ht:t.devs.length=t.ports.length)(hl:t.devs.length<=100000)(ow:List Int)(how:ow.length=n.ports.length):Sq 44 [Am n,.osl 0,Aa i,E1 t] [(0,.row 1 Aa ow)] (Aa (Iy n i ow t.devs t.ports).2) [(0,.row 1 Aa (Iy n i ow t.devs t.ports).1)]:=cT F44 ntmps44 λF hF=>by
 obtain ⟨row,nm,ds,ps⟩:=t;dsimp only at *;obtain ⟨res,aa⟩:=kE (Iy n i ow ds ps);rw[aa];refine T ?_;refine Cd (λx:Nat×List Int=>Iy n i x.2 (ds.drop x.1) (ps.drop x.1)=res/\x.1<=ds.length/\x.2.length=n.ports.length) (λx=>[(1,.osl 0),(2,Aa i),(4,.ptr 4 0),(7,.ptr 7 0),(8,Aa 0),(13,.sl 1 As ds),(14,Aa ds.length),(15,Aa x.1)]) (λx=>[(0,.row 1 Aa x.2),(4,.box (Dc n)),(7,.box [Aa row,As nm,.sl 1 As ds,.sl 1 As ps])]) (λx=>ds.length-x.1) (0,ow) [] ⟨aa,by simp,how⟩ U ?_;rintro ⟨j,w5⟩ ⟨hI,hj,hlen⟩;dsimp only at hI hj hlen|-;refine gN ?_ ?_<;>intro h
 .have ab:j<ds.length:=qA h;have s4:j<ps.length:=by omega
  have ai:(j:Int).toNat<ds.length:=ab;have mq:(j:Int).toNat<ps.length:=s4;clear h;rw[yL ab,yL s4,Iy]at hI;have q1:=Je n hn hr (ds[(j:Int).toNat]'ai);have q2:=Uh n hn hr (Ci n (ds[(j:Int).toNat]'ai)) (ps[(j:Int).toNat]'mq);have eI:Sg n (Ci n ds[j]) ps[j]=Sg n (Ci n (ds[(j:Int).toNat]'ai)) (ps[(j:Int).toNat]'mq):=rfl;rw[eI]at hI;have nu:¬Sg n (Ci n (ds[(j:Int).toNat]'ai)) (ps[(j:Int).toNat]'mq)<0->(Sg n (Ci n (ds[(j:Int).toNat]'ai)) (ps[(j:Int).toNat]'mq)).toNat<n.ports.length:=λh=>by
   obtain ⟨k,e,hk⟩:=Kq (p:=λp:Port=>p.dev==(Ci n (ds[(j:Int).toNat]'ai))&&p.name==(ps[(j:Int).toNat]'mq)) (l:=n.ports) h;show (Bs _ n.ports).toNat<_;rw[e];exact hk
  generalize Sg n (Ci n (ds[(j:Int).toNat]'ai)) (ps[(j:Int).toNat]'mq)=at_ at *;by_cases k1:at_<0
  .have f1:decide (at_<0)=true:=zL k1;rw[zE k1]at hI;subst hI;refine gB q1 F96 q2 F95 ?_;exact E0
  have f1:decide (at_<0)=false:=zK k1;have hp:=nu k1;have h0:0<=at_:=by omega
  have l6:at_.toNat<w5.length:=by omega
  rw[zD k1,Ae hp,Ae l6]at hI;by_cases k2:0<=(n.ports[at_.toNat]'hp).link
  .have f2:decide ((n.ports[at_.toNat]'hp).link>=0)=true:=zL k2;rw[zE (.inl k2)]at hI;subst hI;refine gB q1 F96 q2 F95 ?_;exact E0
  have f2:decide ((n.ports[at_.toNat]'hp).link>=0)=false:=zK k2;by_cases k3:w5[at_.toNat]'l6=-1;rotate_left
  .have f3:(w5[at_.toNat]'l6 != -1)=true:=by rw[xC];exact k3
   rw[zE (.inr k3)]at hI;subst hI;refine gB q1 F96 q2 F95 ?_;exact E0
  have f3:(w5[at_.toNat]'l6 != -1)=false:=by rw[bne_eq_false_iff_eq];exact k3
  rw[zD (λh=>h.elim k2 (λh=>h k3))]at hI;refine gB q1 F96 q2 F95 ?_;refine⟨i,E,E,?_⟩;refine T ?_;exact Ax (j+1,w5.set at_.toNat i) [] ⟨hI,ab,by simp;exact hlen⟩ (by dsimp only;omega) U
 .have cu:j=ds.length:=qB h;subst cu;clear h;rw[wU,vS q_]at hI;rw[Ax2]at hI;subst hI;refine T ?_;exact E0
def Ox(m k:Nat):List Int:=List.replicate k (-1)++List.replicate (m-k) 0
def V5(m k:Nat)(h:k<=m):(Ox m k).length=m:=by simp[Ox];omega
def Azv(m:Nat):Ox m m=List.replicate m (-1):=by simp[Ox]
def Avt(m k c:Nat)(_h:k<=m)(hc:c=min k (m-k)):(Ox m k).take k++(Ox m k).take c++(Ox m k).drop (k+c)=Ox m (k+c):=by
 have e1:(Ox m k).take k=List.replicate k (-1):=by
  rw[Ox,vD y_];simp
 have e2:(Ox m k).take c=List.replicate c (-1):=by
  rw[Ox,vD kO];simp;omega
 have e3:(Ox m k).drop (k+c)=List.replicate (m-(k+c)) 0:=by
  rw[Ox,List.drop_append,vS y_,wL];simp;omega
 rw[e1,e2,e3,Ox,List.replicate_append_replicate]
def Ap3(m:Nat)(h:m<2147483648):Sq 40 [.sl 1 Aa [-1],Aa m] [] (.osl 30) [(30,.row 1 Aa (List.replicate m (-1)))]:=cT F40 ntmps40 λF hF=>by
 have hw:IntKind.u64.wrap (m:Int)=m:=by rw[IntKind.wrap_u64];omega
 have zi:IntKind.i64.wrap (m:Int)=m:=by rw[IntKind.wrap_i64];omega
 have q:=mulS m q_;rw[<-hw]at q;refine gP q F91 ?_;rw[hw];refine fU ?_;refine⟨λh1=>yA (zO h1) q_,λ_=>?_⟩;refine fU ?_;rw[zi];refine Aj (B4 Γ.toTy (d:=30) (n:=m) Aa (0:Int) E E E E E E E E q_ q_ E E E) E E (fU ?_);refine Aj (X0 Γ.toTy (l:=List.replicate m (0:Int)) (m:=([-1]:List Int)) E E E E E .sl) E E ?_;have e0:([-1]:List Int).take (List.replicate m (0:Int)).length++(List.replicate m (0:Int)).drop ([-1]:List Int).length=Ox m (min 1 m):=by
  cases m with
  |zero=>rfl
  |succ m=>simp[Ox,Nat.min_eq_left,tM]
 have e1:min ([-1]:List Int).length (List.replicate m (0:Int)).length=min 1 m:=by simp
 rw[e0,e1];refine fU ?_;refine Cd (λk:Nat=>min 1 m<=k/\k<=m) (λk=>[(7,.osl 30),(8,Aa k)]) (λk=>[(30,.row 1 Aa (Ox m k))]) (λk=>m-k) (min 1 m) [] q_ kU ?_;intro k hk;have hl:=V5 m k hk.2;refine fU ?_;constructor<;>intro h1
 .have ab:k<m:=by have:=zO h1;rw[hl]at this;omega
  clear h1;have cy:1<=k:=by omega
  have af:Ox m k≠[]:=λe=>by rw[e]at hl;simp at hl;omega
  refine Aoj 30 [7] E af (λi hi=>by simp at hi;subst hi;rfl) ?_;intro b cap hc;rw[hl]at hc|-;have ie:¬cap=k:=by omega
  have o7:=Avt m k (min k (m-k)) hk.2 rfl;refine fU ?_;refine Ce (Ds (lo:=k) (hi:=m) Γ.toTy E E E E (.inr ⟨_,_,E,E⟩) (.inl ⟨E,E⟩) q_ q_) z_ E (fU ?_);refine Ce (Ds (lo:=0) (hi:=k) Γ.toTy E E E E (.inl ⟨E,E⟩) (.inr ⟨_,_,E,E⟩) q_ q_) z_ E (fU ?_);refine Ce (Zb Γ.toTy 30 (lo:=k) (k:=k) E E E E (by rw[zD ie,Nat.mul_one]) E (by rw[zD q_,Nat.zero_mul]) E hl q_ q_) z_ E (gG ?_);refine⟨z_,?_⟩;refine fW ?_;refine eF 30 31 [7] m E E (by rw[o7,V5 m _ q_];exact yE _) (λi hi=>by simp at hi;subst hi;rfl) ?_;have gj:((Ox m k).take k++(Ox m k).take (min k (m-k))++(Ox m k).drop (k+min k (m-k))).take m=Ox m (k+min k (m-k)):=by
   rw[o7,xI (by rw[V5 m _ q_];exact yE _)]
  exact Ax (k+min k (m-k)) [(30,31)] q_ q_ ⟨kA,⟨.inl (zH (Ob.row 1 Aa) gj.symm),E,Y⟩,E,E⟩
 .have hkm:k=m:=by have:=zT h1;rw[hl]at this;omega
  subst hkm;rw[Azv];refine fU ?_;exact E0
def Ag9(n:Net)(i:Int):∀(ds ps:List ByteArray) (ow:List Int),(Iy n i ow ds ps).1.length=ow.length
 |[],[],_=>rfl
 |[],_::_,_=>rfl
 |_::_,[],_=>rfl
 |d::ds,p::ps,ow=>by
  rw[Iy];split
  .rfl
  split
  .rfl
  rw[Ag9 n i ds ps];simp
def Aht{t:TenM}(h:Sv t=true):t.devs.length=t.ports.length:=by
 simp only[Sv,zG,zJ]at h;exact h.2.1
def twiceS(x t:TenM):Sp 41 [E1 x,.ref 4 (E1 t) 0] (Ab (x.name==t.name)):=cT F41 ntmps41 λF hF=>by
 exact gA
def Aud(n:Net)(hn:n.Fin)(L:List TenM)(hL:∀t∈L,TenOK t)(hl:L.length<=100000):Sp 16 [Am n,.sl 4 E1 L] (.tup [.sl 1 Aa (assignT n L).1,Aa (assignT n L).2.1,Aa (assignT n L).2.2.1,Aa (assignT n L).2.2.2]):=cT F16 ntmps16 λF hF=>by
 have q0:=A2 n hn;have aa:=assignT.eq_1 n L;generalize assignT n L=res at *;have ov:n.ports.length<2147483648:=hn.ports;cases hr:Ac n with
 |false=>
  rw[hr]at q0;rw[zE hr]at aa;subst aa;refine gC q0 F39 ?_;exact Ao 4 1 Aa E D
 |true=>
 rw[hr]at q0;rw[zD (by rw[hr];exact Bool.noConfusion)]at aa;dsimp only at aa;refine gC q0 F39 ?_;refine Jb 16 Aa [-1] E E (Ai 16 E ?_);refine X (Ad [(30,20)] E F40 (Ap3 n.ports.length ov) E Y E ⟨.inr E,Y⟩) ?_;obtain ⟨ga,hga⟩:=kE (Tp n L 0 (List.replicate n.ports.length (-1)) L);rw[hga]at aa;refine Cd (λx:Nat×List Int=>Tp n L x.1 x.2 (L.drop x.1)=ga/\x.1<=L.length/\x.2.length=n.ports.length) (λx=>[(1,.sl 4 E1 L),(2,.ptr 2 0),(4,.osl 20),(5,Aa 0),(6,Aa 0),(7,Aa 0),(21,.sl 4 E1 L),(22,Aa L.length),(23,Aa x.1)]) (λx=>[(2,.box (Dc n)),(20,.row 1 Aa x.2)]) (λx=>L.length-x.1) (0,List.replicate n.ports.length (-1)) [] ⟨hga,by simp,xU⟩ U ?_;rintro ⟨j,ow⟩ ⟨hI,hj,hlen⟩;dsimp only at hI hj hlen|-;refine gN ?_ ?_<;>intro h
 .have ab:j<L.length:=qA h;have ai:(j:Int).toNat<L.length:=ab;have fh:L.drop j=L[(j:Int).toNat]'ai::L.drop (j+1):=yL ab;rw[fh,Tp]at hI;have ht:=hL _ (zI ai);clear h;have r7:=dM (L.take j) (λx=>x.name==(L[(j:Int).toNat]'ai).name) 41 [] [.ref 4 (E1 (L[(j:Int).toNat]'ai)) 0] rfl (λx _=>⟨⟨_,_,F41⟩,twiceS x _⟩) (by unfold An;rw[zY];omega);have q1:=Aih (L[(j:Int).toNat]'ai) ht;refine T ?_;refine Bf 9 4 (E1 (L[(j:Int).toNat]'ai)) E E E ?_;cases c1:Sv (L[(j:Int).toNat]'ai) with
  |false=>
   rw[c1]at q1;rw[zE (.inl c1)]at hI;subst hI;rw[zE (by show (2:Int)≠0;decide)]at aa;subst aa;refine C q1 F42 ?_;exact Ao 4 1 Aa E D
  |true=>
  rw[c1]at q1;have hdp:=Aht c1;by_cases c2:10<=j
  .have f2:decide (((j:Nat):Int)>=10)=true:=zL q_;rw[zE (.inr c2)]at hI;subst hI;rw[zE (by show (2:Int)≠0;decide)]at aa;subst aa;refine C q1 F42 ?_;exact Ao 4 1 Aa E D
  have f2:decide (((j:Nat):Int)>=10)=false:=zK q_;rw[zD (λh=>h.elim (λh=>by rw[c1]at h;cases h) c2)]at hI;cases c3:(L.take j).any (λx=>x.name==(L[(j:Int).toNat]'ai).name) with
  |true=>
   rw[c3]at r7;rw[zE c3]at hI;subst hI;rw[zE (by show (30:Int)≠0;decide)]at aa;subst aa;refine C q1 F42 ?_;refine X (J2 (lo:=0) (hi:=j) Γ.toTy (L.take j) E E E E (.inl ⟨E,E⟩) (.inr ⟨_,_,E,E⟩) (xN _) q_ (by rw[List.drop_zero])) ?_;refine C r7 F43 ?_;exact Ao 4 1 Aa E D
  |false=>
  rw[c3]at r7;rw[zD (by rw[c3];exact Bool.noConfusion)]at hI;have qc:=claimS n hn hr ((j:Nat):Int) (L[(j:Int).toNat]'ai) hdp (by have:=ht.devs.1;omega) ow hlen;have ie:=Ag9 n ((j:Nat):Int) (L[(j:Int).toNat]'ai).devs (L[(j:Int).toNat]'ai).ports ow;generalize Iy n ((j:Nat):Int) ow (L[(j:Int).toNat]'ai).devs (L[(j:Int).toNat]'ai).ports=cg at *;obtain ⟨w5,ce⟩:=cg;dsimp only at hI ie qc;by_cases c4:ce=0;rotate_left
  .have f4:(ce != 0)=true:=by rw[xC];exact c4
   rw[zE c4]at hI;subst hI;rw[zE c4]at aa;subst aa;refine C q1 F42 ?_;refine X (J2 (lo:=0) (hi:=j) Γ.toTy (L.take j) E E E E (.inl ⟨E,E⟩) (.inr ⟨_,_,E,E⟩) (xN _) q_ (by rw[List.drop_zero])) ?_;refine C r7 F43 ?_;refine X (Ad [(0,20)] E F44 qc E W E V) ?_;exact Ao 4 1 Aa E D
  have f4:(ce != 0)=false:=by rw[c4];rfl
  rw[zD (λh=>h c4)]at hI;refine C q1 F42 ?_;refine X (J2 (lo:=0) (hi:=j) Γ.toTy (L.take j) E E E E (.inl ⟨E,E⟩) (.inr ⟨_,_,E,E⟩) (xN _) q_ (by rw[List.drop_zero])) ?_;refine C r7 F43 ?_;refine X (Ad [(0,20)] E F44 qc E W E V) ?_;exact Ax (j+1,w5) [] ⟨hI,ab,by dsimp only;omega⟩ (by dsimp only;omega) U
 .have cu:j=L.length:=qB h;rw[cu,wU,Tp]at hI;subst hI;clear h;rw[zD (by show ¬((0:Int)≠0);decide)]at aa;dsimp only at aa;refine T ?_;obtain ⟨B,hB⟩:=kE (Ad0 n ow 0 n.ports);rw[hB]at aa;refine Cd (λk:Nat=>Ad0 n ow k (n.ports.drop k)=B/\k<=n.ports.length) (λk=>[(2,.ptr 2 0),(4,.osl 20),(5,Aa 0),(6,Aa 0),(7,Aa 0),(12,Aa k)]) (λ_=>[(2,.box (Dc n)),(20,.row 1 Aa ow)]) (λk=>n.ports.length-k) 0 [] ⟨hB,by omega⟩ U ?_;rintro k ⟨hK,hk⟩;refine gN ?_ ?_<;>intro h
  .have pn:k<n.ports.length:=qA h;have bd:(k:Int).toNat<n.ports.length:=pn;have cy:(k:Int).toNat<ow.length:=by rw[hlen];exact pn
   clear h;rw[yL pn,Ad0,Ae cy]at hK;by_cases d1:(n.ports[(k:Int).toNat]'bd).link<0;rotate_left
   .have g1:decide ((n.ports[(k:Int).toNat]'bd).link<0)=false:=zK d1;rw[zD (λh=>d1 h.1)]at hK;refine T ?_;exact Ax (k+1) [] ⟨hK,pn⟩ q_ U
   have g1:decide ((n.ports[(k:Int).toNat]'bd).link<0)=true:=zL d1;by_cases d2:ow[(k:Int).toNat]'cy=-1;rotate_left
   .have g2:(ow[(k:Int).toNat]'cy == -1)=false:=by rw[zU];exact d2
    rw[zD (λh=>d2 h.2)]at hK;refine T ?_;exact Ax (k+1) [] ⟨hK,pn⟩ q_ U
   have g2:(ow[(k:Int).toNat]'cy == -1)=true:=by rw[yJ];exact d2
   rw[zE ⟨d1,d2⟩]at hK;subst hK;rw[zE pn,Ae bd]at aa;subst aa;have g3:decide (((k:Nat):Int)<(n.ports.length:Int))=true:=zL q_;refine T ?_;exact Ao 4 1 Aa E D
  .have wz:k=n.ports.length:=qB h;clear h;rw[wz,wU,Ad0]at hK;rw[<-hK,zD q_]at aa;subst aa;have g3:decide (((k:Nat):Int)<(n.ports.length:Int))=false:=zK q_;refine T ?_;exact Ai 20 E D
end Go.Sy.Zaa
