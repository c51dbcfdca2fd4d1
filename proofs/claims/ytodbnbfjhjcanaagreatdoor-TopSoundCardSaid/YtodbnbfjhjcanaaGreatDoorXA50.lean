/- Parts of a proof. -/
import Derived.Test.YtodbnbfjhjcanaaGreatDoorXA49
set_option maxHeartbeats 4000000
set_option linter.all false
namespace Go.Sy.Zaa
open Go.Proofs Go.Proofs.Tryz
attribute [local irreducible]G DR
set_option maxRecDepth 100000
def Aas:=iA Ar 1 F155 ntmps155
def Qh(l:List ByteArray)(p:ByteArray->Bool)(f:FuncId)(first cap:List SV)(hc:(SV.clo (.func f) first cap).inn []=true)(hf:∀x∈l,E4 prog f (first++[Ar x]++cap) (Ab (p x)))(hl:An l):Sp 93 [.sl 1 Ar l,.clo (.func f) first cap] (Ab (l.any p)):=cT F93 ntmps93 λF hF=>by
 have h0:B7 [] [.sl 1 Ar l,.clo (.func f) first cap]=true:=by simp only[B7,hc];rfl
 refine fW ?_;refine Mh (Aas l p f first cap hc hf hl) F155 E E (by simp only[h0];rfl) E E (fU ?_);exact Aq E Ap (zH Ab (Iz _ _).symm) E
def Aar:=iA El 4 F94 ntmps94
def bI(l:List TenM)(p:TenM->Bool)(f:FuncId)(first cap:List SV)(hc:(SV.clo (.func f) first cap).inn []=true)(hf:∀x∈l,E4 prog f (first++[El x]++cap) (Ab (p x)))(hl:An l):Sp 43 [.sl 4 El l,.clo (.func f) first cap] (Ab (l.any p)):=cT F43 ntmps43 λF hF=>by
 have h0:B7 [] [.sl 4 El l,.clo (.func f) first cap]=true:=by simp only[B7,hc];rfl
 refine fW ?_;refine Mh (Aar l p f first cap hc hf hl) F94 E E (by simp only[h0];rfl) E E (fU ?_);exact Aq E Ap (zH Ab (Iz _ _).symm) E
structure TenOK(t:TenM):Prop where
 name:t.name.size<=100000
 devs:t.devs.length<=100000/\∀s∈t.devs,s.size<=100000
 ports:t.ports.length<=100000/\∀s∈t.ports,s.size<=100000
def oddS(s:ByteArray)(hs:s.size<=1000000):Sp 92 [Ar s] (Ab (!(A1 s))):=cT F92 ntmps92 λF hF=>by
 have q:=Ew s hs;refine gC q F71 ?_;exact D
def Agg(t:TenM)(ht:TenOK t):Sp 42 [El t] (Ab (Q2 t)):=cT F42 ntmps42 λF hF=>by
 have qn:=Ew t.name (by have:=ht.name;omega);have qd:=Qh t.devs (λs=>!(A1 s)) 92 [] [] rfl (λs hs=>⟨⟨_,_,F92⟩,oddS s (by have:=ht.devs.2 s hs;omega)⟩) (by have:=ht.devs.1;unfold An;omega);have qp:=Qh t.ports (λs=>!(A1 s)) 92 [] [] rfl (λs hs=>⟨⟨_,_,F92⟩,oddS s (by have:=ht.ports.2 s hs;omega)⟩) (by have:=ht.ports.1;unfold An;omega);have aa:Q2 t=(A1 t.name&&(decide (t.devs.length=t.ports.length)&&(decide (0<t.devs.length)&&(decide (t.devs.length<=16)&&(!(t.devs.any λs=>!(A1 s))&&!(t.ports.any λs=>!(A1 s))))))):=rfl;rw[aa];clear aa ht;generalize (t.devs.any λs=>!(A1 s))=od at *;generalize (t.ports.any λs=>!(A1 s))=op at *;obtain ⟨row,nm,ds,ps⟩:=t;dsimp only at *;generalize A1 nm=b1 at *;cases b1
 .refine gC qn F71 ?_;exact D
 by_cases k1:ds.length=ps.length;rotate_left
 .have f1:((ds.length:Int)==(ps.length:Int))=false:=by rw[zT];omega
  rw[zL k1];refine gC qn F71 ?_;exact D
 have f1:((ds.length:Int)==(ps.length:Int))=true:=by rw[yJ];omega
 rw[zK k1];by_cases k2:0<ds.length;rotate_left
 .have f2:decide ((ds.length:Int)>0)=false:=zL z_;rw[zL k2];refine gC qn F71 ?_;exact D
 have f2:decide ((ds.length:Int)>0)=true:=zK z_;rw[zK k2];by_cases k3:ds.length<=16;rotate_left
 .have f3:decide ((ds.length:Int)<=16)=false:=zL z_;rw[zL k3];refine gC qn F71 ?_;exact D
 have f3:decide ((ds.length:Int)<=16)=true:=zK z_;rw[zK k3];cases od;rotate_left
 .refine gB qn F71 qd F93 ?_;exact D
 .refine gB qn F71 qd F93 ?_;refine C qp F93 ?_;exact D
def Au3(n:Net)(i:Int)(ow:List Int)(ps:List ByteArray):Ej n i ow [] ps=(ow,0):=by
 rw[Ej];intro d ds p ps h;cases h
def claimS(n:Net)(hn:n.Fin)(hr:Ac n=true)(i:Int)(t:TenM)(ht:t.devs.length=t.ports.length)(hl:t.devs.length<=100000)(ow:List Int)(how:ow.length=n.ports.length):Sq 44 [Am n,.osl 0,Aa i,El t] [(0,.row 1 Aa ow)] (Aa (Ej n i ow t.devs t.ports).2) [(0,.row 1 Aa (Ej n i ow t.devs t.ports).1)]:=cT F44 ntmps44 λF hF=>by
 obtain ⟨row,nm,ds,ps⟩:=t;dsimp only at *;obtain ⟨res,aa⟩:=kE (Ej n i ow ds ps);rw[aa];refine T ?_;refine Ci (λx:Nat×List Int=>Ej n i x.2 (ds.drop x.1) (ps.drop x.1)=res/\x.1<=ds.length/\x.2.length=n.ports.length) (λx=>[(1,.osl 0),(2,Aa i),(4,.ptr 4 0),(7,.ptr 7 0),(8,Aa 0),(13,.sl 1 Ar ds),(14,Aa ds.length),(15,Aa x.1)]) (λx=>[(0,.row 1 Aa x.2),(4,.box (C8 n)),(7,.box [Aa row,Ar nm,.sl 1 Ar ds,.sl 1 Ar ps])]) (λx=>ds.length-x.1) (0,ow) [] ⟨aa,by simp,how⟩ U ?_;rintro ⟨j,wj⟩ ⟨hI,hj,hlen⟩;dsimp only at hI hj hlen|-;refine gL ?_ ?_<;>intro h
 .have ab:j<ds.length:=qA h;have hlp:j<ps.length:=by omega
  have aj:(j:Int).toNat<ds.length:=ab;have mf:(j:Int).toNat<ps.length:=hlp;clear h;rw[yO ab,yO hlp,Ej]at hI;have q1:=I5 n hn hr (ds[(j:Int).toNat]'aj);have q2:=Tp n hn hr (Cf n (ds[(j:Int).toNat]'aj)) (ps[(j:Int).toNat]'mf);have eI:M7 n (Cf n ds[j]) ps[j]=M7 n (Cf n (ds[(j:Int).toNat]'aj)) (ps[(j:Int).toNat]'mf):=rfl;rw[eI]at hI;have ox:¬M7 n (Cf n (ds[(j:Int).toNat]'aj)) (ps[(j:Int).toNat]'mf)<0->(M7 n (Cf n (ds[(j:Int).toNat]'aj)) (ps[(j:Int).toNat]'mf)).toNat<n.ports.length:=λh=>by
   obtain ⟨k,e,hk⟩:=Kf (p:=λp:Port=>p.dev==(Cf n (ds[(j:Int).toNat]'aj))&&p.name==(ps[(j:Int).toNat]'mf)) (l:=n.ports) h;show (Bs _ n.ports).toNat<_;rw[e];exact hk
  generalize M7 n (Cf n (ds[(j:Int).toNat]'aj)) (ps[(j:Int).toNat]'mf)=at_ at *;by_cases k1:at_<0
  .have f1:decide (at_<0)=true:=zK k1;rw[zE k1]at hI;subst hI;refine gB q1 F96 q2 F95 ?_;exact E0
  have f1:decide (at_<0)=false:=zL k1;have hp:=ox k1;have h0:0<=at_:=by omega
  have lh:at_.toNat<wj.length:=by omega
  rw[zD k1,Ag hp,Ag lh]at hI;by_cases k2:0<=(n.ports[at_.toNat]'hp).link
  .have f2:decide ((n.ports[at_.toNat]'hp).link>=0)=true:=zK k2;rw[zE (.inl k2)]at hI;subst hI;refine gB q1 F96 q2 F95 ?_;exact E0
  have f2:decide ((n.ports[at_.toNat]'hp).link>=0)=false:=zL k2;by_cases k3:wj[at_.toNat]'lh=-1;rotate_left
  .have f3:(wj[at_.toNat]'lh != -1)=true:=by rw[xC];exact k3
   rw[zE (.inr k3)]at hI;subst hI;refine gB q1 F96 q2 F95 ?_;exact E0
  have f3:(wj[at_.toNat]'lh != -1)=false:=by rw[bne_eq_false_iff_eq];exact k3
  rw[zD (λh=>h.elim k2 (λh=>h k3))]at hI;refine gB q1 F96 q2 F95 ?_;refine⟨i,E,E,?_⟩;refine T ?_;exact Ay (j+1,wj.set at_.toNat i) [] ⟨hI,ab,by simp;exact hlen⟩ (by dsimp only;omega) U
 .have cq:j=ds.length:=qB h;subst cq;clear h;rw[wR,vK z_]at hI;rw[Au3]at hI;subst hI;refine T ?_;exact E0
def M3(m k:Nat):List Int:=List.replicate k (-1)++List.replicate (m-k) 0
def Va(m k:Nat)(h:k<=m):(M3 m k).length=m:=by simp[M3];omega
def Awz(m:Nat):M3 m m=List.replicate m (-1):=by simp[M3]
def As0(m k c:Nat)(_h:k<=m)(hc:c=min k (m-k)):(M3 m k).take k++(M3 m k).take c++(M3 m k).drop (k+c)=M3 m (k+c):=by
 have e1:(M3 m k).take k=List.replicate k (-1):=by
  rw[M3,wX qq];simp
 have e2:(M3 m k).take c=List.replicate c (-1):=by
  rw[M3,wX kO];simp;omega
 have e3:(M3 m k).drop (k+c)=List.replicate (m-(k+c)) 0:=by
  rw[M3,List.drop_append,vK qq,wC];simp;omega
 rw[e1,e2,e3,M3,List.replicate_append_replicate]
def Ank(m:Nat)(h:m<2147483648):Sq 40 [.sl 1 Aa [-1],Aa m] [] (.osl 30) [(30,.row 1 Aa (List.replicate m (-1)))]:=cT F40 ntmps40 λF hF=>by
 have hw:IntKind.u64.wrap (m:Int)=m:=by rw[IntKind.wrap_u64];omega
 have xy:IntKind.i64.wrap (m:Int)=m:=by rw[IntKind.wrap_i64];omega
 have q:=mulS m z_;rw[<-hw]at q;refine gP q F91 ?_;rw[hw];refine fU ?_;refine⟨λh1=>zX (zO h1) z_,λ_=>?_⟩;refine fU ?_;rw[xy];refine Ai (B5 Γ.toTy (d:=30) (n:=m) Aa (0:Int) E E E E E E E E z_ z_ E E E) E E (fU ?_);refine Ai (Wy Γ.toTy (l:=List.replicate m (0:Int)) (m:=([-1]:List Int)) E E E E E .sl) E E ?_;have e0:([-1]:List Int).take (List.replicate m (0:Int)).length++(List.replicate m (0:Int)).drop ([-1]:List Int).length=M3 m (min 1 m):=by
  cases m with
  |zero=>rfl
  |succ m=>simp[M3,Nat.min_eq_left,tC]
 have e1:min ([-1]:List Int).length (List.replicate m (0:Int)).length=min 1 m:=by simp
 rw[e0,e1];refine fU ?_;refine Ci (λk:Nat=>min 1 m<=k/\k<=m) (λk=>[(7,.osl 30),(8,Aa k)]) (λk=>[(30,.row 1 Aa (M3 m k))]) (λk=>m-k) (min 1 m) [] z_ kU ?_;intro k hk;have hl:=Va m k hk.2;refine fU ?_;constructor<;>intro h1
 .have ab:k<m:=by have:=zO h1;rw[hl]at this;omega
  clear h1;have dh:1<=k:=by omega
  have ag:M3 m k≠[]:=λe=>by rw[e]at hl;simp at hl;omega
  refine Al3 30 [7] E ag (λi hi=>by simp at hi;subst hi;rfl) ?_;intro b cap hc;rw[hl]at hc|-;have gq:¬cap=k:=by omega
  have ns:=As0 m k (min k (m-k)) hk.2 rfl;refine fU ?_;refine Cc (Dm (lo:=k) (hi:=m) Γ.toTy E E E E (.inr ⟨_,_,E,E⟩) (.inl ⟨E,E⟩) z_ z_) j_ E (fU ?_);refine Cc (Dm (lo:=0) (hi:=k) Γ.toTy E E E E (.inl ⟨E,E⟩) (.inr ⟨_,_,E,E⟩) z_ z_) j_ E (fU ?_);refine Cc (X6 Γ.toTy 30 (lo:=k) (k:=k) E E E E (by rw[zD gq,Nat.mul_one]) E (by rw[zD z_,Nat.zero_mul]) E hl z_ z_) j_ E (gG ?_);refine⟨j_,?_⟩;refine fW ?_;refine bX 30 31 [7] m E E (by rw[ns,Va m _ z_];exact yG _) (λi hi=>by simp at hi;subst hi;rfl) ?_;have fm:((M3 m k).take k++(M3 m k).take (min k (m-k))++(M3 m k).drop (k+min k (m-k))).take m=M3 m (k+min k (m-k)):=by
   rw[ns,xD (by rw[Va m _ z_];exact yG _)]
  exact Ay (k+min k (m-k)) [(30,31)] z_ z_ ⟨kA,⟨.inl (zH (Ob.row 1 Aa) fm.symm),E,q_⟩,E,E⟩
 .have hkm:k=m:=by have:=zQ h1;rw[hl]at this;omega
  subst hkm;rw[Awz];refine fU ?_;exact E0
def Ae9(n:Net)(i:Int):∀(ds ps:List ByteArray) (ow:List Int),(Ej n i ow ds ps).1.length=ow.length
 |[],[],_=>rfl
 |[],_::_,_=>rfl
 |_::_,[],_=>rfl
 |d::ds,p::ps,ow=>by
  rw[Ej];split
  .rfl
  split
  .rfl
  rw[Ae9 n i ds ps];simp
def Aft{t:TenM}(h:Q2 t=true):t.devs.length=t.ports.length:=by
 simp only[Q2,zG,zJ]at h;exact h.2.1
def twiceS(x t:TenM):Sp 41 [El x,.ref 4 (El t) 0] (Ab (x.name==t.name)):=cT F41 ntmps41 λF hF=>by
 exact gA
def Aro(n:Net)(hn:n.Fin)(L:List TenM)(hL:∀t∈L,TenOK t)(hl:L.length<=100000):Sp 16 [Am n,.sl 4 El L] (.tup [.sl 1 Aa (assignT n L).1,Aa (assignT n L).2.1,Aa (assignT n L).2.2.1,Aa (assignT n L).2.2.2]):=cT F16 ntmps16 λF hF=>by
 have q0:=A0 n hn;have aa:=assignT.eq_1 n L;generalize assignT n L=res at *;have nh:n.ports.length<2147483648:=hn.ports;cases hr:Ac n with
 |false=>
  rw[hr]at q0;rw[zE hr]at aa;subst aa;refine gC q0 F39 ?_;exact Ao 4 1 Aa E D
 |true=>
 rw[hr]at q0;rw[zD (by rw[hr];exact Bool.noConfusion)]at aa;dsimp only at aa;refine gC q0 F39 ?_;refine O0 16 Aa [-1] E E (Aj 16 E ?_);refine X (Ad [(30,20)] E F40 (Ank n.ports.length nh) E q_ E ⟨.inr E,q_⟩) ?_;obtain ⟨ga,hga⟩:=kE (Js n L 0 (List.replicate n.ports.length (-1)) L);rw[hga]at aa;refine Ci (λx:Nat×List Int=>Js n L x.1 x.2 (L.drop x.1)=ga/\x.1<=L.length/\x.2.length=n.ports.length) (λx=>[(1,.sl 4 El L),(2,.ptr 2 0),(4,.osl 20),(5,Aa 0),(6,Aa 0),(7,Aa 0),(21,.sl 4 El L),(22,Aa L.length),(23,Aa x.1)]) (λx=>[(2,.box (C8 n)),(20,.row 1 Aa x.2)]) (λx=>L.length-x.1) (0,List.replicate n.ports.length (-1)) [] ⟨hga,by simp,vC⟩ U ?_;rintro ⟨j,ow⟩ ⟨hI,hj,hlen⟩;dsimp only at hI hj hlen|-;refine gL ?_ ?_<;>intro h
 .have ab:j<L.length:=qA h;have aj:(j:Int).toNat<L.length:=ab;have es:L.drop j=L[(j:Int).toNat]'aj::L.drop (j+1):=yO ab;rw[es,Js]at hI;have ht:=hL _ (zI aj);clear h;have p9:=bI (L.take j) (λx=>x.name==(L[(j:Int).toNat]'aj).name) 41 [] [.ref 4 (El (L[(j:Int).toNat]'aj)) 0] rfl (λx _=>⟨⟨_,_,F41⟩,twiceS x _⟩) (by unfold An;rw[zW];omega);have q1:=Agg (L[(j:Int).toNat]'aj) ht;refine T ?_;refine Ba 9 4 (El (L[(j:Int).toNat]'aj)) E E E ?_;cases c1:Q2 (L[(j:Int).toNat]'aj) with
  |false=>
   rw[c1]at q1;rw[zE (.inl c1)]at hI;subst hI;rw[zE (by show (2:Int)≠0;decide)]at aa;subst aa;refine C q1 F42 ?_;exact Ao 4 1 Aa E D
  |true=>
  rw[c1]at q1;have hdp:=Aft c1;by_cases c2:10<=j
  .have f2:decide (((j:Nat):Int)>=10)=true:=zK z_;rw[zE (.inr c2)]at hI;subst hI;rw[zE (by show (2:Int)≠0;decide)]at aa;subst aa;refine C q1 F42 ?_;exact Ao 4 1 Aa E D
  have f2:decide (((j:Nat):Int)>=10)=false:=zL z_;rw[zD (λh=>h.elim (λh=>by rw[c1]at h;cases h) c2)]at hI;cases c3:(L.take j).any (λx=>x.name==(L[(j:Int).toNat]'aj).name) with
  |true=>
   rw[c3]at p9;rw[zE c3]at hI;subst hI;rw[zE (by show (30:Int)≠0;decide)]at aa;subst aa;refine C q1 F42 ?_;refine X (Jr (lo:=0) (hi:=j) Γ.toTy (L.take j) E E E E (.inl ⟨E,E⟩) (.inr ⟨_,_,E,E⟩) (xX _) z_ (by rw[List.drop_zero])) ?_;refine C p9 F43 ?_;exact Ao 4 1 Aa E D
  |false=>
  rw[c3]at p9;rw[zD (by rw[c3];exact Bool.noConfusion)]at hI;have qc:=claimS n hn hr ((j:Nat):Int) (L[(j:Int).toNat]'aj) hdp (by have:=ht.devs.1;omega) ow hlen;have gq:=Ae9 n ((j:Nat):Int) (L[(j:Int).toNat]'aj).devs (L[(j:Int).toNat]'aj).ports ow;generalize Ej n ((j:Nat):Int) ow (L[(j:Int).toNat]'aj).devs (L[(j:Int).toNat]'aj).ports=cg at *;obtain ⟨wj,ce⟩:=cg;dsimp only at hI gq qc;by_cases c4:ce=0;rotate_left
  .have f4:(ce != 0)=true:=by rw[xC];exact c4
   rw[zE c4]at hI;subst hI;rw[zE c4]at aa;subst aa;refine C q1 F42 ?_;refine X (Jr (lo:=0) (hi:=j) Γ.toTy (L.take j) E E E E (.inl ⟨E,E⟩) (.inr ⟨_,_,E,E⟩) (xX _) z_ (by rw[List.drop_zero])) ?_;refine C p9 F43 ?_;refine X (Ad [(0,20)] E F44 qc E W E V) ?_;exact Ao 4 1 Aa E D
  have f4:(ce != 0)=false:=by rw[c4];rfl
  rw[zD (λh=>h c4)]at hI;refine C q1 F42 ?_;refine X (Jr (lo:=0) (hi:=j) Γ.toTy (L.take j) E E E E (.inl ⟨E,E⟩) (.inr ⟨_,_,E,E⟩) (xX _) z_ (by rw[List.drop_zero])) ?_;refine C p9 F43 ?_;refine X (Ad [(0,20)] E F44 qc E W E V) ?_;exact Ay (j+1,wj) [] ⟨hI,ab,by dsimp only;omega⟩ (by dsimp only;omega) U
 .have cq:j=L.length:=qB h;rw[cq,wR,Js]at hI;subst hI;clear h;rw[zD (by show ¬((0:Int)≠0);decide)]at aa;dsimp only at aa;refine T ?_;obtain ⟨B,hB⟩:=kE (Yc n ow 0 n.ports);rw[hB]at aa;refine Ci (λk:Nat=>Yc n ow k (n.ports.drop k)=B/\k<=n.ports.length) (λk=>[(2,.ptr 2 0),(4,.osl 20),(5,Aa 0),(6,Aa 0),(7,Aa 0),(12,Aa k)]) (λ_=>[(2,.box (C8 n)),(20,.row 1 Aa ow)]) (λk=>n.ports.length-k) 0 [] ⟨hB,by omega⟩ U ?_;rintro k ⟨hK,hk⟩;refine gL ?_ ?_<;>intro h
  .have og:k<n.ports.length:=qA h;have bh:(k:Int).toNat<n.ports.length:=og;have dh:(k:Int).toNat<ow.length:=by rw[hlen];exact og
   clear h;rw[yO og,Yc,Ag dh]at hK;by_cases d1:(n.ports[(k:Int).toNat]'bh).link<0;rotate_left
   .have g1:decide ((n.ports[(k:Int).toNat]'bh).link<0)=false:=zL d1;rw[zD (λh=>d1 h.1)]at hK;refine T ?_;exact Ay (k+1) [] ⟨hK,og⟩ z_ U
   have g1:decide ((n.ports[(k:Int).toNat]'bh).link<0)=true:=zK d1;by_cases d2:ow[(k:Int).toNat]'dh=-1;rotate_left
   .have g2:(ow[(k:Int).toNat]'dh == -1)=false:=by rw[zT];exact d2
    rw[zD (λh=>d2 h.2)]at hK;refine T ?_;exact Ay (k+1) [] ⟨hK,og⟩ z_ U
   have g2:(ow[(k:Int).toNat]'dh == -1)=true:=by rw[yJ];exact d2
   rw[zE ⟨d1,d2⟩]at hK;subst hK;rw[zE og,Ag bh]at aa;subst aa;have g3:decide (((k:Nat):Int)<(n.ports.length:Int))=true:=zK z_;refine T ?_;exact Ao 4 1 Aa E D
  .have u0:k=n.ports.length:=qB h;clear h;rw[u0,wR,Yc]at hK;rw[<-hK,zD z_]at aa;subst aa;have g3:decide (((k:Nat):Int)<(n.ports.length:Int))=false:=zL z_;refine T ?_;exact Aj 20 E D
end Go.Sy.Zaa
