/- Parts of a proof. -/
import Derived.Test.YtedbfemmehbeoaaGreatDoorXC31
set_option maxHeartbeats 4000000
set_option linter.all false
namespace Go.Sy.Zaa
open Go.Proofs Go.Proofs.Tryz
attribute [local irreducible]G DR
set_option maxRecDepth 100000
def Ajv:=iA Ap 1 F190 ntmps190
def Xq(l:List ByteArray)(p:ByteArray->Bool)(f:FuncId)(first cap:List SV)(g:(SV.clo (.func f) first cap).inn []=true)(i:∀x∈l,J3 prog f (first++[Ap x]++cap) (Ab (p x)))(j:At l):Sp 109 [.sl 1 Ap l,.clo (.func f) first cap] (Ab (l.any p)):=cT F109 ntmps109 λF r=>by
 have o:C7 [] [.sl 1 Ap l,.clo (.func f) first cap]=true:=by simp only[C7,g];rfl
 refine fW ?_;refine U3 (Ajv l p f first cap g i j) F190 q_ q_ (by simp only[o];rfl) q_ q_ (fU ?_);exact Av q_ As (zH Ab (Mr _ _).symm) q_
def Aju:=iA He 4 F110 ntmps110
def Adg(l:List Ex)(p:Ex->Bool)(f:FuncId)(first cap:List SV)(g:(SV.clo (.func f) first cap).inn []=true)(i:∀x∈l,J3 prog f (first++[He x]++cap) (Ab (p x)))(j:At l):Sp 53 [.sl 4 He l,.clo (.func f) first cap] (Ab (l.any p)):=cT F53 ntmps53 λF r=>by
 have o:C7 [] [.sl 4 He l,.clo (.func f) first cap]=true:=by simp only[C7,g];rfl
 refine fW ?_;refine U3 (Aju l p f first cap g i j) F110 q_ q_ (by simp only[o];rfl) q_ q_ (fU ?_);exact Av q_ As (zH Ab (Mr _ _).symm) q_
structure nY(t:Ex):Prop where
 name:t.name.size<=100000
 av:t.av.length<=100000/\∀s∈t.av,s.size<=100000
 g:t.g.length<=100000/\∀s∈t.g,s.size<=100000
def oddS(s:ByteArray)(g:s.size<=1000000):Sp 108 [Ap s] (Ab (!(A5 s))):=cT F108 ntmps108 λF i=>by
 have q:=Ju s g;refine gD q F64 ?_;exact D
def Aqb(t:Ex)(g:nY t):Sp 52 [He t] (Ab (Tx t)):=cT F52 ntmps52 λF P=>by
 have i:=Ju t.name (by have:=g.name;omega);have l:=Xq t.av (λs=>!(A5 s)) 108 [] [] rfl (λs j=>⟨⟨_,_,F108⟩,oddS s (by have:=g.av.2 s j;omega)⟩) (by have:=g.av.1;unfold At;omega);have p:=Xq t.g (λs=>!(A5 s)) 108 [] [] rfl (λs j=>⟨⟨_,_,F108⟩,oddS s (by have:=g.g.2 s j;omega)⟩) (by have:=g.g.1;unfold At;omega);have o:Tx t=(A5 t.name&&(decide (t.av.length=t.g.length)&&(decide (0<t.av.length)&&(decide (t.av.length<=16)&&(!(t.av.any λs=>!(A5 s))&&!(t.g.any λs=>!(A5 s))))))):=rfl;rw[o];clear o g;generalize (t.av.any λs=>!(A5 s))=r at *;generalize (t.g.any λs=>!(A5 s))=op at *;obtain ⟨row,I,ds,ps⟩:=t;dsimp only at *;generalize A5 I=J at *;cases J
 .refine gD i F64 ?_;exact D
 by_cases k1:ds.length=ps.length;rotate_left
 .have f1:((ds.length:Int)==(ps.length:Int))=false:=by rw[zU];omega
  rw[zJ k1];refine gD i F64 ?_;exact D
 have f1:((ds.length:Int)==(ps.length:Int))=true:=by rw[yL];omega
 rw[zL k1];by_cases k2:0<ds.length;rotate_left
 .have f2:decide ((ds.length:Int)>0)=false:=zJ j_;rw[zJ k2];refine gD i F64 ?_;exact D
 have f2:decide ((ds.length:Int)>0)=true:=zL j_;rw[zL k2];by_cases k3:ds.length<=16;rotate_left
 .have f3:decide ((ds.length:Int)<=16)=false:=zJ j_;rw[zJ k3];refine gD i F64 ?_;exact D
 have f3:decide ((ds.length:Int)<=16)=true:=zL j_;rw[zL k3];cases r;rotate_left
 .refine gB i F64 l F109 ?_;exact D
 .refine gB i F64 l F109 ?_;refine C p F109 ?_;exact D
def A70(n:Ai)(i:Int)(g:List Int)(ps:List ByteArray):Du n i g [] ps=(g,0):=by
 rw[Du];intro d ds p ps h;cases h
def claimS(n:Ai)(hn:n.Fin)(hr:Ac n=true)(i:Int)(t:Ex)(ht:t.av.length=t.g.length)(hl:t.av.length<=100000)(I:List Int)(a0:I.length=n.g.length):Sq 54 [Aq n,.osl 0,Aa i,He t] [(0,.row 1 Aa I)] (Aa (Du n i I t.av t.g).2) [(0,.row 1 Aa (Du n i I t.av t.g).1)]:=cT F54 ntmps54 λF hF=>by
 obtain ⟨row,nm,ds,ps⟩:=t;dsimp only at *;obtain ⟨a1,aa⟩:=kE (Du n i I ds ps);rw[aa];refine T ?_;refine Dc (λx:Nat×List Int=>Du n i x.2 (ds.drop x.1) (ps.drop x.1)=a1/\x.1<=ds.length/\x.2.length=n.g.length) (λx=>[(1,.osl 0),(2,Aa i),(4,.ptr 4 0),(7,.ptr 7 0),(8,Aa 0),(13,.sl 1 Ap ds),(14,Aa ds.length),(15,Aa x.1)]) (λx=>[(0,.row 1 Aa x.2),(4,.box (Eo n)),(7,.box [Aa row,Ap nm,.sl 1 Ap ds,.sl 1 Ap ps])]) (λx=>ds.length-x.1) (0,I) [] ⟨aa,by simp,a0⟩ U ?_;rintro ⟨j,P⟩ ⟨g,hj,o⟩;dsimp only at g hj o|-;refine gP ?_ ?_<;>intro h
 .have ab:j<ds.length:=qA h;have R:j<ps.length:=by omega
  have r:(j:Int).toNat<ds.length:=ab;have J:(j:Int).toNat<ps.length:=R;clear h;rw[yK ab,yK R,Du]at g;have q1:=M2 n hn hr (ds[(j:Int).toNat]'r);have q2:=Zz n hn hr (Cg n (ds[(j:Int).toNat]'r)) (ps[(j:Int).toNat]'J);have eI:L4 n (Cg n ds[j]) ps[j]=L4 n (Cg n (ds[(j:Int).toNat]'r)) (ps[(j:Int).toNat]'J):=rfl;rw[eI]at g;have pq:¬L4 n (Cg n (ds[(j:Int).toNat]'r)) (ps[(j:Int).toNat]'J)<0->(L4 n (Cg n (ds[(j:Int).toNat]'r)) (ps[(j:Int).toNat]'J)).toNat<n.g.length:=λh=>by
   obtain ⟨k,e,hk⟩:=Qp (p:=λp:D4=>p.q==(Cg n (ds[(j:Int).toNat]'r))&&p.name==(ps[(j:Int).toNat]'J)) (l:=n.g) h;show (Bt _ n.g).toNat<_;rw[e];exact hk
  generalize L4 n (Cg n (ds[(j:Int).toNat]'r)) (ps[(j:Int).toNat]'J)=at_ at *;by_cases k1:at_<0
  .have f1:decide (at_<0)=true:=zL k1;rw[zE k1]at g;subst g;refine gB q1 F112 q2 F111 ?_;exact E0
  have f1:decide (at_<0)=false:=zJ k1;have hp:=pq k1;have h0:0<=at_:=by omega
  have mg:at_.toNat<P.length:=by omega
  rw[zD k1,Aj hp,Aj mg]at g;by_cases k2:0<=(n.g[at_.toNat]'hp).ah
  .have f2:decide ((n.g[at_.toNat]'hp).ah>=0)=true:=zL k2;rw[zE (.inl k2)]at g;subst g;refine gB q1 F112 q2 F111 ?_;exact E0
  have f2:decide ((n.g[at_.toNat]'hp).ah>=0)=false:=zJ k2;by_cases k3:P[at_.toNat]'mg=-1;rotate_left
  .have f3:(P[at_.toNat]'mg != -1)=true:=by rw[xF];exact k3
   rw[zE (.inr k3)]at g;subst g;refine gB q1 F112 q2 F111 ?_;exact E0
  have f3:(P[at_.toNat]'mg != -1)=false:=by rw[bne_eq_false_iff_eq];exact k3
  rw[zD (λh=>h.elim k2 (λh=>h k3))]at g;refine gB q1 F112 q2 F111 ?_;refine⟨i,q_,q_,?_⟩;refine T ?_;exact A8 (j+1,P.set at_.toNat i) [] ⟨g,ab,by simp;exact o⟩ (by dsimp only;omega) U
 .have bu:j=ds.length:=qB h;subst bu;clear h;rw[wO,vP j_]at g;rw[A70]at g;subst g;refine T ?_;exact E0
def V1(m k:Nat):List Int:=List.replicate k (-1)++List.replicate (m-k) 0
def cK(m k:Nat)(h:k<=m):(V1 m k).length=m:=by simp[V1];omega
def A92(m:Nat):V1 m m=List.replicate m (-1):=by simp[V1]
def A5k(m k c:Nat)(_h:k<=m)(l:c=min k (m-k)):(V1 m k).take k++(V1 m k).take c++(V1 m k).drop (k+c)=V1 m (k+c):=by
 have g:(V1 m k).take k=List.replicate k (-1):=by
  rw[V1,vB qx];simp
 have i:(V1 m k).take c=List.replicate c (-1):=by
  rw[V1,vB kO];simp;omega
 have j:(V1 m k).drop (k+c)=List.replicate (m-(k+c)) 0:=by
  rw[V1,List.drop_append,vP qx,xO];simp;omega
 rw[g,i,j,V1,List.replicate_append_replicate]
def Azb(m:Nat)(h:m<2147483648):Sq 50 [.sl 1 Aa [-1],Aa m] [] (.osl 30) [(30,.row 1 Aa (List.replicate m (-1)))]:=cT F50 ntmps50 λF hF=>by
 have p:IntKind.u64.wrap (m:Int)=m:=by rw[IntKind.wrap_u64];omega
 have I:IntKind.i64.wrap (m:Int)=m:=by rw[IntKind.wrap_i64];omega
 have q:=mulS m j_;rw[<-p]at q;refine gQ q F107 ?_;rw[p];refine fU ?_;refine⟨λj=>zW (zO j) j_,λ_=>?_⟩;refine fU ?_;rw[I];refine Al (Cw Γ.toTy (d:=30) (n:=m) Aa (0:Int) q_ q_ q_ q_ q_ q_ q_ q_ j_ j_ q_ q_ q_) q_ q_ (fU ?_);refine Al (fO Γ.toTy (l:=List.replicate m (0:Int)) (m:=([-1]:List Int)) q_ q_ q_ q_ q_ .sl) q_ q_ ?_;have J:([-1]:List Int).take (List.replicate m (0:Int)).length++(List.replicate m (0:Int)).drop ([-1]:List Int).length=V1 m (min 1 m):=by
  cases m with
  |zero=>rfl
  |succ m=>simp[V1,Nat.min_eq_left,uH]
 have P:min ([-1]:List Int).length (List.replicate m (0:Int)).length=min 1 m:=by simp
 rw[J,P];refine fU ?_;refine Dc (λk:Nat=>min 1 m<=k/\k<=m) (λk=>[(7,.osl 30),(8,Aa k)]) (λk=>[(30,.row 1 Aa (V1 m k))]) (λk=>m-k) (min 1 m) [] j_ kU ?_;intro k r;have g:=cK m k r.2;refine fU ?_;constructor<;>intro j
 .have ab:k<m:=by have:=zO j;rw[g]at this;omega
  clear j;have dg:1<=k:=by omega
  have R:V1 m k≠[]:=λe=>by rw[e]at g;simp at g;omega
  refine Axg 30 [7] q_ R (λi hi=>by simp at hi;subst hi;rfl) ?_;intro b cap hc;rw[g]at hc|-;have gu:¬cap=k:=by omega
  have t:=A5k m k (min k (m-k)) r.2 rfl;refine fU ?_;refine C6 (Ha (lo:=k) (hi:=m) Γ.toTy q_ q_ q_ q_ (.inr ⟨_,_,q_,q_⟩) (.inl ⟨q_,q_⟩) j_ j_) y_ q_ (fU ?_);refine C6 (Ha (lo:=0) (hi:=k) Γ.toTy q_ q_ q_ q_ (.inl ⟨q_,q_⟩) (.inr ⟨_,_,q_,q_⟩) j_ j_) y_ q_ (fU ?_);refine C6 (nL Γ.toTy 30 (lo:=k) (k:=k) q_ q_ q_ q_ (by rw[zD gu,tD]) q_ (by rw[zD j_,Nat.zero_mul]) q_ g j_ j_) y_ q_ (gE ?_);refine⟨y_,?_⟩;refine fW ?_;refine Ady 30 31 [7] m q_ q_ (by rw[t,cK m _ j_];exact yG _) (λi hi=>by simp at hi;subst hi;rfl) ?_;have ed:((V1 m k).take k++(V1 m k).take (min k (m-k))++(V1 m k).drop (k+min k (m-k))).take m=V1 m (k+min k (m-k)):=by
   rw[t,xI (by rw[cK m _ j_];exact yG _)]
  exact A8 (k+min k (m-k)) [(30,31)] j_ j_ ⟨kA,⟨.inl (zH (Ob.row 1 Aa) ed.symm),q_,z_⟩,q_,q_⟩
 .have o:k=m:=by have:=zQ j;rw[g]at this;omega
  subst o;rw[A92];refine fU ?_;exact E0
def Aox(n:Ai)(i:Int):∀(ds ps:List ByteArray) (g:List Int),(Du n i g ds ps).1.length=g.length
 |[],[],_=>rfl
 |[],_::_,_=>rfl
 |_::_,[],_=>rfl
 |d::ds,p::ps,g=>by
  rw[Du];split
  .rfl
  split
  .rfl
  rw[Aox n i ds ps];simp
def Apr{t:Ex}(h:Tx t=true):t.av.length=t.g.length:=by
 simp only[Tx,zG,zK]at h;exact h.2.1
def twiceS(x t:Ex):Sp 51 [He x,.ref 4 (He t) 0] (Ab (x.name==t.name)):=cT F51 ntmps51 λF g=>by
 exact gA
def Bf6(n:Ai)(hn:n.Fin)(L:List Ex)(hL:∀t∈L,nY t)(hl:L.length<=100000):Sp 26 [Aq n,.sl 4 He L] (.tup [.sl 1 Aa (Co n L).1,Aa (Co n L).2.1,Aa (Co n L).2.2.1,Aa (Co n L).2.2.2]):=cT F26 ntmps26 λF hF=>by
 have q0:=A7 n hn;have g:=Co.eq_1 n L;generalize Co n L=a1 at *;have j7:n.g.length<2147483648:=hn.g;cases P:Ac n with
 |false=>
  rw[P]at q0;rw[zE P]at g;subst g;refine gD q0 F49 ?_;exact Ar 4 1 Aa q_ D
 |true=>
 rw[P]at q0;rw[zD (by rw[P];exact Bool.noConfusion)]at g;dsimp only at g;refine gD q0 F49 ?_;refine Wu 16 Aa [-1] q_ q_ (Ao 16 q_ ?_);refine X (Ad [(30,20)] q_ F50 (Azb n.g.length j7) q_ z_ q_ ⟨.inr q_,z_⟩) ?_;obtain ⟨ga,R⟩:=kE (Hm n L 0 (List.replicate n.g.length (-1)) L);rw[R]at g;refine Dc (λx:Nat×List Int=>Hm n L x.1 x.2 (L.drop x.1)=ga/\x.1<=L.length/\x.2.length=n.g.length) (λx=>[(1,.sl 4 He L),(2,.ptr 2 0),(4,.osl 20),(5,Aa 0),(6,Aa 0),(7,Aa 0),(21,.sl 4 He L),(22,Aa L.length),(23,Aa x.1)]) (λx=>[(2,.box (Eo n)),(20,.row 1 Aa x.2)]) (λx=>L.length-x.1) (0,List.replicate n.g.length (-1)) [] ⟨R,by simp,wS⟩ U ?_;rintro ⟨j,p⟩ ⟨i,hj,o⟩;dsimp only at i hj o|-;refine gP ?_ ?_<;>intro h
 .have ab:j<L.length:=qA h;have l:(j:Int).toNat<L.length:=ab;have fg:L.drop j=L[(j:Int).toNat]'l::L.drop (j+1):=yK ab;rw[fg,Hm]at i;have ht:=hL _ (zI l);clear h;have sq:=Adg (L.take j) (λx=>x.name==(L[(j:Int).toNat]'l).name) 51 [] [.ref 4 (He (L[(j:Int).toNat]'l)) 0] rfl (λx _=>⟨⟨_,_,F51⟩,twiceS x _⟩) (by unfold At;rw[zY];omega);have I:=Aqb (L[(j:Int).toNat]'l) ht;refine T ?_;refine Bi 9 4 (He (L[(j:Int).toNat]'l)) q_ q_ q_ ?_;cases c1:Tx (L[(j:Int).toNat]'l) with
  |false=>
   rw[c1]at I;rw[zE (.inl c1)]at i;subst i;rw[zE (by show (2:Int)≠0;decide)]at g;subst g;refine C I F52 ?_;exact Ar 4 1 Aa q_ D
  |true=>
  rw[c1]at I;have a0:=Apr c1;by_cases c2:10<=j
  .have f2:decide (((j:Nat):Int)>=10)=true:=zL j_;rw[zE (.inr c2)]at i;subst i;rw[zE (by show (2:Int)≠0;decide)]at g;subst g;refine C I F52 ?_;exact Ar 4 1 Aa q_ D
  have f2:decide (((j:Nat):Int)>=10)=false:=zJ j_;rw[zD (λh=>h.elim (λh=>by rw[c1]at h;cases h) c2)]at i;cases c3:(L.take j).any (λx=>x.name==(L[(j:Int).toNat]'l).name) with
  |true=>
   rw[c3]at sq;rw[zE c3]at i;subst i;rw[zE (by show (30:Int)≠0;decide)]at g;subst g;refine C I F52 ?_;refine X (O0 (lo:=0) (hi:=j) Γ.toTy (L.take j) q_ q_ q_ q_ (.inl ⟨q_,q_⟩) (.inr ⟨_,_,q_,q_⟩) (xV _) j_ (by rw[List.drop_zero])) ?_;refine C sq F53 ?_;exact Ar 4 1 Aa q_ D
  |false=>
  rw[c3]at sq;rw[zD (by rw[c3];exact Bool.noConfusion)]at i;have qc:=claimS n hn P ((j:Nat):Int) (L[(j:Int).toNat]'l) a0 (by have:=ht.av.1;omega) p o;have gu:=Aox n ((j:Nat):Int) (L[(j:Int).toNat]'l).av (L[(j:Int).toNat]'l).g p;generalize Du n ((j:Nat):Int) p (L[(j:Int).toNat]'l).av (L[(j:Int).toNat]'l).g=cg at *;obtain ⟨xo,ce⟩:=cg;dsimp only at i gu qc;by_cases c4:ce=0;rotate_left
  .have f4:(ce != 0)=true:=by rw[xF];exact c4
   rw[zE c4]at i;subst i;rw[zE c4]at g;subst g;refine C I F52 ?_;refine X (O0 (lo:=0) (hi:=j) Γ.toTy (L.take j) q_ q_ q_ q_ (.inl ⟨q_,q_⟩) (.inr ⟨_,_,q_,q_⟩) (xV _) j_ (by rw[List.drop_zero])) ?_;refine C sq F53 ?_;refine X (Ad [(0,20)] q_ F54 qc q_ W q_ V) ?_;exact Ar 4 1 Aa q_ D
  have f4:(ce != 0)=false:=by rw[c4];rfl
  rw[zD (λh=>h c4)]at i;refine C I F52 ?_;refine X (O0 (lo:=0) (hi:=j) Γ.toTy (L.take j) q_ q_ q_ q_ (.inl ⟨q_,q_⟩) (.inr ⟨_,_,q_,q_⟩) (xV _) j_ (by rw[List.drop_zero])) ?_;refine C sq F53 ?_;refine X (Ad [(0,20)] q_ F54 qc q_ W q_ V) ?_;exact A8 (j+1,xo) [] ⟨i,ab,by dsimp only;omega⟩ (by dsimp only;omega) U
 .have bu:j=L.length:=qB h;rw[bu,wO,Hm]at i;subst i;clear h;rw[zD (by show ¬((0:Int)≠0);decide)]at g;dsimp only at g;refine T ?_;obtain ⟨B,hB⟩:=kE (nU n p 0 n.g);rw[hB]at g;refine Dc (λk:Nat=>nU n p k (n.g.drop k)=B/\k<=n.g.length) (λk=>[(2,.ptr 2 0),(4,.osl 20),(5,Aa 0),(6,Aa 0),(7,Aa 0),(12,Aa k)]) (λ_=>[(2,.box (Eo n)),(20,.row 1 Aa p)]) (λk=>n.g.length-k) 0 [] ⟨hB,by omega⟩ U ?_;rintro k ⟨r,hk⟩;refine gP ?_ ?_<;>intro h
  .have J:k<n.g.length:=qA h;have bh:(k:Int).toNat<n.g.length:=J;have dg:(k:Int).toNat<p.length:=by rw[o];exact J
   clear h;rw[yK J,nU,Aj dg]at r;by_cases d1:(n.g[(k:Int).toNat]'bh).ah<0;rotate_left
   .have g1:decide ((n.g[(k:Int).toNat]'bh).ah<0)=false:=zJ d1;rw[zD (λh=>d1 h.1)]at r;refine T ?_;exact A8 (k+1) [] ⟨r,J⟩ j_ U
   have g1:decide ((n.g[(k:Int).toNat]'bh).ah<0)=true:=zL d1;by_cases d2:p[(k:Int).toNat]'dg=-1;rotate_left
   .have g2:(p[(k:Int).toNat]'dg == -1)=false:=by rw[zU];exact d2
    rw[zD (λh=>d2 h.2)]at r;refine T ?_;exact A8 (k+1) [] ⟨r,J⟩ j_ U
   have g2:(p[(k:Int).toNat]'dg == -1)=true:=by rw[yL];exact d2
   rw[zE ⟨d1,d2⟩]at r;subst r;rw[zE J,Aj bh]at g;subst g;have g3:decide (((k:Nat):Int)<(n.g.length:Int))=true:=zL j_;refine T ?_;exact Ar 4 1 Aa q_ D
  .have uu:k=n.g.length:=qB h;clear h;rw[uu,wO,nU]at r;rw[<-r,zD j_]at g;subst g;have g3:decide (((k:Nat):Int)<(n.g.length:Int))=false:=zJ j_;refine T ?_;exact Ao 20 q_ D
end Go.Sy.Zaa
