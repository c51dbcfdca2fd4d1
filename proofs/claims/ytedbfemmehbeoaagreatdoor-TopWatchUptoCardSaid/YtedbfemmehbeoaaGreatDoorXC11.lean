/- Parts of a proof. -/
import Derived.Test.YtedbfemmehbeoaaGreatDoorXC10
set_option maxHeartbeats 4000000
set_option linter.all false
namespace Go.Sy.Zaa
open Go.Proofs Go.Proofs.Tryz
attribute [local irreducible]G DR
set_option maxRecDepth 100000
def U1(t:List Bc):SV:=.sl 3 Bv t
def Ym(l:List B0):SV:=.sl 7 Db l
def bA(n:Ai)(k:Nat)(now inj:Int)(d:Nat->Int):List SV :=
 [.sl 5 Bh n.j,.sl 7 Bm n.g,.sl 3 Dq n.x,.sl 6 Ax n.c,.sl 4 Bp n.ab,.sl 4 B6 n.y,.sl 5 D5 n.ag,.sl 5 Dx n.r,.ptr k 0,.osl 2,.osl 3,.val (.int .i64 now),.val (.int .i64 inj),
 .val (.int .i64 (d 0)),.val (.int .i64 (d 1)),.val (.int .i64 (d 2)),.val (.int .i64 (d 3)),.val (.int .i64 (d 4)),.val (.int .i64 (d 5)),.val (.int .i64 (d 6)),.val (.int .i64 (d 7)),.val (.int .i64 (d 8)),.val (.int .i64 (d 9)),.val (.int .i64 (d 10)),.val (.int .i64 (d 11)),.val (.int .i64 (d 12)),.val (.int .i64 (d 13)),.val (.int .i64 (d 14)),.val (.int .i64 (d 15)),.val (.int .i64 (d 16)),.val (.int .i64 (d 17)),.val (.int .i64 (d 18)),.val (.int .i64 (d 19)),.val (.int .i64 (d 20)),.val (.int .i64 (d 21)),.val (.int .i64 (d 22)),.val (.int .i64 (d 23)),.val (.int .i64 (d 24)),.val (.int .i64 (d 25)),.val (.int .i64 (d 26)),.val (.int .i64 (d 27)),.val (.int .i64 (d 28)),.val (.int .i64 (d 29)),.val (.int .i64 (d 30)),.val (.int .i64 (d 31)),.val (.int .i64 (d 32)),.val (.int .i64 (d 33)),.val (.int .i64 (d 34)),.val (.int .i64 (d 35)),.val (.int .i64 (d 36)),.val (.int .i64 (d 37)),.val (.int .i64 (d 38)),.val (.int .i64 (d 39)),.val (.int .i64 (d 40)),.val (.int .i64 (d 41)),.val (.int .i64 (d 42)),.val (.int .i64 (d 43)),.val (.int .i64 (d 44)),.val (.int .i64 (d 45)),.val (.int .i64 (d 46)),.val (.int .i64 (d 47)),.val (.int .i64 (d 48)),.val (.int .i64 (d 49)),.val (.int .i64 (d 50)),.val (.int .i64 (d 51)),.val (.int .i64 (d 52)),.val (.int .i64 (d 53)),.val (.int .i64 (d 54)),.val (.int .i64 (d 55)),.val (.int .i64 (d 56)),.val (.int .i64 (d 57)),.val (.int .i64 (d 58)),.val (.int .i64 (d 59)),.val (.int .i64 (d 60)),.val (.int .i64 (d 61)),.val (.int .i64 (d 62)),.val (.int .i64 (d 63))]
def onceL(up:List Bool)(done:Int)(fw:List Bool):List SV:=[.sl 1 Ab up,.val (.int .u32 done),.val (.int .i32 0),.val (.int .u32 0),.sl 1 Ab fw]
def Sx(n:Ai)(up:List Bool)(d:Bool):List SV:=onceL up (if d then 1 else 0) (if d then X9 n up else [])
def I5(n:Ai)(m:B4)(d:Bool):It:=[(0,.box (bA n 1 m.ay m.af m.ap)),(1,.box (Sx n m.up d)),(2,.row 1 U1 m.al),(3,.row 1 Ym m.ai)]
def getI_map(f:Nat->SV):∀(k a n:Nat),k<n->Lr ((List.range' a n).map f) k=some (f (a+k))
 |0,a,n+1,_=>rfl
 |k+1,a,n+1,h=>by
  show Lr ((List.range' (a+1) n).map f) k=_;rw[getI_map f k (a+1) n j_];congr 2;omega
def A2q(f:Nat->SV)(x:SV):∀(k a n:Nat),((List.range' a n).map f).set k x=(List.range' a n).map (λi=>if i=a+k then x else f i)
 |_,_,0=>rfl
 |0,a,n+1=>by
  show x::(List.range' (a+1) n).map f=(if a=a+0 then x else f a)::(List.range' (a+1) n).map _;rw[zE j_];congr 1;apply vR;intro i hi;have:=(List.mem_range'_1.1 hi).1;rw[zD j_]
 |k+1,a,n+1=>by
  show f a::((List.range' (a+1) n).map f).set k x=(if a=a+(k+1) then x else f a)::(List.range' (a+1) n).map _;rw[zD j_,A2q f x k (a+1) n];congr 1;apply vR;intro i _;rw[show a+1+k=a+(k+1) by omega]
def oR(n:Ai)(k:Nat)(now inj:Int)(d:Nat->Int):bA n k now inj d =
  .sl 5 Bh n.j::.sl 7 Bm n.g::.sl 3 Dq n.x::.sl 6 Ax n.c::.sl 4 Bp n.ab::.sl 4 B6 n.y::.sl 5 D5 n.ag::.sl 5 Dx n.r::.ptr k 0::.osl 2::.osl 3::.val (.int .i64 now)::.val (.int .i64 inj) ::
   (List.range' 0 64).map (λi=>.val (.int .i64 (d i))):=rfl
def A9u(n:Ai)(k:Nat)(now inj:Int)(d:Nat->Int)(e:Nat)(g:e<64):Lr (bA n k now inj d) (13+e)=some (.val (.int .i64 (d e))):=by
 rw[oR,tP];show Lr ((List.range' 0 64).map (λi=>SV.val (.int .i64 (d i)))) e=_;rw[getI_map _ e 0 64 g,xU]
def A9t(n:Ai)(k:Nat)(now inj:Int)(d:Nat->Int)(e:Nat)(v:Int):(bA n k now inj d).set (13+e) (.val (.int .i64 v))=bA n k now inj (λi=>if i=e then v else d i):=by
 rw[oR,oR,tP];have h:=A2q (λi=>SV.val (.int .i64 (d i))) (.val (.int .i64 v)) e 0 64;have g:(λi=>if i=0+e then SV.val (.int .i64 v) else SV.val (.int .i64 (d i)))=(λi=>SV.val (.int .i64 (if i=e then v else d i))):=by
  funext i;rw[xU];split<;>rfl
 rw[g]at h;rw[<-h];rfl
def add64(a:Addr)(x y:Int)(w:World)(g:w.cell? a=some (.int .i64 x))(i:w.frozen? a=false):(callFunc 325 #[.pointer (some a),.int .i64 y]).run prog w=.ok (.value (.int .i64 (IntKind.i64.wrap (x+y)))) (w.setCell a (.int .i64 (IntKind.i64.wrap (x+y)))) :=
 run_call_add func325 y_ y_ y_ .i64 y_ g i rfl
def A5a(n:Ai)(k:Nat)(m:B4)(e:Int):bA n k m.ay m.af (Et m e).ap=(bA n k m.ay m.af m.ap).set (13+e.toNat) (.val (.int .i64 (m.ap e.toNat+1))):=by
 rw[A9t];congr 1;funext i;show (if i=e.toNat then m.ap i+1 else m.ap i)=_;split
 .rename_i h;rw[h]
 .rfl
def A1k{x:Int}(h:0<=x/\x<=1000000000000):IntKind.i64.wrap (x+1)=x+1:=by
 rw[IntKind.wrap_i64];omega
def A11(n:Ai)(m:B4)(d:Bool)(e:Int)(l:0<=e)(o:e<64)(i:IntKind.i64.wrap (m.ap e.toNat+1)=m.ap e.toNat+1):Sq 247 [.ptr 0 (13+e.toNat),Aa 1] (I5 n m d) (Aa (m.ap e.toNat+1)) (I5 n (Et m e) d):=cT F247 ntmps247 λF p=>by
 have g:=A9u n 1 m.ay m.af m.ap e.toNat j_;have j:=A5a n 1 m e;have r:=Ahl g;refine fW ?_;refine Al (Aqz add64 q_ q_ q_ q_ g i) q_ q_ (fU ?_);exact done q_ As [] (I5 n (Et m e) d) (λ_ h=>h) q_ q_ ⟨z_,⟨.inl (zH Ob.box j),q_,.inl q_,q_,.inl q_,q_,.inl q_,q_,z_⟩,q_,q_⟩
def Av9(n:Ai)(m:B4)(d:Bool)(e:Int)(g:0<=e)(i:e<64)(j:0<=m.ap e.toNat/\m.ap e.toNat<=1000000000000):Sq 169 [.ptr 0 0,Aa e] (I5 n m d) (.tup []) (I5 n (Et m e) d):=cT F169 ntmps169 λF l=>by
 refine fW ?_;refine⟨g,by omega,?_⟩;refine fU ?_;refine Al (Ad [] q_ F247 (A11 n m d e g i (A1k j)) (zH (λz=>[SV.ptr 0 z,Aa 1]) (show 13+e.toNat=0+13+e.toNat*1 by omega)) kA q_ kB) q_ q_ (fU ?_);exact Bf q_ .nil [] (I5 n (Et m e) d) (λ_ h=>h) q_ q_ kU
def A2o(n:Ai)(m:B4)(d:Bool)(dom:Int):Sq 118 [.ptr 0 0,Aa dom] (I5 n m d) (Ab (Am dom m.ai.length)) (I5 n m d):=cT F118 ntmps118 λF j=>by
 have g:Am dom m.ai.length=(decide (0<=dom)&&decide (dom<m.ai.length)):=rfl;generalize Am dom m.ai.length=i at *;refine gR ?_ ?_<;>intro h
 .refine fU ?_
  (repeat (first|(refine⟨λh=>False.elim (by first|(exact zW h qq)|(simp at h;done)|(simp at h;omega)),λ_=>?_⟩;(refine fU ?_))|(refine⟨λ_=>?_,λh=>False.elim (by first|(exact zW h qq)|(simp at h;done)|(simp at h;omega))⟩;(refine fU ?_))))
  refine done q_ As [] (I5 n m d) (λ_ h=>h) ?_ q_ kU;rw[g,h];rfl
 .refine fU ?_
  (repeat (first|(refine⟨λh=>False.elim (by first|(exact zW h qq)|(simp at h;done)|(simp at h;omega)),λ_=>?_⟩;(refine fU ?_))|(refine⟨λ_=>?_,λh=>False.elim (by first|(exact zW h qq)|(simp at h;done)|(simp at h;omega))⟩;(refine fU ?_))))
  refine done q_ As [] (I5 n m d) (λ_ h=>h) ?_ q_ kU;rw[g,h];rfl
def A1d(f:Bg)(g:f.body.length<100000):Sp 265 [Ek f] (Ek f):=cT F265 ntmps265 λF i=>by
 conv=>whnf
 refine Al (Cw Γ.toTy (d:=7) (n:=f.body.length) Ae 0 q_ q_ q_ q_ q_ q_ q_ q_ j_ j_ q_ q_ q_) q_ q_ (oO ?_);refine Al (fO Γ.toTy (l:=List.replicate f.body.length 0) (m:=f.body) q_ q_ q_ q_ q_ .sl) q_ q_ (oO ?_);refine Ao 7 q_ (oO ?_);refine Av q_ (.cons (.cell q_ q_ q_ q_) .nil) ?_ q_;show SV.agg [_,_,_,.sl 1 Ae f.body]=SV.agg [_,_,_,.sl 1 Ae (f.body.take (List.replicate f.body.length (0:UInt8)).length++(List.replicate f.body.length (0:UInt8)).drop f.body.length)];have e:f.body.take (List.replicate f.body.length (0:UInt8)).length++(List.replicate f.body.length (0:UInt8)).drop f.body.length=f.body:=by
  rw[wS,yM,vP qx,yV]
 rw[e];rfl
def Arp(q:B0)(g:q.frame.body.length<100000):Sp 201 [Db q] (Db q):=cT F201 ntmps201 λF j=>by
 have i:=A1d q.frame g
 conv=>whnf
 refine gF i F265 ?_;exact dN
def eX(l:List B0):Prop:=∀q∈l,q.frame.body.length<100000
def Bgb(l:List B0)(R:l.length<1000000)(r:eX l):Sq 200 [.sl 7 Db l] [] (.osl 0) [(0,.row 7 Db l)]:=cT F200 ntmps200 λF hF=>by
 conv=>whnf
 refine Ct 3 1000 7 Db q_ q_ ?_;refine Bl l.length (λj=>[(3,.osl 1000),(6,.sl 7 Db l),(7,Aa l.length),(8,Aa j)]) (λj=>[(1000,.row 7 Db (l.take j))]) [] kU ?_;intro j hj;refine gI ?_ ?_<;>intro h
 .have g:j<l.length:=qA h;have o:(j:Int).toNat<l.length:=kS g;obtain ⟨q,i⟩:=kE (l[j]);have t:l[(j:Int).toNat]'o=q:=i;have I:l.take (j+1)=l.take j++[q]:=by rw[zZ g,i]
  have J:=r q (by rw[<-i];exact zI g);have p:(l.take j).length=j:=by rw[zY];omega
  clear h;refine oO ?_;refine⟨q_,by omega,o,?_⟩;rw[t]
  conv=>whnf
  refine gF (Arp q J) F201 ?_;refine Al (Ah Γ.toTy 16 q_ q_ q_ q_ q_ (.row q_) (.lit (e:=Db) (l:=[q]) q_ q_) qx (by rw[p];simp;omega) (by rw[p];simp;omega)) q_ q_ (gG ?_);exact A9 [(1000,16)] g ⟨kA,⟨.inl (zH (Ob.row 7 Db) I),q_,z_⟩,q_,q_⟩
 .have P:j=l.length:=qB h;subst P;rw[yM];refine oO ?_;exact done q_ As [(0,1000)] [(0,.row 7 Db l)] (λ_ h=>h) q_ q_ kU
def Atm(l:List B0)(q:B0)(i:l.length<1000000)(j:eX l)(o:q.frame.body.length<100000):Sp 236 [.sl 7 Db l,Db q] (.tup [.sl 7 Db (cN l q).1,Ab (cN l q).2]):=cT F236 ntmps236 λF r=>by
 have g:=cN.eq_1 l q;generalize cN l q=p at *
 conv=>whnf
 refine Al (Ad [(0,55)] q_ F200 (Bgb l i j) q_ z_ q_ ⟨.inr q_,z_⟩) q_ q_ ?_;refine gI ?_ ?_<;>intro h
 .rw[zE (qA h)]at g;subst g;refine oO ?_;exact Ao 55 q_ dN
 .rw[zD (qB h)]at g;subst g;refine oO ?_;refine gF (Arp q o) F201 ?_;exact Al (Ah Γ.toTy 17 q_ q_ q_ q_ q_ (.row q_) (.lit (e:=Db) (l:=[q]) q_ q_) qq kO kO) q_ q_ (Ao 17 q_ gM)
def Aiq(l:List B0)(at_:Int)(I:l.length<1000000)(j:eX l):Sp 119 [.sl 7 Db l,Aa at_] (.tup [Db (Tz l at_).1,.sl 7 Db (Tz l at_).2.1,Ab (Tz l at_).2.2]):=cT F119 ntmps119 λF hF=>by
 have g:=Tz.eq_1 l at_;generalize Tz l at_=R at *
 conv=>whnf
 constructor<;>intro h
 .rw[zE (.inl (zO h))]at g;subst g;refine oT ?_;refine Al (Ad [(0,55)] q_ F200 (Bgb l I j) q_ z_ q_ ⟨.inr q_,z_⟩) q_ q_ ?_;refine Ao 55 q_ (oO ?_);exact An 4 [Aa 0,Aa 0,Aa 0,B1 0,B1 0,Aa 0,.sl 1 Ae []] q_ vL dN
 have h0:0<=at_:=qB h;clear h;refine gI ?_ ?_<;>intro h
 .rw[zE (.inr (zO h))]at g;subst g;refine oO ?_;refine Al (Ad [(0,55)] q_ F200 (Bgb l I j) q_ z_ q_ ⟨.inr q_,z_⟩) q_ q_ ?_;refine Ao 55 q_ (oO ?_);exact An 4 [Aa 0,Aa 0,Aa 0,B1 0,B1 0,Aa 0,.sl 1 Ae []] q_ vL dN
 have h1:at_<l.length:=qB h;clear h;have i:at_.toNat<l.length:=by omega
 have ag:l≠[]:=λe=>by rw[e]at i;simp at i
 have J:((at_.toNat:Nat):Int)=at_:=by omega
 rw[zD j_,zT i,Option.getD_some]at g;obtain ⟨q,o⟩:=kE (l[at_.toNat]'i);rw[o]at g;have oy:=j q (by rw[<-o];exact zI i);refine G_dat 0 90 q_ ag ?_;intro B off cap ep;refine run Γ hm 3 ?_
 conv=>whnf
 refine C6 (Af9 90 (.inl q_) q_ q_) y_ q_ (oD ?_);refine⟨q_,h0,i,?_⟩;rw[o]
 conv=>whnf
 refine cD (Arp q oy) F201 (oD ?_);refine C6 (Amb (hi:=at_.toNat) Γ.toTy q_ q_ q_ q_ (zH (λz=>SV.val (.int .i64 z)) J.symm) (zH (λz=>SV.val (.int .i64 z)) J.symm) j_) y_ q_ ?_;refine C6 (Af9 90 (.inl q_) q_ q_) y_ q_ (oD ?_);refine iW ?_;refine C6 (Hx (lo:=at_.toNat+1) (hi:=l.length) Γ.toTy q_ q_ q_ q_ (.inr ⟨_,_,q_,zH (λz=>SV.val (.int .i64 z)) j_⟩) (.inl ⟨q_,q_⟩) j_ (yG _)) y_ q_ ?_;have P:((l.take l.length).drop (at_.toNat+1)).length=l.length-(at_.toNat+1):=by rw[yP,zY];omega
 refine C6 (Amf Γ.toTy 90 q_ q_ q_ q_ q_ q_ (Nat.le_of_lt i) q_ (by rw[P];omega) (by rw[P];omega)) y_ q_ ?_;have p:l.take at_.toNat++(l.take l.length).drop (at_.toNat+1)=l.eraseIdx at_.toNat:=by rw[yM,List.eraseIdx_eq_take_drop_succ]
 have r:(l.take at_.toNat++(l.take l.length).drop (at_.toNat+1)).length<1000000:=by rw[p,List.length_eraseIdx];split<;>omega
 have t:eX (l.take at_.toNat++(l.take l.length).drop (at_.toNat+1)):=by rw[p];exact λx hx=>j x (uQ hx)
 refine oD ?_;refine C6 (Ad [(0,55)] q_ F200 (Bgb _ r t) q_ z_ q_ ⟨.inr q_,z_⟩) y_ q_ (gO ?_);refine Ao 55 q_ ?_;refine Av q_ (.cons (.cell q_ q_ q_ q_) (.cons .tmp As)) ?_ q_;subst g;show SV.tup [_,.sl 7 Db (l.eraseIdx at_.toNat),_]=SV.tup [_,.sl 7 Db (l.take at_.toNat++(l.take l.length).drop (at_.toNat+1)),_];rw[p];rfl
def M7{k:Type}(q:k->Bool)(l:List k):Nat->Nat
 |0=>0
 |j+1=>match l[j]? with
  |some x=>if q x=true then M7 q l j+1 else M7 q l j
  |none=>M7 q l j
def nR{k:Type}(q:k->Bool)(l:List k):Nat->List k
 |0=>l
 |j+1=>match l[j]? with
  |some x=>if q x=true then (nR q l j).set (M7 q l j) x else nR q l j
  |none=>nR q l j
def Ahp{k:Type}(q:k->Bool)(l:List k)(j:Nat):M7 q l j<=j:=by
 induction j with
 |zero=>exact yG _
 |succ j g=>
  simp only[M7];split
  .split<;>omega
  .omega
def Aas{k:Type}(q:k->Bool)(l:List k)(j:Nat):(nR q l j).length=l.length:=by
 induction j with
 |zero=>rfl
 |succ j g=>
  simp only[nR];split
  .split
   .rw[yO];exact g
   .exact g
  .exact g
def A3u{a:Type}(q:a->Bool)(l:List a)(j k:Nat)(h:j<=k):(nR q l j)[k]? = l[k]?:=by
 induction j with
 |zero=>rfl
 |succ j g=>
  simp only[nR];split
  .split
   .rw[List.getElem?_set_ne (by have:=Ahp q l j;omega)];exact g j_
   .exact g j_
  .exact g j_
def Awe{k:Type}(q:k->Bool)(l:List k)(j:Nat)(h:j<=l.length):(nR q l j).take (M7 q l j)=(l.take j).filter q:=by
 induction j with
 |zero=>rfl
 |succ j i=>
  have o:j<l.length:=by omega
  have i:=i j_;have r:=Ahp q l j;simp only[nR,M7,zT o];rw[vU,zT o,List.filter_append];by_cases g:q l[j]=true
  .rw[zE g,zE g];have p:M7 q l j<((nR q l j).set (M7 q l j) l[j]).length:=by rw[yO,Aas];omega
   rw[vU,zT p,uX];rw[List.take_set_of_le (yG _),i];simp[g]
  .rw[zD g,zD g,i];simp[g]
def Aol{a:Type}(q:a->Bool)(l:List a)(i:Nat)(hi:i<=l.length)(h:∀k (j:k<l.length),k<i->q l[k]=true):nR q l i=l/\M7 q l i=i:=by
 induction i with
 |zero=>exact⟨rfl,rfl⟩
 |succ i o=>
  obtain ⟨p,r⟩:=o j_ (λk j t=>h k j j_);have g:i<l.length:=by omega
  simp only[nR,M7,zT g];rw[zE (h i g j_),zE (h i g j_),p,r];exact⟨uY g,q_⟩
def aC{a:Type}(p:a->Bool)(l:List a):(Bt p l=-1/\∀x∈l,p x=false)\/∃(i:Nat) (hi:i<l.length),Bt p l=i/\p l[i]=true/\∀k (g:k<l.length),k<i->p l[k]=false:=by
 unfold Bt;cases h:l.findIdx? p with
 |none=>exact .inl ⟨rfl,kS h⟩
 |some i=>
  rw[wJ]at h;obtain ⟨hi,j,o⟩:=h;exact .inr ⟨i,hi,q_,j,λk g r=>kS (o k r)⟩
def eG:=iE Bv 3 F250 ntmps250
def Yx:=iD Bv 3 F329 ntmps329
def Ade(l:List Bc)(p:Bc->Bool)(f:FuncId)(first cap:List SV)(P:(SV.clo (.func f) first cap).inn []=true)(R:(SV.clo (.func f) first cap).inn [0]=true)(hf:∀x∈l,J3 prog f (first++[Bv x]++cap) (Ab (p x)))(hl:At l):Sq 252 [.osl 0,.clo (.func f) first cap] [(0,.row 3 Bv l)] (.osl 1) [(0,.non),(1,.row 3 Bv (l.filter λx=>!(p x)))]:=cT F252 ntmps252 λF hF=>by
 have qi:=Yx l p f first cap P hf hl
 unfold At at hl;have br:∀x:Bc,C7 [] (first++[Bv x]++cap)=true:=λx=>El P rfl
 conv=>whnf
 refine Agj [0] qi F329 q_ (.cons (.row q_ q_) (.cons (.refl _) .nil)) (by simp only[C7,P,uP];rfl) q_ q_ ?_;rcases aC p l with ⟨h1,J⟩|⟨i,hi,h1,J,h3⟩
 .rw[h1];have e1:(l.filter λx=>!(p x))=l:=List.filter_eq_self.2 (λx hx=>by simp[J x hx]);rw[e1];refine oT ?_;refine A2b 0 1000 [0,4] q_ q_ qq (by simp;exact⟨q_,q_⟩) ?_;exact done q_ As [(0,0),(1,1000)] _ (λ_ h=>h) q_ q_ kU
 obtain ⟨f1,f2⟩:=Aol (λx=>!(p x)) l i j_ (λk hk s6=>by simp[h3 k hk s6]);have g1:nR (λx=>!(p x)) l (i+1+0)=l:=by
  show nR (λx=>!(p x)) l (i+1)=l;simp only[nR,zT hi];rw[zD (by simp[J]),f1]
 have g2:M7 (λx=>!(p x)) l (i+1+0)=i:=by
  show M7 (λx=>!(p x)) l (i+1)=i;simp only[M7,zT hi];rw[zD (by simp[J]),f2]
 rw[h1];refine oF ?_;refine iW ?_;refine Bl (l.length-(i+1)) (λj=>[(0,.osl 0),(1,.clo (.func f) first cap),(5,Aa (M7 (λx=>!(p x)) l (i+1+j))),(6,Aa ((i+1+j:Nat)))]) (λj=>[(0,.row 3 Bv (nR (λx=>!(p x)) l (i+1+j)))]) []
  ⟨⟨rfl,rfl,Br _,R,zH Aa (zH Int.ofNat g2),rfl,zH (λz=>SV.val (.int .i64 z)) j_,rfl,trivial⟩,⟨.inl (zH (Ob.row 3 Bv) g1),rfl,trivial⟩,rfl,rfl⟩ ?_
 intro j hj;have gu:=Ahp (λx=>!(p x)) l (i+1+j);have gg:=Aas (λx=>!(p x)) l (i+1+j);have t:=A3u (λx=>!(p x)) l (i+1+j) (i+1+j) (yG _);have o:∀h:i+1+j<l.length,M7 (λx=>!(p x)) l (i+1+(j+1))=if (!(p l[i+1+j]))=true then M7 (λx=>!(p x)) l (i+1+j)+1 else M7 (λx=>!(p x)) l (i+1+j):=λr=>by
  show M7 (λx=>!(p x)) l (i+1+j+1)=_;simp only[M7,zT r]
 have g:∀h:i+1+j<l.length,nR (λx=>!(p x)) l (i+1+(j+1))=if (!(p l[i+1+j]))=true then (nR (λx=>!(p x)) l (i+1+j)).set (M7 (λx=>!(p x)) l (i+1+j)) l[i+1+j] else nR (λx=>!(p x)) l (i+1+j):=λr=>by
  show nR (λx=>!(p x)) l (i+1+j+1)=_;simp only[nR,zT r]
 have I:=λh=>Awe (λx=>!(p x)) l (i+1+j) h
 obtain ⟨D,hD⟩:∃D,nR (λx=>!(p x)) l (i+1+j)=D:=⟨_,rfl⟩
 obtain ⟨K,hK⟩:∃K,M7 (λx=>!(p x)) l (i+1+j)=K:=⟨_,rfl⟩
 rw[hD]at gg t g I|-;rw[hK]at gu o g I|-;refine gI ?_ ?_<;>intro h
 .have r:i+1+j<l.length:=qA h;have pv:=hf l[i+1+j] (zI r);have o:=o r;have g:=g r;rw[zT r,zT j_]at t;have t:=Option.some.inj t;obtain ⟨x,hx⟩:=kE (l[i+1+j]);rw[hx]at pv o g t;refine oO ?_;refine⟨by omega,by simp;omega,?_⟩
  conv=>whnf
  refine⟨q_,by omega,?_⟩;rw[show D[((i+1+j:Nat):Int).toNat]'j_=x from t]
  conv=>whnf
  refine Is pv q_ q_ q_ (by simp only[br];rfl) q_ q_ ?_;cases vo:p x
  .rw[vo]at o g;refine oT ?_;refine⟨by omega,by simp;omega,?_⟩
   conv=>whnf
   refine⟨q_,by omega,x,q_,q_,?_⟩
   conv=>whnf
   refine iW ?_;refine iW ?_;exact A9 [] j_ ⟨⟨q_,q_,Br _,R,zH Aa (zH Int.ofNat o),q_,zH (λz=>SV.val (.int .i64 z)) j_,q_,z_⟩,⟨.inl (zH (Ob.row 3 Bv) g),q_,z_⟩,q_,q_⟩
  .rw[vo]at o g;refine oF ?_;refine iW ?_;exact A9 [] j_ ⟨⟨q_,q_,Br _,R,zH Aa (zH Int.ofNat o),q_,zH (λz=>SV.val (.int .i64 z)) j_,q_,z_⟩,⟨.inl (zH (Ob.row 3 Bv) g),q_,z_⟩,q_,q_⟩
 .have gv:i+1+j=l.length:=qB h;have ag:D≠[]:=λh=>by rw[h]at gg;simp at gg;omega
  have I:=I j_;rw[show l.take (i+1+j)=l from xI j_]at I;refine Axg 0 [0] q_ ag (by simp;rfl) ?_;intro b dy ep;refine oO ?_;refine Al (Ha Γ.toTy q_ q_ q_ q_ (.inr ⟨_,_,q_,q_⟩) (.inl ⟨q_,q_⟩) j_ j_) q_ q_ (oO ?_);refine Al (Wk Γ.toTy 0 (k:=K) q_ q_ q_ q_ qq q_ q_ q_ j_ j_) q_ q_ (oO ?_);refine Al (Ha Γ.toTy q_ q_ q_ q_ (.inl ⟨q_,q_⟩) (.inr ⟨_,_,q_,q_⟩) j_ j_) q_ q_ (oO ?_);refine Ady 0 1000 [4] K q_ q_ (by rw[zY];omega) (λi hi=>?_) ?_
  .rw[zX]at hi;subst hi;show SV.val (.slice (some (if dy=0 then ⟨b,0,none⟩ else ⟨b,0*3,none⟩)) (K-0) (dy-0))=_;split<;>simp
  refine done q_ As [(0,0),(1,1000)] _ (λ_ h=>h) q_ q_ ⟨z_,⟨.inl q_,q_,.inl ?_,q_,z_⟩,q_,q_⟩;rw[<-I];exact zH (Ob.row 3 Bv) (by rw[List.take_take,Nat.min_self])
def Amj(l:List Bc)(i:Nat)(hi:i<l.length)(_hl:At l):Sq 373 [.osl 0,Aa i,Aa ((i+1:Nat):Int)] [(0,.row 3 Bv l)] (.osl 1) [(0,.non),(1,.row 3 Bv (l.take i++l.drop (i+1)))]:=cT F373 ntmps373 λF r=>by
 have o:l≠[]:=λh=>by rw[h]at hi;simp at hi
 refine fW ?_;refine Axg 0 [0,8] q_ o (by simp;exact⟨q_,q_⟩) ?_;intro b cap p;refine fU ?_;refine Al (Ama Γ.toTy q_ q_ q_ q_ q_ q_ q_ j_ j_ p) q_ q_ (fU ?_);refine⟨λh=>zW h kO,λ_=>?_⟩;refine fU ?_;refine C6 (Ha Γ.toTy q_ q_ q_ q_ (.inl ⟨q_,q_⟩) (.inr ⟨_,_,q_,q_⟩) j_ j_) y_ q_ (fU ?_);refine C6 (Ha (hi:=l.length) Γ.toTy q_ q_ q_ q_ (.inr ⟨_,_,q_,q_⟩) (.inl ⟨q_,q_⟩) j_ j_) y_ q_ (fU ?_);have g:(if cap=0 then (⟨b,0,none⟩:Addr) else ⟨b,0*3,none⟩)=⟨b,0,none⟩:=by split<;>simp
 refine C6 (Aha Γ.toTy 0 (n:=l.length) (i:=i) (j:=i+1) q_ q_ q_ (zH (λz=>SV.val (.slice (some z) i cap)) g) q_ q_ q_ q_ j_ j_) y_ q_ (fU ?_);refine⟨y_,?_⟩;refine fW ?_;refine Al (Ha (lo:=i+(l.length-(i+1))) (hi:=l.length) Γ.toTy q_ q_ q_ q_ (.inr ⟨_,_,q_,q_⟩) (.inr ⟨_,_,q_,q_⟩) j_ j_) q_ q_ (fU ?_);have t:(l.take i++l.drop (i+1)).length=i+(l.length-(i+1)):=by rw[zR,zY,yP];omega
 refine Al (Wk Γ.toTy 0 (k:=i+(l.length-(i+1))) q_ q_ q_ q_ qq q_ q_ q_ j_ j_) q_ q_ (fU ?_);refine Ady 0 1000 [6] (i+(l.length-(i+1))) q_ q_ (by rw[zY];omega) (by simp;rfl) ?_;refine done q_ As [(0,0),(1,1000)] _ (λ_ h=>h) q_ q_ ⟨z_,⟨.inl q_,q_,.inl ?_,q_,z_⟩,q_,q_⟩;exact zH (Ob.row 3 Bv) (by rw[List.take_take,Nat.min_self];exact(xI j_).symm)
def Afc(m:Nat)(h:m<18446744073709551616):Sp 313 [B1 m] (Ab (T0 m)):=cT F313 ntmps313 λF j=>by
 have q:=Wb m h;refine fW ?_;constructor<;>intro i
 .have g:m<=281474976710655:=by simp at i;omega
  refine gL q F234 ?_;refine fU ?_;exact Av q_ As (zH Ab (by rw[T0,zL g,yB])) q_
 .have g:¬m<=281474976710655:=by simp at i;omega
  refine fU ?_;exact Av q_ As (zH Ab (by rw[T0,zJ g,yE])) q_
def oN(i:Int):Sp 251 [Aa i] (Ab (Q1 i)):=cT F251 ntmps251 λF g=>by
 conv=>whnf
 (repeat' (first|(refine⟨λh=>?_,λh=>?_⟩<;>(repeat (first|simp only[zK]at h|simp only[yC]at h))<;>((refine oO ?_)))|(refine Av rfl As ?_ rfl)))
 all_goals (refine zH Ab ?_)
 all_goals grind [Q1]
def A4o(m:Nat)(e:Bc):Sp 371 [Bv e,.ref 1 (B1 m) 0] (Ab (decide (e.an=m))):=cT F371 ntmps371 λF g=>by
 conv=>whnf
 refine Av q_ As ?_ q_;refine zH Ab ?_;rw[xY];simp;omega
def Aea(t:List Bc)(m:Nat)(g:At t):Sp 314 [.sl 3 Bv t,B1 m] (Aa (Mp t m)):=cT F314 ntmps314 λF i=>by
 have q:=Yx t (λe=>decide (e.an=m)) 371 [] [.ref 1 (B1 m) 0] rfl (λx _=>⟨⟨_,_,F371⟩,A4o m x⟩) g
 conv=>whnf
 refine Bi 3 1 (B1 m) q_ q_ q_ (oO ?_);refine gF q F329 ?_;exact dN
def A9e(t:List Bc)(m:Nat)(j:At t):Sp 384 [.sl 3 Bv t,B1 m] (.tup [Aa (Ks t m).1,Ab (Ks t m).2]):=cT F384 ntmps384 λF p=>by
 have q:=Aea t m j;have r:Mp t m<t.length:=Kf _ _;have g:=Ks.eq_1 t m;generalize Ks t m=l at *;generalize Mp t m=i at *
 conv=>whnf
 refine gF q F314 ?_;constructor<;>intro h
 .rw[zE (kS h)]at g;subst g;exact gM
 .have o:¬i<0:=by simpa using h
  have hi:i.toNat<t.length:=by omega
  rw[zD o,zT hi]at g;subst g;refine oO ?_;refine⟨q_,by omega,by omega,?_⟩
  conv=>whnf
  exact dN
def Ad9(t:List Bc)(R:At t)(ri:∀e∈t,e.an<18446744073709551616):Sp 238 [.sl 3 Bv t] (Ab (Q3 t)):=cT F238 ntmps238 λF hF=>by
 unfold At at R;have g:=Q3.eq_1 t;generalize Q3 t=o at *
 conv=>whnf
 constructor<;>intro h
 .have p:¬t.length<=8:=by simp at h;omega
  rw[zJ p,yE]at g;subst g;exact gM
 have p:t.length<=8:=by simp at h;omega
 rw[zL p,yB]at g;refine oO ?_;refine Bb t.length (λj=>Ic (Ae2 t) t j) (λj=>[(0,.sl 3 Bv t),(8,.sl 3 Bv t),(9,Aa t.length),(10,Aa j)]) (λ_=>[]) [] (Bn _ _) kU ?_;intro j hj r;refine gI ?_ ?_<;>intro h
 .have I:j<t.length:=qA h;have q1:=Afc t[j].an (ri _ (zI I));have q2:=oN t[j].seen;have q3:=Aea t t[j].an R;have i:Ae2 t j t[j]=(T0 t[j].an&&Q1 t[j].seen&&decide (Mp t t[j].an=j)):=rfl;have J:Ae2 t j t[j]=false->o=false:=λhf=>by rw[g];exact Ew I hf
  have zd:Ae2 t j t[j]=true->Ic (Ae2 t) t (j+1):=λht=>Bk r I ht
  refine oO ?_;refine⟨q_,by omega,by omega,?_⟩;rw[show t[(j:Int).toNat]'j_=t[j] from rfl];generalize t[j]=x at *
  conv=>whnf
  refine c0 q1 F313 ?_;cases l:T0 x.an
  .rw[J (by rw[i,l];rfl)]
   (refine oT ?_;refine bT ?_;refine bT ?_)
   exact dN
  refine oF ?_;refine c0 q2 F251 ?_;cases P:Q1 x.seen
  .rw[J (by rw[i,l,P];rfl)]
   (refine oT ?_;refine bT ?_)
   exact dN
  refine oF ?_;refine gF q3 F314 ?_;constructor<;>intro h3
  .rw[J (by rw[i,l,P,zJ (kS h3)];rfl)];exact gM
  .have h4:=zd (by rw[i,l,P,zL (kS h3)];rfl);refine gG ?_;exact A6 [] r j_ h4 kU
 .have gv:j=t.length:=qB h;subst gv;rw[g.trans (Ki r (yG _))];exact gM
def Beh(now:Int)(g:Q1 now=true)(e:Bc):Sp 253 [Bv e,.ref 1 (Aa now) 0] (Ab (decide (e.seen<now-4))):=cT F253 ntmps253 λF j=>by
 have i:0<=now/\now<=1099511627776:=by simpa [Q1] using g
 conv=>whnf
 refine iW ?_;exact dN
def Beg(t:List Bc)(now:Int)(i:At t)(p:∀e∈t,e.an<18446744073709551616):Sp 171 [.sl 3 Bv t,Aa now] (.sl 3 Bv (Ak7 t now)):=cT F171 ntmps171 λF R=>by
 have l:=i;unfold At at l;have g:=Ak7.eq_1 t now;generalize Ak7 t now=r at *;have I:=Ad9 t i p;have J:=oN now
 conv=>whnf
 refine Al (Ad [(0,55)] q_ F250 (eG t l) q_ z_ q_ ⟨.inr q_,z_⟩) q_ q_ (oO ?_);refine c0 I F238 ?_;cases o:Q3 t
 .rw[zE (.inl o)]at g;subst g
  (refine oT ?_;refine bT ?_)
  exact Ao 55 q_ dN
 refine oF ?_;refine c0 J F251 ?_;cases j:Q1 now
 .rw[zE (.inr j)]at g;subst g;refine oT ?_;exact Ao 55 q_ dN
 rw[zD (by simp[o,j])]at g;refine oF ?_;refine Bi 3 1 (Aa now) q_ q_ q_ (oO ?_);have P:=Ade t (λe=>decide (e.seen<now-4)) 253 [] [.ref 1 (Aa now) 0] rfl rfl (λx _=>⟨⟨_,_,F253⟩,Beh now j x⟩) i;refine Al (Ad [(0,55),(1,56)] q_ F252 P q_ ⟨q_,z_⟩ q_ kB) q_ q_ (oO ?_);refine Ao 56 q_ ?_;refine Av q_ As ?_ q_;subst g;refine zH (SV.sl 3 Bv) (List.filter_congr λe _=>?_);rw[xY];simp
def Ai1(t:List Bc)(j:Nat)(h:0<t.length)(i:j<=t.length):O8 t j<t.length:=by
 induction j with
 |zero=>exact h
 |succ j g=>
  rw[O8];split
  .omega
  .exact g j_
def Axz(t:List Bc)(r:At t)(I:0<t.length):Sp 372 [.sl 3 Bv t] (Aa (O8 t t.length:Nat)):=cT F372 ntmps372 λF R=>by
 unfold At at r
 conv=>whnf
 refine Bl t.length (λj=>[(0,.sl 3 Bv t),(3,Aa (O8 t j:Nat)),(6,.sl 3 Bv t),(7,Aa t.length),(8,Aa j)]) (λ_=>[]) [] kU ?_;intro j hj;refine gI ?_ ?_<;>intro h
 .have J:j<t.length:=qA h;have l:=Ai1 t j I j_;have i:=O8.eq_2 t j;rw[zT J,zT l]at i;obtain ⟨o,P⟩:=kE (O8 t j);simp only[P]at i l|-;have g:O8 t (j+1)=if t[j].seen<t[o].seen then j else o:=i
  refine oO ?_;refine⟨q_,by omega,by omega,?_⟩;rw[show t[(j:Int).toNat]'j_=t[j] from rfl]
  conv=>whnf
  refine⟨q_,by omega,by omega,?_⟩;rw[show t[(o:Int).toNat]'j_=t[o] from rfl]
  conv=>whnf
  refine kW ?_;constructor<;>intro p
  .rw[zE (zO p)]at g;refine gG ?_;exact A9 [] j_ ⟨⟨q_,q_,zH (λz:Nat=>Aa z) g,q_,q_,q_,q_,q_,q_,q_,z_⟩,z_,q_,q_⟩
  .rw[zD (zQ p)]at g;refine gG ?_;exact A9 [] j_ ⟨⟨q_,q_,zH (λz:Nat=>Aa z) g,q_,q_,q_,q_,q_,q_,q_,z_⟩,z_,q_,q_⟩
 .have:j=t.length:=qB h;subst this;exact gM
def Amy(t:List Bc)(m:Nat)(p now:Int)(I:At t)(ri:∀e∈t,e.an<18446744073709551616)(wy:m<18446744073709551616):Sp 315 [.sl 3 Bv t,B1 m,Aa p,Aa now] (.sl 3 Bv (dC t m p now)):=cT F315 ntmps315 λF hF=>by
 have i7:=I;unfold At at i7;have g:=dC.eq_1 t m p now;generalize dC t m p now=a0 at *;have q1:=Ad9 t I ri;have q2:=Afc m wy;have q3:=oN now;have q4:=Aea t m I
 conv=>whnf
 refine Al (Ad [(0,55)] q_ F250 (eG t i7) q_ z_ q_ ⟨.inr q_,z_⟩) q_ q_ (oO ?_);refine c0 q1 F238 ?_;cases J:Q3 t
 .rw[zE (.inl J)]at g;subst g
  (refine oT ?_;refine bT ?_;refine bT ?_)
  exact Ao 55 q_ dN
 refine oF ?_;refine c0 q2 F313 ?_;cases P:T0 m
 .rw[zE (.inr (.inl P))]at g;subst g
  (refine oT ?_;refine bT ?_)
  exact Ao 55 q_ dN
 refine oF ?_;refine c0 q3 F251 ?_;cases h3:Q1 now
 .rw[zE (.inr (.inr h3))]at g;subst g;refine oT ?_;exact Ao 55 q_ dN
 rw[zD (by simp[J,P,h3])]at g;have a1:t.length<=8:=by simp only[Q3,zG,zK]at J;exact J.1
 have j9:∀hi:0<=Mp t m,∃h:(Mp t m).toNat<t.length,t[(Mp t m).toNat].an=m:=λhi=>by
  rcases aC (λe=>decide (Bc.an e=m)) t with ⟨h,_⟩|⟨k,hk,h,P,_⟩
  .rw[Mp,h]at hi;exact zW hi qq
  .have e1:Mp t m=k:=h;simp only[e1,yA];exact⟨hk,zO P⟩
 generalize Mp t m=i at *;refine oF ?_;refine gF q4 F314 ?_;constructor<;>intro h4
 .have r:0<=i:=by simpa using h4
  obtain ⟨hi,ug⟩:=j9 r;rw[zE r]at g;refine oO ?_;have ag:t≠[]:=λh=>by rw[h]at hi;simp at hi
  refine⟨r,by omega,?_⟩
  conv=>whnf
  refine⟨ag,?_⟩
  conv=>whnf
  refine⟨q_,hi,⟨t[i.toNat].an,p,t[i.toNat].seen⟩,q_,q_,?_⟩
  conv=>whnf
  refine⟨r,by simp;omega,?_⟩
  conv=>whnf
  refine⟨by simp;exact ag,?_⟩
  conv=>whnf
  refine⟨q_,by simp;omega,⟨t[i.toNat].an,p,now⟩,by rw[uX];rfl,by rw[uX];rfl,?_⟩
  conv=>whnf
  refine Ao 55 q_ (oO ?_);refine Av q_ As (zH (SV.sl 3 Bv) ?_) q_;rw[g,List.set_set,ug]
 .have r:¬0<=i:=by simp at h4|-;omega
  rw[zD r]at g;refine oO ?_;constructor<;>intro h6
  .have R:t.length=8:=by simp at h6;omega
   rw[zE R]at g;have q5:=Axz t I j_;have j6:=Ai1 t t.length j_ (yG _);refine oO ?_;refine Agj [55] q5 F372 q_ (.cons (.row q_ q_) .nil) q_ q_ q_ ?_;generalize O8 t t.length=o at *;have q6:=Amj t o j6 I;refine gG ?_;refine Al (Ad [(0,55),(1,56)] q_ F373 q6 q_ ⟨q_,z_⟩ q_ kB) q_ q_ (oO ?_);refine Al (Ah Γ.toTy 60 rfl rfl rfl rfl rfl (.row rfl) (.lit (e:=Bv) (l:=[⟨m,p,now⟩]) rfl rfl) (λj hj=>by cases hj;decide) kO kO) rfl rfl ?_;refine Ao 60 q_ (oO ?_);refine Av q_ As (zH (SV.sl 3 Bv) ?_) q_;rw[g,List.eraseIdx_eq_take_drop_succ]
  .have R:¬t.length=8:=by simp at h6;omega
   rw[zD R]at g;refine oO ?_;refine Al (Ah Γ.toTy 60 rfl rfl rfl rfl rfl (.row rfl) (.lit (e:=Bv) (l:=[⟨m,p,now⟩]) rfl rfl) (λj hj=>by cases hj;decide) kO kO) rfl rfl ?_;refine Ao 60 q_ (oO ?_);exact Av q_ As (zH (SV.sl 3 Bv) g) q_
def Arq:=iE Aa 1 F163 ntmps163
def Ahc(l:List Int)(p:Int->Bool)(f:FuncId)(first cap:List SV)(P:(SV.clo (.func f) first cap).inn []=true)(R:(SV.clo (.func f) first cap).inn [0]=true)(hf:∀x∈l,J3 prog f (first++[Aa x]++cap) (Ab (p x)))(hl:At l):Sq 370 [.osl 0,.clo (.func f) first cap] [(0,.row 1 Aa l)] (.osl 1) [(0,.non),(1,.row 1 Aa (l.filter λx=>!(p x)))]:=cT F370 ntmps370 λF hF=>by
 have qi:=Wi l p f first cap P hf hl
 unfold At at hl;have br:∀x:Int,C7 [] (first++[Aa x]++cap)=true:=λx=>El P rfl
 conv=>whnf
 refine Agj [0] qi F392 q_ (.cons (.row q_ q_) (.cons (.refl _) .nil)) (by simp only[C7,P,uP];rfl) q_ q_ ?_;rcases aC p l with ⟨h1,J⟩|⟨i,hi,h1,J,h3⟩
 .rw[h1];have e1:(l.filter λx=>!(p x))=l:=List.filter_eq_self.2 (λx hx=>by simp[J x hx]);rw[e1];refine oT ?_;refine A2b 0 1000 [0,4] q_ q_ qq (by simp;exact⟨q_,q_⟩) ?_;exact done q_ As [(0,0),(1,1000)] _ (λ_ h=>h) q_ q_ kU
 obtain ⟨f1,f2⟩:=Aol (λx=>!(p x)) l i j_ (λk hk s6=>by simp[h3 k hk s6]);have g1:nR (λx=>!(p x)) l (i+1+0)=l:=by
  show nR (λx=>!(p x)) l (i+1)=l;simp only[nR,zT hi];rw[zD (by simp[J]),f1]
 have g2:M7 (λx=>!(p x)) l (i+1+0)=i:=by
  show M7 (λx=>!(p x)) l (i+1)=i;simp only[M7,zT hi];rw[zD (by simp[J]),f2]
 rw[h1];refine oF ?_;refine iW ?_;refine Bl (l.length-(i+1)) (λj=>[(0,.osl 0),(1,.clo (.func f) first cap),(5,Aa (M7 (λx=>!(p x)) l (i+1+j))),(6,Aa ((i+1+j:Nat)))]) (λj=>[(0,.row 1 Aa (nR (λx=>!(p x)) l (i+1+j)))]) []
  ⟨⟨rfl,rfl,Br _,R,zH Aa (zH Int.ofNat g2),rfl,zH (λz=>SV.val (.int .i64 z)) j_,rfl,trivial⟩,⟨.inl (zH (Ob.row 1 Aa) g1),rfl,trivial⟩,rfl,rfl⟩ ?_
 intro j hj;have gu:=Ahp (λx=>!(p x)) l (i+1+j);have gg:=Aas (λx=>!(p x)) l (i+1+j);have t:=A3u (λx=>!(p x)) l (i+1+j) (i+1+j) (yG _);have o:∀h:i+1+j<l.length,M7 (λx=>!(p x)) l (i+1+(j+1))=if (!(p l[i+1+j]))=true then M7 (λx=>!(p x)) l (i+1+j)+1 else M7 (λx=>!(p x)) l (i+1+j):=λr=>by
  show M7 (λx=>!(p x)) l (i+1+j+1)=_;simp only[M7,zT r]
 have g:∀h:i+1+j<l.length,nR (λx=>!(p x)) l (i+1+(j+1))=if (!(p l[i+1+j]))=true then (nR (λx=>!(p x)) l (i+1+j)).set (M7 (λx=>!(p x)) l (i+1+j)) l[i+1+j] else nR (λx=>!(p x)) l (i+1+j):=λr=>by
  show nR (λx=>!(p x)) l (i+1+j+1)=_;simp only[nR,zT r]
 have I:=λh=>Awe (λx=>!(p x)) l (i+1+j) h
 obtain ⟨D,hD⟩:∃D,nR (λx=>!(p x)) l (i+1+j)=D:=⟨_,rfl⟩
 obtain ⟨K,hK⟩:∃K,M7 (λx=>!(p x)) l (i+1+j)=K:=⟨_,rfl⟩
 rw[hD]at gg t g I|-;rw[hK]at gu o g I|-;refine gI ?_ ?_<;>intro h
 .have r:i+1+j<l.length:=qA h;have pv:=hf l[i+1+j] (zI r);have o:=o r;have g:=g r;rw[zT r,zT j_]at t;have t:=Option.some.inj t;obtain ⟨x,hx⟩:=kE (l[i+1+j]);rw[hx]at pv o g t;refine oO ?_;refine⟨by omega,by simp;omega,?_⟩
  conv=>whnf
  refine⟨q_,by omega,?_⟩;rw[show D[((i+1+j:Nat):Int).toNat]'j_=x from t]
  conv=>whnf
  refine Is pv q_ q_ q_ (by simp only[br];rfl) q_ q_ ?_;cases vo:p x
  .rw[vo]at o g;refine oT ?_;refine⟨by omega,by simp;omega,?_⟩
   conv=>whnf
   refine⟨q_,by omega,x,q_,q_,?_⟩
   conv=>whnf
   refine iW ?_;refine iW ?_;exact A9 [] j_ ⟨⟨q_,q_,Br _,R,zH Aa (zH Int.ofNat o),q_,zH (λz=>SV.val (.int .i64 z)) j_,q_,z_⟩,⟨.inl (zH (Ob.row 1 Aa) g),q_,z_⟩,q_,q_⟩
  .rw[vo]at o g;refine oF ?_;refine iW ?_;exact A9 [] j_ ⟨⟨q_,q_,Br _,R,zH Aa (zH Int.ofNat o),q_,zH (λz=>SV.val (.int .i64 z)) j_,q_,z_⟩,⟨.inl (zH (Ob.row 1 Aa) g),q_,z_⟩,q_,q_⟩
 .have gv:i+1+j=l.length:=qB h;have ag:D≠[]:=λh=>by rw[h]at gg;simp at gg;omega
  have I:=I j_;rw[show l.take (i+1+j)=l from xI j_]at I;refine Axg 0 [0] q_ ag (by simp;rfl) ?_;intro b dy ep;refine oO ?_;refine Al (Ha Γ.toTy q_ q_ q_ q_ (.inr ⟨_,_,q_,q_⟩) (.inl ⟨q_,q_⟩) j_ j_) q_ q_ (oO ?_);refine Al (Wk Γ.toTy 0 (k:=K) q_ q_ q_ q_ qq q_ q_ q_ j_ j_) q_ q_ (oO ?_);refine Al (Ha Γ.toTy q_ q_ q_ q_ (.inl ⟨q_,q_⟩) (.inr ⟨_,_,q_,q_⟩) j_ j_) q_ q_ (oO ?_);refine Ady 0 1000 [4] K q_ q_ (by rw[zY];omega) (λi hi=>?_) ?_
  .rw[zX]at hi;subst hi;show SV.val (.slice (some (if dy=0 then ⟨b,0,none⟩ else ⟨b,0*1,none⟩)) (K-0) (dy-0))=_;split<;>simp
  refine done q_ As [(0,0),(1,1000)] _ (λ_ h=>h) q_ q_ ⟨z_,⟨.inl q_,q_,.inl ?_,q_,z_⟩,q_,q_⟩;rw[<-I];exact zH (Ob.row 1 Aa) (by rw[List.take_take,Nat.min_self])
def Zo(n:Ai)(fw:List Bool)(at_ from_:Int)(g:List Int):SV :=
 .agg [.sl 5 Bh n.j,.sl 7 Bm n.g,.sl 3 Dq n.x,.sl 6 Ax n.c,.sl 4 Bp n.ab,.sl 4 B6 n.y,.sl 5 D5 n.ag,.sl 5 Dx n.r,.sl 1 Ab fw,Aa at_,Aa from_,.sl 1 Aa g]
def Bd6(n:Ai)(fw:List Bool)(p:Int)(r:0<=p)(hp:p<n.g.length)(j:(Af n.g p).ah<fw.length):Sp 369 [Aq n,.sl 1 Ab fw,Aa p] (Ab (eZ n fw p)):=cT F369 ntmps369 λF J=>by
 have i:p.toNat<n.g.length:=by omega
 have t:Af n.g p=n.g[p.toNat]:=Aj i;have g:=eZ.eq_1 n fw p;generalize eZ n fw p=I at *;rw[t]at g j;obtain ⟨q,l⟩:=kE (n.g[p.toNat]'i);rw[l]at g j
 conv=>whnf
 refine⟨q_,r,i,?_⟩;rw[l]
 conv=>whnf
 constructor<;>intro h
 .rw[h,wT]at g;subst g;exact gM
 .rw[h,vI]at g;have P:¬q.ah<0:=zQ h;have o:q.ah.toNat<fw.length:=by omega
  rw[zT o]at g;refine oO ?_;refine⟨q_,by omega,o,?_⟩
  conv=>whnf
  exact Av q_ As (zH Ab g) q_
def portsC(n:Ai)(fw:List Bool)(at_ from_:Int)(i:List Int)(p:Int)(j:0<=p)(hp:p<n.g.length)(l:(Af n.g p).ah<fw.length):Sp 368 [Aa p,.ref 1 (.ref 12 (Zo n fw at_ from_ i) 0) 0] (Ab (decide (p=from_)||!(eZ n fw p))):=cT F368 ntmps368 λF o=>by
 have q:=Bd6 n fw p j hp l
 conv=>whnf
 constructor<;>intro h
 .have g:p=from_:=by simpa using h
  refine gO ?_;exact Av q_ As (zH Ab (by rw[zL g,wT])) q_
 .have g:¬p=from_:=by simpa using h
  refine oD ?_;refine cD q F369 (gO ?_);exact Av q_ As (zH Ab (by rw[zJ g,vI])) q_
def A31(n:Ai)(fw:List Bool)(l:List Int):Prop:=∀p∈l,0<=p/\p<n.g.length/\(Af n.g p).ah<fw.length
def Azk(n:Ai)(fw:List Bool)(at_ from_:Int)(g l:List Int)(i:At l)(hp:A31 n fw l):Sp 311 [.ref 12 (Zo n fw at_ from_ g) 0,.sl 1 Aa l] (.sl 1 Aa (Ln n fw from_ l)):=cT F311 ntmps311 λF j=>by
 have q:=Ahc l (λp=>decide (p=from_)||!(eZ n fw p)) 368 [] [.ref 1 (.ref 12 (Zo n fw at_ from_ g) 0) 0] rfl rfl (λp h=>⟨⟨_,_,F368⟩,portsC n fw at_ from_ g p (hp p h).1 (hp p h).2.1 (hp p h).2.2⟩) i;unfold At at i
 conv=>whnf
 refine Bi 2 1 (.ref 12 (Zo n fw at_ from_ g) 0) q_ q_ q_ (oO ?_);refine Al (Ad [(0,55)] q_ F163 (Arq l i) q_ z_ q_ ⟨.inr q_,z_⟩) q_ q_ (oO ?_);refine Al (Ad [(0,55),(1,56)] q_ F370 q q_ ⟨q_,z_⟩ q_ kB) q_ q_ (oO ?_);exact Ao 56 q_ dN
def A23(n:Ai)(o:n.Fin)(fw:List Bool)(dom from_:Int)(p:List Int)(r:Am dom n.c.length=true):Sp 312 [.ref 12 (Zo n fw dom from_ p) 0] (.sl 1 Aa (Ot n dom from_)):=cT F312 ntmps312 λF hF=>by
 have t:=Dy r;have I:0<=dom:=t.1;have i:dom.toNat<n.c.length:=by omega
 have J:Af n.c dom=n.c[dom.toNat]:=Aj i;have j:=o.ae _ (zI i);have g:=Ot.eq_1 n dom from_;generalize Ot n dom from_=P at *;rw[J]at g;obtain ⟨d,l⟩:=kE (n.c[dom.toNat]'i);rw[l]at g j;have R:=Qv d.ae j
 conv=>whnf
 constructor<;>intro h
 .rw[zE (kS h)]at g;subst g;refine oO ?_;exact Ar 2 1 Aa q_ dN
 .rw[zD (kS h)]at g;subst g;refine oO ?_;refine⟨q_,I,i,?_⟩;rw[l]
  conv=>whnf
  refine cD R F163 (gO ?_);exact dN
def eO(n:Ai)(fw:List Bool)(dom:Int):Bool:=Am dom n.c.length&&decide (fw.length=n.x.length)&&Ac n
def A2v(n:Ai)(i:n.Fin)(fw:List Bool)(dom from_:Int)(h:eO n fw dom=false):Sp 310 [Aq n,.sl 1 Ab fw,Aa dom,Aa from_] (.tup [.val (.pointer none),Ab false]):=cT F310 ntmps310 λF I=>by
 have j:=A7 n i
 conv=>whnf
 constructor<;>intro l
 ·(refine oT ?_;refine bT ?_;refine bT ?_)
  exact dN
 refine oO ?_;constructor<;>intro o
 ·(refine oT ?_;refine bT ?_)
  exact dN
 refine oO ?_;constructor<;>intro p
 .refine oT ?_;exact dN
 refine oO ?_;refine c0 j F49 ?_;cases g:Ac n
 .refine oT ?_;exact dN
 .exfalso;have r:Am dom n.c.length=true:=Xc ⟨by simp at l;omega,by simp at o;omega⟩;have t:fw.length=n.x.length:=by simp at p;omega
  simp[eO,r,t,g]at h
def A9z(n:Ai)(j:n.Fin)(fw:List Bool)(dom from_:Int)(h:eO n fw dom=true):Sp 310 [Aq n,.sl 1 Ab fw,Aa dom,Aa from_] (.tup [.ref 12 (Zo n fw dom from_ (Bz n dom)) 0,Ab (decide (from_=-1)||decide (from_=-2)||Li (Bz n dom) from_)]):=cT F310 ntmps310 λF hF=>by
 have p:=A7 n j;simp only[eO,zG,zK]at h;obtain ⟨⟨R,js⟩,i⟩:=h;rw[i]at p;have r:=Dy R;have t:=X4 n j dom;have I:=Ij (Ci n dom) from_ (Q9 n j dom);have ye:Ci n dom=Bz n dom:=by rw[Ci,zE ⟨⟨r.1,r.2⟩,i⟩]
 rw[ye]at t I;generalize Bz n dom=J at *
 conv=>whnf
 refine⟨λg=>zW g kO,λ_=>?_⟩;refine oO ?_;refine⟨λg=>zW g kO,λ_=>?_⟩;refine oO ?_;refine⟨λg=>zW g kO,λ_=>?_⟩;refine oO ?_;refine c0 p F49 (oF ?_);refine cD t F115 (gO ?_);constructor<;>intro g
 .have l:from_=-1:=by simpa using g
  refine Bi 41 12 (Zo n fw dom from_ J) q_ q_ q_ (oT ?_);exact Av q_ (.cons .tmp As) (zH (λz=>SV.tup [_,Ab z]) (by simp[l])) q_
 have l:¬from_=-1:=kS g;refine Bi 41 12 (Zo n fw dom from_ J) q_ q_ q_ (oO ?_);constructor<;>intro P
 .have o:from_=-2:=by simpa using P
  refine oO ?_;exact Av q_ (.cons .tmp As) (zH (λz=>SV.tup [_,Ab z]) (by simp[o])) q_
 have o:¬from_=-2:=kS P;refine oO ?_;refine gF I F114 ?_;exact Av q_ (.cons .tmp As) (zH (λz=>SV.tup [_,Ab z]) (by simp[l,o])) q_
def Aqa{n:Ai}(i:Ac n=true){p:Int}(o:0<=p)(hp:p<n.g.length):(Af n.g p).ah<n.x.length:=by
 have g:p.toNat<n.g.length:=by omega
 have j:Af n.g p=n.g[p.toNat]:=Aj g;rw[j];by_cases l:0<=n.g[p.toNat].ah
 .have:=Ue i g l;omega
 .omega
def Ais{n:Ai}{fw:List Bool}(g:Ac n=true)(i:fw.length=n.x.length){l:List Int}(h:∀p∈l,0<=p/\p<n.g.length):A31 n fw l:=λp hp=>
 ⟨(h p hp).1,(h p hp).2,by rw[i];exact Aqa g (h p hp).1 (h p hp).2⟩
def L2{n:Ai}{dom:Int}:∀p∈Bz n dom,0<=p/\p<n.g.length:=λp hp=>by
 rw[Bz,Ti]at hp;exact⟨hp.1,hp.2.1⟩
def X5{n:Ai}(g:n.Fin)(dom:Int):At (Bz n dom):=by
 have i:=M5 (aV n (Af n.c dom)) n.g.length;have j:=g.g;unfold At at *;rw[Bz];omega
def bZ(n:Ai)(fw:List Bool)(dom from_:Int):aQ n fw dom from_=(eO n fw dom&&(decide (from_=-1)||decide (from_=-2)||Li (Bz n dom) from_)):=rfl
def floodS(n:Ai)(j:n.Fin)(fw:List Bool)(dom from_:Int):Sp 237 [Aq n,.sl 1 Ab fw,Aa dom,Aa from_] (.tup [.sl 1 Aa (Aam n fw dom from_).1,.sl 1 Aa (Aam n fw dom from_).2.1,Aa (Aam n fw dom from_).2.2]):=cT F237 ntmps237 λF P=>by
 have g:=Aam.eq_1 n fw dom from_;generalize Aam n fw dom from_=p at *;rw[bZ]at g;cases i:eO n fw dom
 .rw[i,yE,zE rfl]at g;subst g;have q:=A2v n j fw dom from_ i
  conv=>whnf
  refine c0 q F310 (oT ?_);exact Ar 8 1 Aa q_ (Ar 9 1 Aa q_ dN)
 rw[i,yB]at g;have q:=A9z n j fw dom from_ i;have o:=i;simp only[eO,zG,zK]at o;obtain ⟨⟨r,t⟩,l⟩:=o;have I:=Azk n fw dom from_ (Bz n dom) (Bz n dom) (X5 j dom) (Ais l t L2);have J:=A23 n j fw dom from_ (Bz n dom) r;generalize (decide (from_=-1)||decide (from_=-2)||Li (Bz n dom) from_)=ok at *;generalize Bz n dom=R at *
 conv=>whnf
 refine c0 q F310 ?_;cases ok
 .rw[zE rfl]at g;subst g;refine oT ?_;exact Ar 8 1 Aa q_ (Ar 9 1 Aa q_ dN)
 rw[zD qq]at g;subst g;refine oF ?_;refine gF I F311 ?_;refine gF J F312 ?_;exact dN
def Acr:=iD Bp 4 F409 ntmps409
def entryC(dom:Int)(m:Nat)(s:I2):Sp 410 [Bp s,.ref 1 (Aa dom) 0,.ref 1 (B1 m) 0] (Ab (decide (s.l=dom)&&decide (s.an=(m:Int)))):=cT F410 ntmps410 λF i=>by
 conv=>whnf
 constructor<;>intro h
 .refine oO ?_;refine Av q_ As (zH Ab ?_) q_;have g:s.l=dom:=kS h;rw[zL g,yB,xY];simp
 .refine oO ?_;refine Av q_ As (zH Ab ?_) q_;have g:¬s.l=dom:=kS h;rw[zJ g,yE]
def entryI(n:Ai)(g:n.Fin)(dom:Int)(m:Nat):Sp 350 [Aq n,Aa dom,B1 m] (Aa (Jr n dom m)):=cT F350 ntmps350 λF i=>by
 have q:=Acr n.ab (λs:I2=>decide (s.l=dom)&&decide (s.an=(m:Int))) 410 [] [.ref 1 (Aa dom) 0,.ref 1 (B1 m) 0] rfl (λx _=>⟨⟨_,_,F410⟩,entryC dom m x⟩) g.ab
 conv=>whnf
 refine Bi 4 1 (Aa dom) q_ q_ q_ ?_;refine Bi 5 1 (B1 m) q_ q_ q_ (oO ?_);refine gF q F409 ?_;exact dN
def L8(n:Ai)(dom:Int)(m:Nat):Int:=if 0<=Jr n dom m then (Af n.ab (Jr n dom m)).ac else -1
def A1n(n:Ai)(j:n.Fin)(r:Ac n=true)(dom:Int)(m:Nat):Sp 383 [Aq n,Aa dom,B1 m] (Aa (L8 n dom m)):=cT F383 ntmps383 λF J=>by
 have q:=entryI n j dom m;have l:=A7 n j;rw[r]at l;have P:Jr n dom m<n.ab.length:=Kf _ _;have g:=L8.eq_1 n dom m;generalize L8 n dom m=t at *;generalize Jr n dom m=i at *
 conv=>whnf
 refine gF q F350 ?_;constructor<;>intro h
 .rw[zD (by simp at h;omega)]at g;subst g;refine oT ?_;exact dN
 .have o:0<=i:=by simp at h;omega
  have p:i.toNat<n.ab.length:=by omega
  have I:Af n.ab i=n.ab[i.toNat]:=Aj p;rw[zE o,I]at g;refine oO ?_;refine c0 l F49 (oF ?_);refine⟨q_,o,p,?_⟩
  conv=>whnf
  exact Av q_ As (zH Aa g) q_
def X7(n:Ai)(fw:List Bool)(t:List Bc)(dom from_:Int)(m:Nat):List Int×List Int×Bool :=
 if 0<=L8 n dom m then (Ln n fw from_ [L8 n dom m],[],true)
 else if (Ks t m).2=false then ([],[],false)
 else if 0<=(Ks t m).1/\Li (Bz n dom) (Ks t m).1=true then (Ln n fw from_ [(Ks t m).1],[],true)
 else if (Ks t m).1<0/\Li (Af n.c dom).ae (-1-(Ks t m).1)=true then (if from_=-1 then ([],[],true) else ([],[-1-(Ks t m).1],true))
 else ([],[],false)
def Aff{n:Ai}(g:Ac n=true)(dom:Int)(m:Nat)(h:0<=L8 n dom m):L8 n dom m<n.g.length:=by
 unfold L8 at h|-;split at h
 .rename_i j;rw[zE j];have l:Jr n dom m<n.ab.length:=Kf _ _;have i:(Jr n dom m).toNat<n.ab.length:=by omega
  simp only[Ac,zG]at g;have:=Cm.1 g.1.1.1.2 _ i;simp only[Tm,zG,Am,zK]at this;rw[Aj i];exact this.1.1.2.2
 .omega
def knownS(n:Ai)(R:n.Fin)(fw:List Bool)(t:List Bc)(dom from_:Int)(m:Nat)(hl:At t)(hw:S2 (-1-(Ks t m).1))(cw:eO n fw dom=true):Sp 319 [.ref 12 (Zo n fw dom from_ (Bz n dom)) 0,.sl 3 Bv t,B1 m] (.tup [.sl 1 Aa (X7 n fw t dom from_ m).1,.sl 1 Aa (X7 n fw t dom from_ m).2.1,Ab (X7 n fw t dom from_ m).2.2]):=cT F319 ntmps319 λF hF=>by
 simp only[eO,zG,zK]at cw;obtain ⟨⟨hd,js⟩,i⟩:=cw;have nu:=Dy hd;have mw:0<=dom:=nu.1;have r:dom.toNat<n.c.length:=by omega
 have e2:Af n.c dom=n.c[dom.toNat]:=Aj r;have gk:=R.ae _ (zI r);have g:=X7.eq_1 n fw t dom from_ m;have qs:=A1n n R i dom m;have ze:=Aff i dom m;have qf:=A9e t m hl;have qp:∀p:Int,0<=p->p<n.g.length->_:=λp h0 I=>Azk n fw dom from_ (Bz n dom) [p] (by unfold At;simp) (Ais i js (l:=[p]) (λx hx=>by rw[zX]at hx;subst hx;exact⟨h0,I⟩))
 have gw:∀p,Li (Bz n dom) p=true->0<=p/\p<n.g.length:=λp hp=>L2 p (Aqv.1 hp)
 have qc:=λx=>Ij (Bz n dom) x (X5 R dom)
 rw[e2]at g;obtain ⟨d,ec⟩:=kE (n.c[dom.toNat]'r);rw[ec]at g gk;have a0:=λx=>Ij d.ae x gk
 generalize X7 n fw t dom from_ m=a1 at *;generalize L8 n dom m=J at *;generalize Ks t m=fe at *;obtain ⟨w,ok⟩:=fe;dsimp only at g hw qf;generalize Bz n dom=ml at *
 conv=>whnf
 refine cD qs F383 (gO ?_);constructor<;>intro I
 .have o:0<=J:=by simpa using I
  rw[zE o]at g;subst g;refine oO ?_;refine Wu 25 Aa [J] q_ q_ ?_;refine Ao 25 q_ (gF (qp J o (ze o)) F311 ?_);exact Ar 7 1 Aa q_ dN
 have o:¬0<=J:=by simp at I;omega
 rw[zD o]at g;refine oO ?_;refine c0 qf F384 ?_;cases ok
 .rw[zE rfl]at g;subst g;refine oT ?_;exact Ar 6 1 Aa q_ (Ar 7 1 Aa q_ dN)
 rw[zD qq]at g;refine oF ?_;constructor<;>intro h3
 .have h4:0<=w:=by simpa using h3
  refine oO ?_;refine c0 (qc w) F114 ?_;cases j:Li ml w
  .rw[zD (by simp[j]),zD j_]at g;subst g;refine oF ?_;refine⟨λP=>zW P kO,λ_=>?_⟩;refine oD ?_;refine⟨y_,?_⟩
   ((conv=>whnf);refine aF ?_;refine rg ?_;conv=>whnf)
   exact Ar 6 1 Aa q_ (Ar 7 1 Aa q_ dN)
  .rw[zE ⟨h4,j⟩]at g;subst g;refine oT ?_;refine Wu 49 Aa [w] q_ q_ ?_;refine Ao 49 q_ (gF (qp w h4 (gw w j).2) F311 ?_);exact Ar 7 1 Aa q_ dN
 have h4:¬0<=w:=by simp at h3;omega
 rw[zD j_]at g;refine oF ?_;refine⟨λP=>?_,λP=>zW P kO⟩;refine oD ?_;refine⟨q_,mw,r,?_⟩;rw[ec]
 conv=>whnf
 refine⟨hw,?_⟩
 conv=>whnf
 refine cD (a0 (-1-w)) F114 ?_;cases j:Li d.ae (-1-w)
 .rw[zD (by simp[j])]at g;subst g;refine oD ?_;refine⟨y_,?_⟩
  ((conv=>whnf);refine aF ?_;refine rg ?_;conv=>whnf)
  exact Ar 6 1 Aa q_ (Ar 7 1 Aa q_ dN)
 rw[zE ⟨by omega,j⟩]at g;refine oD ?_;refine⟨y_,?_⟩
 ((conv=>whnf);refine aT ?_;refine rg ?_;conv=>whnf)
 constructor<;>intro h6
 .rw[zE (kS h6)]at g;subst g;refine oO ?_;exact Ar 6 1 Aa q_ (Ar 7 1 Aa q_ dN)
 .rw[zD (kS h6)]at g;subst g;refine oO ?_;refine⟨hw,?_⟩
  conv=>whnf
  exact Ar 6 1 Aa q_ (Wu 78 Aa [-1-w] q_ q_ (Ao 78 q_ dN))
def Abj{n:Ai}(g:Ac n=true)(dom:Int)(m:Nat):(0<=L8 n dom m↔0<=Jr n dom m)/\(0<=Jr n dom m->L8 n dom m=(Af n.ab (Jr n dom m)).ac):=by
 refine⟨⟨λh=>?_,λh=>?_⟩,λh=>by rw[L8,zE h]⟩
 .unfold L8 at h;split at h
  .assumption
  .omega
 .rw[L8,zE h];have j:Jr n dom m<n.ab.length:=Kf _ _;have i:(Jr n dom m).toNat<n.ab.length:=by omega
  simp only[Ac,zG]at g;have:=Cm.1 g.1.1.1.2 _ i;simp only[Tm,zG,Am,zK]at this;rw[Aj i];exact this.1.1.2.1
def Bfz{n:Ai}{fw:List Bool}{t:List Bc}{dom from_:Int}{m:Nat}(o:Ac n=true)(p:aQ n fw dom from_=true)(r:J5 m=false):Hb n fw t dom from_ m=if (X7 n fw t dom from_ m).2.2=true then ((X7 n fw t dom from_ m).1,(X7 n fw t dom from_ m).2.1,0) else (Ln n fw from_ (Bz n dom),Ot n dom from_,0):=by
 obtain ⟨l,I⟩:=Abj o dom m;rw[Hb,zD (by rw[p];decide),zD (by rw[r];decide)];unfold X7;by_cases g:0<=Jr n dom m
 .rw[zE g,zE (l.2 g),I g];rfl
 rw[zD g,zD (λh=>g (l.1 h))];generalize Ks t m=J;obtain ⟨w,ok⟩:=J;cases ok
 .simp
 simp only[Bool.true_eq_false,if_false,true_and];by_cases i:0<=w/\Li (Bz n dom) w=true
 .rw[zE i,zE i];rfl
 rw[zD i,zD i];by_cases j:w<0/\Li (Af n.c dom).ae (-1-w)=true
 .rw[zE j,zE j];split<;>rfl
 .rw[zD j,zD j];rfl
def Bf0(n:Ai)(j:n.Fin)(fw:List Bool)(t:List Bc)(dom from_:Int)(m:Nat)(hl:At t)(hw:S2 (-1-(Ks t m).1))(wy:m<18446744073709551616):Sp 243 [Aq n,.sl 1 Ab fw,.sl 3 Bv t,Aa dom,Aa from_,B1 m] (.tup [.sl 1 Aa (Hb n fw t dom from_ m).1,.sl 1 Aa (Hb n fw t dom from_ m).2.1,Aa (Hb n fw t dom from_ m).2.2]):=cT F243 ntmps243 λF hF=>by
 cases i:eO n fw dom
 .have aa:Hb n fw t dom from_ m=([],[],2):=by
   rw[Hb,zE (by rw[bZ,i];rfl)]
  rw[aa];have q:=A2v n j fw dom from_ i;refine gQ q F310 ?_;refine fU ?_;exact Ar 12 1 Aa q_ (Ar 13 1 Aa q_ dN)
 have q:=A9z n j fw dom from_ i;have r:=knownS n j fw t dom from_ m hl hw i;have qg:=Wb m wy;have I:=i;simp only[eO,zG,zK]at I;obtain ⟨⟨hd,js⟩,l⟩:=I;have J:=Azk n fw dom from_ (Bz n dom) (Bz n dom) (X5 j dom) (Ais l js L2);have P:=A23 n j fw dom from_ (Bz n dom) hd;have R:=bZ n fw dom from_;rw[i,yB]at R;have ew:aQ n fw dom from_=false->Hb n fw t dom from_ m=([],[],2):=λh=>by rw[Hb,zE h]
 have o:aQ n fw dom from_=true->J5 m=true->Hb n fw t dom from_ m=(Ln n fw from_ (Bz n dom),Ot n dom from_,0):=λh p=>by
  rw[Hb,zD (by rw[h];decide),zE p]
 have g:=λh p=>@Bfz n fw t dom from_ m l h p
 generalize Hb n fw t dom from_ m=a0 at *;generalize X7 n fw t dom from_ m=kn at *;obtain ⟨kp,ke,ko⟩:=kn;generalize aQ n fw dom from_=rm at *;generalize (decide (from_=-1)||decide (from_=-2)||Li (Bz n dom) from_)=ok at *;subst R;generalize Bz n dom=ml at *;dsimp only at g r;refine gQ q F310 ?_;cases rm
 .rw[ew rfl];refine fU ?_;exact Ar 12 1 Aa q_ (Ar 13 1 Aa q_ dN)
 refine gL qg F234 ?_;cases hg:J5 m
 .have g:=g rfl hg;refine gL r F319 ?_;cases ko
  .rw[zD qq]at g;subst g;refine gL J F311 ?_;refine gL P F312 ?_;exact gC
  .rw[zE rfl]at g;subst g;exact gC
 .rw[o rfl hg];refine gL J F311 ?_;refine gL P F312 ?_;exact gC
def Arv(t:List Bc)(q:B0)(now:Int)(i:U4 t)(o:Ku q):Sp 239 [.sl 3 Bv t,Db q,Aa now] (.sl 3 Bv (Sb t q now)):=cT F239 ntmps239 λF r=>by
 have g:=Sb.eq_1 t q now;generalize Sb t q now=j at *;have l:=i.cb;have p:=l;unfold At at p;have I:=o.frame.src;have J:=o.peer
 conv=>whnf
 constructor<;>intro h
 .rw[zE (kS h)]at g;subst g;refine oO ?_;exact Al (Ad [(0,55)] q_ F250 (eG j p) q_ z_ q_ ⟨.inr q_,z_⟩) q_ q_ (Ao 55 q_ gM)
 rw[zD (kS h)]at g;clear h;refine gI ?_ ?_<;>intro h
 .rw[zE (kS h)]at g;subst g;refine gG ?_;refine gF (Amy t q.frame.src (-1-q.peer) now l i.an j_) F315 ?_;exact dN
 rw[zD (kS h)]at g;subst g;refine oO ?_;refine gF (Amy t q.frame.src q.ba now l i.an j_) F315 ?_;exact dN
def A52(k p d:Int):My:=⟨k,p,d,[],V9,0⟩
def Be6(k p d:Int)(b:List UInt8)(e:Int):Xh (A52 k p d) (b,e)=if e≠0 then ⟨5,p,d,[],V9,e⟩ else ⟨k,p,d,b,V9,0⟩:=rfl
def Aax(l:List My)(k p d:Int)(b:List UInt8)(e:Int)(j:l.length<100000000000):Sq 242 [Lo (A52 k p d),.sl 1 Ae b,Aa e,.ptr 0 0] [(0,.box [.osl 1]),(1,.row 9 Lo l)] (.tup []) [(0,.box [.osl 2]),(1,.non),(2,.row 9 Lo (l++[Xh (A52 k p d) (b,e)]))]:=cT F242 ntmps242 λF o=>by
 have i:=Be6 k p d b e;generalize Xh (A52 k p d) (b,e)=g at *
 conv=>whnf
 constructor<;>intro h
 .rw[zE (kS h)]at i;refine oO ?_;refine A2c 17 [Lo ⟨5,p,d,[],V9,e⟩] q_ (.cons (.agg vL) .nil) q_ ?_;refine Al (Ah Γ.toTy 18 q_ q_ q_ q_ q_ (.row q_) (.lit (e:=Lo) (l:=[g]) q_ (by rw[i];rfl)) qq kO kO) q_ q_ (oO ?_);exact Bf q_ .nil [(2,18)] [(0,.box [.osl 2]),(1,.non),(2,.row 9 Lo (l++[g]))] (λ_ h=>h) q_ q_ kU
 .rw[zD (kS h)]at i;refine oO ?_;refine Al (Ah Γ.toTy 18 q_ q_ q_ q_ q_ (.row q_) (.lit (e:=Lo) (l:=[g]) q_ (by rw[i];rfl)) qq kO kO) q_ q_ (oO ?_);exact Bf q_ .nil [(2,18)] [(0,.box [.osl 2]),(1,.non),(2,.row 9 Lo (l++[g]))] (λ_ h=>h) q_ q_ kU
def Bfn{t:List Bc}(i:U4 t)(m:Nat):S2 (Ks t m).1:=by
 unfold Ks;split
 .unfold S2;dsimp only;omega
 .rename_i h;have j:Mp t m<t.length:=Kf _ _;have g:(Mp t m).toNat<t.length:=by omega
  dsimp only;rw[zT g];exact i.wh _ (zI g)
def Ve{n:Ai}{fw:List Bool}{g:Int}{l:List Int}{p:Int}(h:p∈Ln n fw g l):p∈l:=(List.mem_filter.1 h).1
def Aro{n:Ai}(i:Ac n=true)(fw:List Bool)(t:List Bc)(dom l:Int)(m:Nat):∀p∈(Hb n fw t dom l m).1,0<=p/\p<n.g.length:=by
 intro p hp;unfold Hb at hp;split at hp
 .cases hp
 split at hp
 .exact L2 p (Ve hp)
 split at hp
 .rename_i g;obtain ⟨o,r⟩:=Abj i dom m;have j:=o.2 g;have I:=Aff i dom m j;have J:=zX.1 (Ve hp);rw[J,<-r g];exact⟨j,I⟩
 split at hp
 .rename_i g;rw[zX.1 (Ve hp)];exact L2 _ (Aqv.1 g.2.2)
 split at hp
 .cases hp
 .exact L2 p (Ve hp)
def Ab2(n:Ai)(fw:List Bool)(g:Int)(l:List Int):(Ln n fw g l).length<=l.length:=uW _ _
def Aqc{n:Ai}(g:n.Fin)(dom i:Int)(j:Am dom n.c.length=true):(Ot n dom i).length<2147483648:=by
 unfold Ot;split
 .decide
 .have h:=Tb j;rw[Aj h.2];exact g.ae _ (zI h.2)
def Akn{n:Ai}(j:n.Fin)(fw:List Bool)(t:List Bc)(dom g:Int)(m:Nat):(Hb n fw t dom g m).1.length<2147483648/\(Hb n fw t dom g m).2.1.length<2147483648:=by
 have J:=Afz n dom;have p:=j.g;unfold At at p;have i:=λl=>Ab2 n fw g l
 unfold Hb;split
 .decide
 rename_i h;have r:Am dom n.c.length=true:=by
  cases I:Am dom n.c.length
  .exact zW (by rw[aQ,I];rfl) h
  .rfl
 have o:=Aqc j dom g r;split
 .have:=i (Bz n dom);exact⟨by dsimp only;omega,o⟩
 split
 .have:=i [(Af n.ab (Jr n dom m)).ac];simp only[yI,xG]at this;exact⟨by dsimp only;omega,by show (0:Nat)<2147483648;decide⟩
 split
 .have:=i [(Ks t m).1];simp only[yI,xG]at this;exact⟨by dsimp only;omega,by show (0:Nat)<2147483648;decide⟩
 split
 .refine⟨by show (0:Nat)<2147483648;decide,?_⟩;dsimp only;split<;>simp
 .have:=i (Bz n dom);exact⟨by dsimp only;omega,o⟩
def Awt(n:Ai)(P:n.Fin)(ax:n.Num)(fw:List Bool)(t:List Bc)(dom:Int)(q:B0)(now:Int)(ht:U4 t)(R:Ku q):Sp 167 [Aq n,.sl 1 Ab fw,.sl 3 Bv t,Aa dom,Db q,Aa now] (.tup [.sl 3 Bv (Hz n fw t dom q now).1,.sl 9 Lo (Hz n fw t dom q now).2.1,Aa (Hz n fw t dom q now).2.2]):=cT F167 ntmps167 λF hF=>by
 have o:=Hz.eq_1 n fw t dom q now;generalize Hz n fw t dom q now=a3 at *;have qf:=floodS n P fw dom q.ba;have qr:=Ad9 t ht.cb ht.an
 conv=>whnf
 refine Bi 6 8 (Aq n) q_ q_ q_ ?_;refine Bi 10 7 (Db q) q_ q_ q_ (oO ?_);cases bf:aQ n fw dom q.ba
 .rw[zE (.inl bf)]at o;subst o;rw[Aam,zE bf]at qf;refine c0 qf F237 ?_
  (refine oT ?_;refine bT ?_)
  exact An 13 [.sl 9 Lo []] q_ (.cons .nil .nil) (Ar 12 3 Bv q_ dN)
 rw[Aam,zD (by rw[bf];decide)]at qf;refine c0 qf F237 (oF ?_);refine c0 qr F238 ?_;cases kt:Q3 t
 .rw[zE (.inr kt)]at o;subst o;refine oT ?_;exact An 13 [.sl 9 Lo []] q_ (.cons .nil .nil) (Ar 12 3 Bv q_ dN)
 rw[zD (by simp[bf,kt])]at o;have ql:=Arv t q now ht R;have hu:=fK ht R now;generalize Sb t q now=u at *;have a0:=Ar6 n P ax dom q.frame.dst;generalize Ie n dom q.frame.dst=ro at *;obtain ⟨irb,ok⟩:=ro;dsimp only at o a0;have a1:Ac n=true:=by
  simp only[aQ,zG]at bf;exact bf.1.2
 refine oF ?_;refine gF ql F239 ?_;refine c0 a0 F240 ?_;cases ok;rotate_left
 .rw[zE rfl]at o;have qh:=A5h n P ax irb q.frame R.frame;generalize Ww n irb q.frame=hp at *;obtain ⟨to,g,e⟩:=hp;dsimp only at o qh;refine oT ?_;refine gF qh F241 ?_;constructor<;>intro h
  .rw[zE (kS h)]at o;subst o;refine oO ?_;exact An 13 [.sl 9 Lo []] q_ (.cons .nil .nil) dN
  .rw[zD (kS h)]at o;subst o;refine oO ?_;refine kW ?_;refine A2c 84 [Lo ⟨4,0,to,[],g,0⟩] q_ (.cons (.agg vL) .nil) q_ ?_;exact Wu 84 Lo [⟨4,0,to,[],g,0⟩] q_ q_ (Ao 84 q_ dN)
 rw[zD qq]at o;have r:=R.frame.src;have jr:=R.frame.dst;have js:=Bfn hu q.frame.dst;have qd:=Bf0 n P fw u dom q.ba q.frame.dst hu.cb (by unfold S2 at *;omega) j_;have rj:=Aro a1 fw u dom q.ba q.frame.dst;have ji:=Akn P fw u dom q.ba q.frame.dst;generalize Hb n fw u dom q.ba q.frame.dst=dc at *;obtain ⟨i,l,e0⟩:=dc;dsimp only at o qd rj ji;obtain ⟨yf,rl⟩:=ji;refine oF ?_;refine gF qd F243 ?_;refine Zb 13 0 1000 9 Lo q_ q_ q_ q_ ?_;refine Bl i.length (λj=>[(3,Aa dom),(6,.ref 8 (Aq n) 0),(10,.ref 7 (Db q) 0),(12,.sl 3 Bv u),(13,.ptr 13 0),(23,.clo (.func 242) [] [.ptr 13 0]),(25,.sl 1 Aa l),(100,.sl 1 Aa i),(101,Aa i.length),(102,Aa j)])
  (λj=>[(13,.box [.osl 1000]),(1000,.row 9 Lo ((i.take j).map (Ab7 n dom q.frame)))]) [(13,13),(1000,1000)] kU ?_
 intro j hj;refine gI ?_ ?_<;>intro h
 .have I:j<i.length:=qA h;have ai:(j:Int).toNat<i.length:=kS I;obtain ⟨p,hp⟩:=kE (i[j]);have e1:i[(j:Int).toNat]'ai=p:=hp;have r:(i.take (j+1)).map (Ab7 n dom q.frame)=(i.take j).map (Ab7 n dom q.frame)++[Ab7 n dom q.frame p]:=by
   rw[zZ I,wP,hp];rfl
  have m7:((i.take j).map (Ab7 n dom q.frame)).length=j:=by rw[yS,zY];omega
  have ku:=rj p (by rw[<-hp];exact zI I);have zf:p.toNat<n.g.length:=by omega
  have ql:=Bbu n P p dom q.frame R.frame;have hop:Ab7 n dom q.frame p=Xh (A52 (if (Af n.g p).ah<0 then 1 else 2) p 0) ((Hi n p dom q.frame).1,(Hi n p dom q.frame).2):=rfl;rw[hop,Aj zf]at r;clear hop;obtain ⟨J,iv⟩:=kE ((i.take j).map (Ab7 n dom q.frame));rw[iv]at r m7|-;obtain ⟨x,hx⟩:=kE (n.g[p.toNat]'zf);rw[hx]at r;clear h;refine oO ?_;refine⟨q_,by omega,ai,?_⟩;rw[e1]
  conv=>whnf
  refine⟨q_,ku.1,zf,?_⟩;rw[hx]
  conv=>whnf
  constructor<;>intro h
  .rw[zD (qA h)]at r;refine oO ?_;refine gF ql F244 ?_;refine Al (Qr [(0,13),(1,1000),(2,1001)] [] (A3 q_ q_ F242) (Aax J 2 p 0 (Hi n p dom q.frame).1 (Hi n p dom q.frame).2 j_) (.cons (.agg vL) vL) ⟨q_,q_,z_⟩ q_ kB q_) q_ q_ (gG ?_);exact A9 [(13,13),(1000,1001)] I ⟨kA,⟨.inl q_,q_,.inl (zH (Ob.row 9 Lo) r),q_,z_⟩,q_,q_⟩
  .rw[zE (qB h)]at r;refine oO ?_;refine gF ql F244 ?_;refine Al (Qr [(0,13),(1,1000),(2,1001)] [] (A3 q_ q_ F242) (Aax J 1 p 0 (Hi n p dom q.frame).1 (Hi n p dom q.frame).2 j_) (.cons (.agg vL) vL) ⟨q_,q_,z_⟩ q_ kB q_) q_ q_ (gG ?_);exact A9 [(13,13),(1000,1001)] I ⟨kA,⟨.inl q_,q_,.inl (zH (Ob.row 9 Lo) r),q_,z_⟩,q_,q_⟩
 have jh:j=i.length:=qB h;subst jh;clear h;rw[yM];obtain ⟨oz,vp⟩:=kE (i.map (Ab7 n dom q.frame));have a2:oz.length=i.length:=by rw[<-vp,yS]
 rw[vp]at o|-;refine oO ?_;refine Bl l.length (λj=>[(3,Aa dom),(6,.ref 8 (Aq n) 0),(10,.ref 7 (Db q) 0),(12,.sl 3 Bv u),(13,.ptr 13 0),(23,.clo (.func 242) [] [.ptr 13 0]),(130,.sl 1 Aa l),(131,Aa l.length),(132,Aa j)])
  (λj=>[(13,.box [.osl 1000]),(1000,.row 9 Lo (oz++(l.take j).map (Aeq n dom q.frame)))]) [(13,13),(1000,1000)] ⟨⟨rfl,rfl,rfl,rfl,rfl,rfl,rfl,rfl,rfl,rfl,rfl,rfl,rfl,rfl,rfl,rfl,rfl,rfl,trivial⟩,⟨.inl rfl,rfl,.inl (zH (Ob.row 9 Lo) qx),rfl,trivial⟩,rfl,rfl⟩ ?_
 intro j hj;refine gI ?_ ?_<;>intro h
 .have I:j<l.length:=qA h;have ai:(j:Int).toNat<l.length:=kS I;obtain ⟨p,hp⟩:=kE (l[j]);have e1:l[(j:Int).toNat]'ai=p:=hp;have r:oz++(l.take (j+1)).map (Aeq n dom q.frame)=(oz++(l.take j).map (Aeq n dom q.frame))++[Aeq n dom q.frame p]:=by
   rw[zZ I,wP,hp,yW];rfl
  have m7:(oz++(l.take j).map (Aeq n dom q.frame)).length<=i.length+j:=by rw[zR,yS,zY];omega
  have ql:=A0e n P ax dom p q.frame R.frame;have hop:Aeq n dom q.frame p=Xh (A52 3 0 p) ((Mc n dom p q.frame).1,(Mc n dom p q.frame).2):=rfl;rw[hop]at r;clear hop;obtain ⟨J,iv⟩:=kE (oz++(l.take j).map (Aeq n dom q.frame));rw[iv]at r m7|-;clear h;refine oO ?_;refine⟨q_,by omega,ai,?_⟩;rw[e1]
  conv=>whnf
  refine gF ql F245 ?_;refine Al (Qr [(0,13),(1,1000),(2,1001)] [] (A3 q_ q_ F242) (Aax J 3 0 p (Mc n dom p q.frame).1 (Mc n dom p q.frame).2 j_) (.cons (.agg vL) vL) ⟨q_,q_,z_⟩ q_ kB q_) q_ q_ (gG ?_);exact A9 [(13,13),(1000,1001)] I ⟨kA,⟨.inl q_,q_,.inl (zH (Ob.row 9 Lo) r),q_,z_⟩,q_,q_⟩
 have jh:j=l.length:=qB h;subst jh;clear h;rw[yM];subst o;refine oO ?_;refine kW ?_;exact Ao 1000 q_ dN
def Zt{l:List B0}(h:Qa l):l.length<1000000/\eX l:=⟨by have:=h.1;omega,λq g=>by have:=(h.2 q g).frame.body;omega⟩
def Ahm{k:Type}{l:List k}{i:Nat}(h:i<l.length)(d:k):(l[i]?).getD d=l[i]:=by
 rw[zT h];rfl
def Ta{d:Int}{k:Nat}:Am d k=true↔0<=d/\d.toNat<k:=by
 simp only[Am,zG,zK];omega
def Bbo(m:B4)(dom:Int)(t:List Bc):B4×Int:=if Am dom m.ai.length=true/\Q3 t=true then (M0 m dom t,0) else (m,2)
def A48(n:Ai)(m:B4)(d:Bool)(dom:Int)(i:Qa (Ec m dom)):Sq 60 [.ptr 0 0,Aa dom] (I5 n m d) (.sl 7 Db (if Am dom m.ai.length then Ec m dom else [])) (I5 n m d):=cT F60 ntmps60 λF P=>by
 have t:=A2o n m d dom;have I:=Ta (d:=dom) (k:=m.ai.length);generalize Am dom m.ai.length=b at *;have g:=Zt i;have j:=Aiq _ (-1) g.1 g.2;have l:Tz (Ec m dom) (-1)=(noQ,Ec m dom,false):=by rw[Tz];exact zE (.inl qq)
 rw[l]at j;clear l g i;have o:=Ec.eq_1 m dom;generalize Ec m dom=J at *
 conv=>whnf
 refine Al (Ad [] q_ F118 t q_ kA q_ kB) q_ q_ (oO ?_);cases b
 ·(refine⟨λ_=>?_,λh=>False.elim (zW h qq)⟩;refine rg ?_;conv=>whnf)
  refine Ar 4 7 Db q_ ?_;exact done q_ As [] (I5 n m d) (λ_ h=>h) q_ q_ kU
 have p:=I.1 rfl;have r:dom.toNat<m.ai.length:=p.2;rw[Ahm r]at o;subst o
 (refine⟨λh=>False.elim (zW h qq),λ_=>?_⟩;refine rg ?_;conv=>whnf)
 refine⟨p.1,by omega,?_⟩
 conv=>whnf
 refine⟨q_,r,?_⟩
 conv=>whnf
 refine gF j F119 ?_;exact done q_ As [] (I5 n m d) (λ_ h=>h) q_ q_ kU
def lA(m:B4):Prop:=∀i,0<=m.ap i/\m.ap i<=1000000000000
def Abq(n:Ai)(m:B4)(d:Bool)(dom:Int)(q:B0)(e:Int)(j:0<=e/\e<64)(g:e=0->0<=dom/\dom.toNat<m.ai.length)(p:lA m)(t:Qa (Ec m dom))(hq:Ku q):Sq 166 [.ptr 0 0,Aa dom,Db q,Aa e] (I5 n m d) (.tup []) (I5 n (Sz m dom q e) d):=cT F166 ntmps166 λF hF=>by
 have o:=Zt t;have hp:=Atm _ q o.1 o.2 (by have:=hq.frame.body;omega);have I:=Av9 n m d e j.1 j.2 (p _);have h3:=Av9 n m d 3 qq qq (p _);have i:=Sz.eq_1 m dom q e;generalize Sz m dom q e=a0 at *
 conv=>whnf
 constructor<;>intro h
 .rw[zE (kS h)]at i;subst i;refine oO ?_;refine Al (Ad [] q_ F169 I q_ kA q_ kB) q_ q_ (oO ?_);exact done q_ .nil [] (I5 n (Et m e) d) (λ_ h=>h) q_ q_ kU
 have J:e=0:=kS h;have g:=g J;rw[zD (by rw[J];decide)]at i;clear h o I t j;have P:=Ec.eq_1 m dom;rw[Ahm g.2]at P;generalize Ec m dom=l at *;generalize cN l q=r at *;obtain ⟨R,ok⟩:=r;subst P;refine oO ?_;refine⟨g.1,g.2,?_⟩
 conv=>whnf
 refine⟨q_,g.2,?_⟩
 conv=>whnf
 refine cD hp F236 (gO ?_);cases ok
 .rw[zD qx]at i;subst i
  (refine⟨λ_=>?_,λh=>False.elim (by simp at h)⟩;refine rg ?_;conv=>whnf)
  refine Al (Ad [] q_ F169 h3 q_ kA q_ kB) q_ q_ (oO ?_);exact done q_ .nil [] (I5 n (Et m 3) d) (λ_ h=>h) q_ q_ kU
 .rw[zE rfl]at i;subst i
  (refine⟨λh=>False.elim (by simp at h),λ_=>?_⟩;refine rg ?_;conv=>whnf)
  refine⟨g.1,g.2,?_⟩
  conv=>whnf
  refine⟨q_,g.2,R,q_,q_,?_⟩
  conv=>whnf
  exact Bf q_ .nil [] (I5 n (setQ m dom R) d) (λ_ h=>h) q_ q_ kU
def Asz(n:Ai)(m:B4)(d:Bool)(dom at_:Int)(o:Qa (Ec m dom)):Sq 82 [.ptr 0 0,Aa dom,Aa at_] (I5 n m d) (.tup [Db (C5 m dom at_).2.1,Ab (C5 m dom at_).2.2]) (I5 n (C5 m dom at_).1 d):=cT F82 ntmps82 λF R=>by
 have j:=Zt o;have hp:=Aiq _ at_ j.1 j.2;have I:=A2o n m d dom;have J:=Ta (d:=dom) (k:=m.ai.length);have i:=C5.eq_1 m dom at_;generalize C5 m dom at_=P at *;generalize Am dom m.ai.length=b at *;have p:=Ec.eq_1 m dom;clear o j;generalize Ec m dom=l at *;generalize Tz l at_=r at *;obtain ⟨q,t,ok⟩:=r
 conv=>whnf
 refine Al (Ad [] q_ F118 I q_ kA q_ kB) q_ q_ (oO ?_);cases b
 .rw[zE rfl]at i;subst i
  (refine⟨λ_=>?_,λh=>False.elim (zW h qq)⟩;refine rg ?_;conv=>whnf)
  refine An 6 [Aa 0,Aa 0,Aa 0,B1 0,B1 0,Aa 0,.sl 1 Ae []] q_ vL ?_;exact done q_ (.cons (.cell q_ q_ q_ q_) As) [] (I5 n m d) (λ_ h=>h) q_ q_ kU
 have g:=J.1 rfl;rw[Ahm g.2]at p;subst p;rw[zD qx]at i;subst i
 (refine⟨λh=>False.elim (zW h qq),λ_=>?_⟩;refine rg ?_;conv=>whnf)
 refine⟨g.1,g.2,?_⟩
 conv=>whnf
 refine⟨q_,g.2,?_⟩
 conv=>whnf
 refine gF hp F119 ?_;refine⟨g.1,g.2,?_⟩
 conv=>whnf
 refine⟨q_,g.2,t,q_,q_,?_⟩
 conv=>whnf
 exact done q_ (.cons (.cell q_ q_ q_ q_) As) [] (I5 n (setQ m dom t) d) (λ_ h=>h) q_ q_ kU
def Ayv(n:Ai)(I:n.Fin)(m:B4)(d:Bool)(J D:Int)(g:D8 n m J D)(hJ:J<1000000000000)(hD:D<=1000000000000)(port:Int)(b:List UInt8)(hb:b.length<100000):Sq 80 [.ptr 0 0,Aa port,.sl 1 Ae b] (I5 n m d) (.tup []) (I5 n (M4 n m port b) d):=cT F80 ntmps80 λF hF=>by
 have j:=M4.eq_1 n m port b;generalize M4 n m port b=l at *;have o:=Ta (d:=port) (k:=n.g.length);have iu:=g.inj;have aq:D8 n ⟨m.up,m.al,m.ai,m.ay,m.af+1,m.ap⟩ (J+1) D:=⟨g.up,g.ca,g.bv,g.ck,g.cj,g.ay,⟨by dsimp only;omega,by dsimp only;omega⟩,g.bo⟩
 have fg:lA ⟨m.up,m.al,m.ai,m.ay,m.af+1,m.ap⟩:=λi=>⟨(g.bo i).1,by have:=(g.bo i).2;dsimp only at *;omega⟩
 have P:=Akd n port b;have kf:=Aao (n:=n) (port:=port) (b:=b);have q1:=Av5 n I port b hb;have yg:=Ae3 n port b;generalize Ev n port b=r at *;have q2:=λ (hp:0<=port/\port.toNat<n.g.length)=>Abq n ⟨m.up,m.al,m.ai,m.ay,m.af+1,m.ap⟩ d r.1 ⟨port,0,m.af+1,r.2.1⟩ r.2.2 ⟨P.1,by have:=P.2;omega⟩ (λ h=>by
  have:=kf h;exact⟨this.1,by show r.1.toNat<m.ai.length;rw[g.bv];exact this.2⟩) fg (M1 aq _) (Qi yg _ ⟨by omega,by have:=I.g;unfold At at this;omega⟩ qq)
 conv=>whnf
 constructor<;>intro h
 .have h:=zO h;rw[zE (.inl (by cases t:Am port n.g.length;rfl;exact zW (o.1 t) j_))]at j;subst j
  (refine oT ?_;refine bT ?_)
  (skip)
  exact done q_ .nil [] (I5 n l d) (λ_ h=>h) q_ q_ kU
 have h0:=zQ h;clear h;refine gI ?_ ?_<;>intro h
 .have h:=zO h;rw[zE (.inl (by cases t:Am port n.g.length;rfl;exact zW (o.1 t) j_))]at j;subst j;refine oT ?_
  (skip)
  exact done q_ .nil [] (I5 n l d) (λ_ h=>h) q_ q_ kU
 have h1:=zQ h;clear h;have hp:0<=port/\port.toNat<n.g.length:=by omega
 rw[o.2 hp,Aj hp.2]at j;obtain ⟨p,R⟩:=kE (n.g[port.toNat]'hp.2);rw[R]at j;refine oO ?_;refine⟨q_,hp.1,hp.2,?_⟩;rw[R]
 conv=>whnf
 constructor<;>intro h
 .have h:=zO h;rw[zE (.inr h)]at j;subst j;refine oO ?_;exact done q_ .nil [] (I5 n l d) (λ_ h=>h) q_ q_ kU
 have h2:=zQ h;clear h;rw[zD kO]at j;subst j;refine gG ?_;refine gF q1 F165 ?_;refine C6 (Ad [] q_ F166 (q2 hp) q_ kA q_ kB) y_ q_ (gO ?_);refine Bf q_ .nil [] (I5 n (Sz _ _ _ _) d) (λ_ h=>h) q_ q_ kU
def Aia(n:Ai)(P:n.Fin)(m:B4)(d:Bool)(J D:Int)(l:D8 n m J D)(hD:D<=1000000000000)(o:My)(R:Ale n o)(origin:Int):Sq 170 [.ptr 0 0,Lo o,Aa origin] (I5 n m d) (.sl 3 Im (Ii n m o origin).2) (I5 n (Ii n m o origin).1 d):=cT F170 ntmps170 λF hF=>by
 have g:=Ii.eq_1 n m o origin;generalize Ii n m o origin=a0 at *;have fg:lA m:=λi=>⟨(l.bo i).1,by have:=(l.bo i).2;omega⟩
 have jt:o.bytes.length<100000:=by have:=R.bytes;omega
 have br:∀{x:Int},K2 n x->0<=x/\x.toNat<m.ai.length:=λh=>by rw[l.bv];exact h
 conv=>whnf
 constructor<;>intro h
 .have h1:o.kind=1:=by simpa using h
  rw[zE h1]at g;subst g;refine oO ?_;refine Wu 34 Im [⟨o.ac,origin,o.bytes⟩] q_ q_ (Ao 34 q_ ?_);exact done q_ As [] (I5 n m d) (λ_ h=>h) q_ q_ kU
 have h1:¬o.kind=1:=kS h;rw[zD h1]at g;clear h;refine gI ?_ ?_<;>intro h
 .have I:o.kind=2:=by simpa using h
  rw[zE I]at g;have q1:=A0f n P o.ac o.bytes jt;have p:=A6z n o.ac o.bytes;have hd:=λh=>br (Ano (n:=n) (port:=o.ac) (b:=o.bytes) h)
  have t:=Au3 n o.ac o.bytes;have ht:=Au2 P o.ac o.bytes;generalize Ir n o.ac o.bytes=r at *;have j:=Abq n m d r.2.1 ⟨r.1,0,origin,r.2.2.1⟩ r.2.2.2 p hd fg (M1 l _) (Qi t _ j_ qq);subst g;refine oO ?_;refine cD q1 F248 (gO ?_);refine kW ?_;refine Al (Ad [] q_ F166 j q_ kA q_ kB) q_ q_ (oO ?_);refine Ar 6 3 Im q_ ?_;exact done q_ As [] (I5 n (Sz _ _ _ _) d) (λ_ h=>h) q_ q_ kU
 have I:¬o.kind=2:=kS h;rw[zD I]at g;clear h;refine gI ?_ ?_<;>intro h
 .have I:o.kind=3:=by simpa using h
  rw[zE I]at g;have q1:=A0g n P o.bytes jt;have p:=A7y n o.bytes;have hd:=λh=>br (Ae5 (n:=n) (b:=o.bytes) h).2
  have t:=Awi n o.bytes;have ht:=Akq P o.bytes;generalize Jh n o.bytes=r at *;have j:=Abq n m d r.2.1 ⟨-1,r.1,origin,r.2.2.1⟩ r.2.2.2 p hd fg (M1 l _) (Qi t _ qq ht);subst g;refine oO ?_;refine cD q1 F249 (gO ?_);refine kW ?_;refine Al (Ad [] q_ F166 j q_ kA q_ kB) q_ q_ (oO ?_);refine Ar 6 3 Im q_ ?_;exact done q_ As [] (I5 n (Sz _ _ _ _) d) (λ_ h=>h) q_ q_ kU
 have h3:¬o.kind=3:=kS h;rw[zD h3]at g;clear h;refine gI ?_ ?_<;>intro h
 .have h4:o.kind=4:=by simpa using h
  rw[zE h4]at g;have t:=R.frame h4;have j:=Abq n m d o.l ⟨-2,0,origin,o.frame⟩ 0 qq (λ_=>br t.2) fg (M1 l _) (Qi t.1 _ qq qq);subst g;refine oO ?_;refine Al (Ad [] q_ F166 j q_ kA q_ kB) q_ q_ (oO ?_);refine Ar 6 3 Im q_ ?_;exact done q_ As [] (I5 n (Sz _ _ _ _) d) (λ_ h=>h) q_ q_ kU
 have h4:¬o.kind=4:=kS h;rw[zD h4]at g;have h5:o.kind=5:=by have:=R.kind;omega
 have p:=R.err h5;have j:=Av9 n m d o.error p.1 p.2 (fg _);subst g;clear h;refine oO ?_;refine Al (Ad [] q_ F169 j q_ kA q_ kB) q_ q_ (oO ?_);refine Ar 6 3 Im q_ ?_;exact done q_ As [] (I5 n (Et m o.error) d) (λ_ h=>h) q_ q_ kU
end Go.Sy.Zaa
