/- Parts of a proof. -/
import Derived.Test.YtodbnbfjhjcanaaGreatDoorXB24
set_option maxHeartbeats 4000000
set_option linter.all false
namespace Go.Sy.Zaa
open Go.Proofs Go.Proofs.Tryz
section
structure TenM where
 row:Int
 name:ByteArray
 devs:List ByteArray
 ports:List ByteArray
instance:Inhabited TenM:=⟨⟨0,⟨#[]⟩,[],[]⟩⟩
def E1(t:TenM):SV:=.agg [Aa t.row,As t.name,.sl 1 As t.devs,.sl 1 As t.ports]
def Ahs:TenM:=⟨0,⟨#[]⟩,[],[]⟩
abbrev As4:ByteArray:=⟨#[116,101,110,97,110,116]⟩
def Q5(w:ByteArray):ByteArray×ByteArray×Bool:=((cutT 46 w).1,(cutT 46 w).2.1,(cutT 46 w).2.2&&A3 (cutT 46 w).1&&A3 (cutT 46 w).2.1)
def Aax(t:TenM):List ByteArray->TenM×Int
 |[]=>(t,0)
 |w::l=>if (Q5 w).2.2=false then (Ahs,20) else Aax {t with devs:=t.devs++[(Q5 w).1],ports:=t.ports++[(Q5 w).2.1]} l
def tenantT(w:List ByteArray)(row:Int):TenM×Int :=
 if wdT w 0≠As4\/w.length<=2\/18<w.length then (Ahs,22) else if A3 (wdT w 1)=false then (Ahs,20)
 else Aax ⟨row,wdT w 1,[],[]⟩ (w.drop 2)
def K2(i:Nat)(out:List TenM):List ByteArray->List TenM×Int×Int
 |[]=>(out,0,0)
 |r::rs=>if (wordsT r).2≠0 then ([],i+1,(wordsT r).2) else if (wordsT r).1=[] then K2 (i+1) out rs
  else if (tenantT (wordsT r).1 (i+1)).2≠0 then ([],i+1,(tenantT (wordsT r).1 (i+1)).2) else if out.length=10 then ([],i+1,3)
  else K2 (i+1) (out++[(tenantT (wordsT r).1 (i+1)).1]) rs
def policyT(b:List UInt8):List TenM×Int×Int:=if (rowsT b).2≠0 then ([],0,(rowsT b).2) else K2 0 [] (rowsT b).1
def Sv(t:TenM):Bool:=A3 t.name&&(decide (t.devs.length=t.ports.length)&&(decide (0<t.devs.length)&&(decide (t.devs.length<=16)&&(!(t.devs.any λs=>!(A3 s))&&!(t.ports.any λs=>!(A3 s))))))
attribute [local irreducible]G DR
set_option maxRecDepth 100000
def Ag5(s:ByteArray):(cutT 46 s).1.size<=s.size/\(cutT 46 s).2.1.size<=s.size:=by
 unfold cutT;split
 .simp only[ByteArray.size_extract];omega
 .exact⟨yE _,xN _⟩
def okH(k x y:Bool):Nat->Bool
 |0=>k
 |1=>k&&x
 |_=>k&&x&&y
def A46(w:ByteArray)(hw:w.size<=100000):Sp 72 [As w] (.tup [.agg [As (Q5 w).1,As (Q5 w).2.1],Ab (Q5 w).2.2]):=cT F72 ntmps72 λF hF=>by
 have q1:=aZ w 46 q_;have hs:=Ag5 w;have qa:=E7 (cutT 46 w).1 q_;have qb:=E7 (cutT 46 w).2.1 q_;simp only[Q5];generalize cutT 46 w=c at *;obtain ⟨a,b,k⟩:=c;dsimp only at *;generalize A3 a=x at *;generalize A3 b=y at *;refine gC q1 F68 ?_;refine X (Wt Γ.toTy (out:=[As a,As b]) E E E E E E) ?_;refine Cd (λj:Nat=>j<=2) (λj=>[(2,.ptr 2 0),(6,Ab (okH k x y j)),(7,.ptr 7 0),(19,.agg [As a,As b]),(20,Aa j)]) (λ_=>[(2,.box [.val (.string .empty),.val (.string .empty)]),(7,.box [As a,As b])]) (λj=>2-j) 0 [] q_ U ?_;intro j hj;obtain rfl|rfl|rfl:j=0\/j=1\/j=2:=by omega
 .refine T ?_;refine X (Cg (k:=.string) Γ.toTy E E E Tryz.underlying9 E E j_ j_ E) ?_;cases k
  .refine T ?_;exact Ax 1 [] j_ j_ U
  .refine gC qa F71 ?_;exact Ax 1 [] j_ j_ U
 .refine T ?_;refine X (Cg (k:=.string) Γ.toTy E E E Tryz.underlying9 E E j_ j_ E) ?_;cases k
  .refine T ?_;exact Ax 2 [] j_ j_ U
  .cases x
   .refine T ?_;exact Ax 2 [] j_ j_ U
   .refine gC qb F71 ?_;exact Ax 2 [] j_ j_ U
 .exact gA
def A31(w:List ByteArray)(row:Int)(h0:0<w.length)(hw:w.length<=100000)(hs:∀s∈w,s.size<=40):Sp 38 [.sl 1 As w,Aa row] (.tup [E1 (tenantT w row).1,Aa (tenantT w row).2]):=cT F38 ntmps38 λF hF=>by
 have aa:=tenantT.eq_1 w row;generalize tenantT w row=res at *;have wy:(0:Int).toNat<w.length:=h0;have e0:wdT w 0=w[(0:Int).toNat]'wy:=Dq h0;rw[e0]at aa;by_cases k1:w[(0:Int).toNat]'wy=As4;rotate_left
 .have f1:(w[(0:Int).toNat]'wy==(⟨#[116,101,110,97,110,116]⟩:ByteArray))=false:=by
   cases hb:(w[(0:Int).toNat]'wy==(⟨#[116,101,110,97,110,116]⟩:ByteArray))
   .rfl
   .exact yA ((A26 _ _).1 hb) k1
  have f1':(!(w[(0:Int).toNat]'wy==(⟨#[116,101,110,97,110,116]⟩:ByteArray)))=true:=by rw[f1];rfl
  rw[zE (.inl k1)]at aa;subst aa;refine T ?_;exact Ak 4 (cellsOf (E1 Ahs)) E vL D
 have f1:(w[(0:Int).toNat]'wy==(⟨#[116,101,110,97,110,116]⟩:ByteArray))=true:=(A26 _ _).2 k1;have f1':(!(w[(0:Int).toNat]'wy==(⟨#[116,101,110,97,110,116]⟩:ByteArray)))=false:=by rw[f1];rfl
 by_cases k2:w.length<=2
 .have f2:decide ((w.length:Int)<=2)=true:=zL q_;rw[zE (.inr (.inl k2))]at aa;subst aa;refine T ?_;exact Ak 4 (cellsOf (E1 Ahs)) E vL D
 have f2:decide ((w.length:Int)<=2)=false:=zK q_;by_cases k3:18<w.length
 .have f3:decide ((w.length:Int)>18)=true:=zL q_;rw[zE (.inr (.inr k3))]at aa;subst aa;refine T ?_;exact Ak 4 (cellsOf (E1 Ahs)) E vL D
 have f3:decide ((w.length:Int)>18)=false:=zK q_;rw[zD (λh=>h.elim (λh=>h k1) λh=>h.elim k2 k3)]at aa;have kq:(1:Int).toNat<w.length:=by show 1<w.length;omega
 have e1:wdT w 1=w[(1:Int).toNat]'kq:=Dq (show 1<w.length by omega);rw[e1]at aa;have qn:=E7 (w[(1:Int).toNat]'kq) (by have:=hs _ (zI kq);omega);cases hn:A3 (w[(1:Int).toNat]'kq) with
 |false=>
  rw[hn]at qn;rw[zE hn]at aa;subst aa;refine gC qn F71 ?_;exact Ak 4 (cellsOf (E1 Ahs)) E vL D
 |true=>
 rw[hn]at qn;rw[zD (by rw[hn];exact Bool.noConfusion)]at aa;have fc:(w.drop 2).length=w.length-2:=yP;have jx:∀s∈w.drop 2,s.size<=40:=λs h=>hs s (List.mem_of_mem_drop h)
 refine gC qn F71 ?_;refine X (J2 (lo:=2) (hi:=w.length) Γ.toTy (w.drop 2) E E E E (.inr ⟨_,_,E,E⟩) (.inl ⟨E,E⟩) q_ (yE _) (by rw[yN])) ?_;obtain ⟨nm,zs⟩:=kE (w[(1:Int).toNat]'kq);rw[zs]at aa|-;generalize w.drop 2=v at *;refine Tq 6 2 1001 1 As E E E E ?_;refine Tq 6 3 1002 1 As E E E E ?_;refine Cd (λx:Nat×List ByteArray×List ByteArray=>res=Aax ⟨row,nm,x.2.1,x.2.2⟩ (v.drop x.1)/\x.1<=v.length/\x.2.1.length=x.1/\x.2.2.length=x.1) (λx=>[(4,.ptr 4 0),(6,.ptr 6 0),(37,.sl 1 As v),(38,Aa v.length),(39,Aa x.1)]) (λx=>[(4,.box [Aa 0,.val (.string .empty),svN,svN]),(6,.box [Aa row,As nm,.osl 1001,.osl 1002]),(1001,.row 1 As x.2.1),(1002,.row 1 As x.2.2)]) (λx=>v.length-x.1) (0,[],[]) [] ⟨aa,by simp,E,E⟩ U ?_;rintro ⟨j,ds,ps⟩ ⟨hI,hj,hd,hp⟩;dsimp only at hI hj hd hp|-;refine gN ?_ ?_<;>intro h
 .have ab:j<v.length:=qA h;have ai:(j:Int).toNat<v.length:=ab;clear h;have fh:v.drop j=v[(j:Int).toNat]'ai::v.drop (j+1):=yL ab;rw[fh,Aax]at hI;have q:=A46 (v[(j:Int).toNat]'ai) (by have:=jx _ (zI ai);omega);generalize Q5 (v[(j:Int).toNat]'ai)=hv at *;obtain ⟨a,b,ok⟩:=hv;dsimp only at hI q;cases ok
  .rw[zE rfl]at hI;subst hI;refine gC q F72 ?_;exact Ak 4 (cellsOf (E1 Ahs)) E vL D
  .rw[zD (by exact Bool.noConfusion)]at hI;refine gC q F72 ?_;refine Xd (Ah Γ.toTy 56 E E E E E (.row E) (.lit (e:=As) (l:=[a]) E E) y_ kO kO) ?_;refine Xd (Ah Γ.toTy 62 E E E E E (.row E) (.lit (e:=As) (l:=[b]) E E) y_ kO kO) ?_;exact Ax (j+1,ds++[a],ps++[b]) [(1001,56),(1002,62)] ⟨hI,ab,by simp;omega,by simp;omega⟩ (by dsimp only;omega) U
 .have cu:j=v.length:=qB h;rw[cu,wU,Aax]at hI;subst hI;clear h;refine T ?_;exact Ai 1001 E (Ai 1002 E D)
def nA(b:List UInt8)(hb:b.length<=1000000):Sp 15 [.sl 1 Al b] (.tup [.sl 4 E1 (policyT b).1,Aa (policyT b).2.1,Aa (policyT b).2.2]):=cT F15 ntmps15 λF hF=>by
 have q1:=Aga b hb;have aa:=policyT.eq_1 b;have jj:=Qy b;generalize policyT b=res at *;generalize rowsT b=rt at *;obtain ⟨bq,e0⟩:=rt;dsimp only at aa jj q1;obtain ⟨hlen,bg⟩:=jj;by_cases ur:e0=0;rotate_left
 .have f0:(e0 != 0)=true:=by rw[xC];exact ur
  rw[zE ur]at aa;subst aa;refine gC q1 F36 ?_;exact Ao 2 4 E1 E D
 have f0:(e0 != 0)=false:=by rw[ur];rfl
 rw[zD (λh=>h ur)]at aa;subst ur;refine gC q1 F36 ?_;refine Ca 2 1000 4 E1 E E ?_;refine Cd (λx:Nat×List TenM=>res=K2 x.1 x.2 (bq.drop x.1)/\x.1<=bq.length/\x.2.length<=x.1) (λx=>[(2,.osl 1000),(19,.sl 1 As bq),(20,Aa bq.length),(21,Aa x.1)]) (λx=>[(1000,.row 4 E1 x.2)]) (λx=>bq.length-x.1) (0,[]) [] ⟨aa,by simp,by simp⟩ U ?_;rintro ⟨j,out⟩ ⟨hI,hj,lq⟩;dsimp only at hI hj lq|-;refine gN ?_ ?_<;>intro h
 .have ab:j<bq.length:=qA h;have an:(j:Int).toNat<bq.length:=ab;have hr:(bq[(j:Int).toNat]'an).size<=20000:=bg _ (zI _);have fh:bq.drop j=bq[(j:Int).toNat]'an::bq.drop (j+1):=yL ab;rw[fh,K2]at hI;clear h;have q2:=Acb (bq[(j:Int).toNat]'an) q_;have j6:=Ts (bq[(j:Int).toNat]'an) hr;generalize wordsT (bq[(j:Int).toNat]'an)=wt at *;obtain ⟨ws,we⟩:=wt;dsimp only at hI j6 q2;by_cases he:we=0;rotate_left
  .have f1:(we==0)=false:=by rw[zU];exact he
   have f2:(we != 0)=true:=by rw[xC];exact he
   rw[zE he]at hI;subst hI;refine gC q2 F37 ?_;exact Ao 2 4 E1 E D
  subst he;rw[zD (λh=>h rfl)]at hI;by_cases lu:ws.length=0
  .rw[zE (yC lu)]at hI;have f1:((ws.length:Int)==0)=true:=by rw[lu];rfl
   refine gC q2 F37 ?_;exact Ax (j+1,out) [] ⟨hI,ab,by dsimp only;omega⟩ (by dsimp only;omega) U
  rw[zD (λe=>lu (by rw[e];rfl))]at hI;have f1:((ws.length:Int)==0)=false:=by rw[zU];omega
  have q3:=A31 ws ((j:Int)+1) q_ q_ j6.2;generalize tenantT ws ((j:Int)+1)=st at *;obtain ⟨t,se⟩:=st;dsimp only at hI q3;by_cases hs:se=0;rotate_left
  .have f2:(se==0)=false:=by rw[zU];exact hs
   have f3:(se != 0)=true:=by rw[xC];exact hs
   rw[zE hs]at hI;subst hI;refine gB q2 F37 q3 F38 ?_;exact Ao 2 4 E1 E D
  subst hs;rw[zD (λh=>h rfl)]at hI;by_cases kq:out.length=10
  .have f2:((out.length:Int)==10)=true:=by rw[kq];rfl
   rw[zE kq]at hI;subst hI;refine gB q2 F37 q3 F38 ?_;exact Ao 2 4 E1 E D
  have f2:((out.length:Int)==10)=false:=by rw[zU];omega
  rw[zD kq]at hI;refine gB q2 F37 q3 F38 ?_;refine X (Ah Γ.toTy 62 E E E E E (.row E) (.lit (e:=E1) (l:=[t]) E E) y_ kO kO) ?_;exact Ax (j+1,out++[t]) [(1000,62)] ⟨hI,ab,by simp;omega⟩ (by dsimp only;omega) U
 .have cu:j=bq.length:=qB h;rw[cu,wU,K2]at hI;subst hI;clear h;refine T ?_;exact Ai 1000 E D
end
section
def Iy(n:Net)(i:Int):List Int->List ByteArray->List ByteArray->List Int×Int
 |ow,d::ds,p::ps=>
  let at_:=Sg n (Ci n d) p
  if at_<0 then (ow,31) else if 0<=(nth n.ports at_).link\/nth ow at_≠-1 then (ow,39) else Iy n i (ow.set at_.toNat i) ds ps
 |ow,_,_=>(ow,0)
def Tp(n:Net)(L:List TenM):Nat->List Int->List TenM->List Int×Int×Int×Int
 |_,ow,[]=>(ow,0,0,0)
 |i,ow,t::r=>
  if Sv t=false\/10<=i then ([],2,t.row,2) else if (L.take i).any (λx=>x.name==t.name)=true then ([],2,t.row,30)
  else if (Iy n i ow t.devs t.ports).2≠0 then ([],2,t.row,(Iy n i ow t.devs t.ports).2) else Tp n L (i+1) (Iy n i ow t.devs t.ports).1 r
def Ad0(n:Net)(ow:List Int):Nat->List Port->Nat
 |i,[]=>i
 |i,p::r=>if p.link<0/\nth ow i=-1 then i else Ad0 n ow (i+1) r
def assignT(n:Net)(L:List TenM):List Int×Int×Int×Int :=
 if Ac n=false then ([],0,0,2) else
 let a:=Tp n L 0 (List.replicate n.ports.length (-1)) L
 if a.2.2.2≠0 then a else
 if Ad0 n a.1 0 n.ports<n.ports.length then ([],1,(nth n.ports (Ad0 n a.1 0 n.ports)).row,39) else (a.1,0,0,0)
def Mw(n:Net)(ow:List Int)(from_:Nat)(a:Int):Nat->List Int->Option Nat
 |_,[]=>none
 |to,b::r=>if ¬(a<0\/b<0\/a=b)/\(wayT n from_ to).2=true then some to else Mw n ow from_ a (to+1) r
def Sn(n:Net)(ow:List Int):Nat->List Int->Int×Int×Bool
 |_,[]=>(0,0,false)
 |from_,a::r=>match Mw n ow from_ a 0 ow with
  |some to=>(from_,to,true)
  |none=>Sn n ow (from_+1) r
def leaksT(n:Net)(ow:List Int):Int×Int×Bool:=if Ey n ow=false then (0,0,false) else Sn n ow 0 ow
def V6(w row e:Int):ReportM:=⟨3,w,row,e,0,0,[]⟩
def aV(n:Net)(a:List Int×Int×Int×Int):ReportM :=
 if a.2.2.2≠0 then V6 a.2.1 a.2.2.1 a.2.2.2 else if (leaksT n a.1).2.2=false then ⟨1,0,0,0,0,0,[]⟩
 else ⟨2,0,0,0,(leaksT n a.1).1,(leaksT n a.1).2.1,(wscriptT n (leaksT n a.1).1 (leaksT n a.1).2.1).1⟩
def verifyT(b c:List UInt8):ReportM :=
 if (netTextT b).2.2≠0 then V6 1 (netTextT b).2.1 (netTextT b).2.2 else if (policyT c).2.2≠0 then V6 2 (policyT c).2.1 (policyT c).2.2
 else aV (netTextT b).1 (assignT (netTextT b).1 (policyT c).1)
attribute [local irreducible]G DR
set_option maxRecDepth 100000
def Aqh{n:Net}{ow:List Int}(h:Ey n ow=true):ow.length=n.ports.length:=by
 simp only[Ey,zG,zJ]at h;exact h.1.1
def leaksS(n:Net)(hn:n.Fin)(hu:C7 n)(ow:List Int):Sp 32 [Am n,.sl 1 Aa ow] (.tup [Aa (leaksT n ow).1,Aa (leaksT n ow).2.1,Ab (leaksT n ow).2.2]):=cT F32 ntmps32 λF hF=>by
 have q0:=bV n hn ow;have aa:=leaksT.eq_1 n ow;generalize leaksT n ow=res at *;cases ho:Ey n ow with
 |false=>
  rw[ho]at q0;rw[zE ho]at aa;subst aa;refine gC q0 F24 ?_;exact D
 |true=>
 have lq:=Aqh ho;have ov:n.ports.length<2147483648:=hn.ports;rw[ho]at q0;rw[zD (by rw[ho];exact Bool.noConfusion)]at aa;refine gC q0 F24 ?_;refine Cd (λj:Nat=>res=Sn n ow j (ow.drop j)/\j<=ow.length) (λj=>[(1,.sl 1 Aa ow),(2,.ptr 2 0),(17,.sl 1 Aa ow),(18,Aa ow.length),(19,Aa j)]) (λ_=>[(2,.box (Dc n))]) (λj=>ow.length-j) 0 [] ⟨aa,by omega⟩ U ?_;rintro j ⟨hI,hj⟩;refine gN ?_ ?_<;>intro h
 .have ab:j<ow.length:=qA h;have ai:(j:Int).toNat<ow.length:=ab;have fh:ow.drop j=ow[(j:Int).toNat]'ai::ow.drop (j+1):=yL ab;rw[fh,Sn]at hI;clear h;obtain ⟨R,hR⟩:=kE (Mw n ow j (ow[(j:Int).toNat]'ai) 0 ow);rw[hR]at hI;refine T ?_;refine Cd (λk:Nat=>Mw n ow j (ow[(j:Int).toNat]'ai) k (ow.drop k)=R/\k<=ow.length) (λk=>[(1,.sl 1 Aa ow),(2,.ptr 2 0),(7,Aa j),(8,Aa (ow[(j:Int).toNat]'ai)),(17,.sl 1 Aa ow),(18,Aa ow.length),(19,Aa j),(24,.sl 1 Aa ow),(25,Aa ow.length),(26,Aa k)]) (λ_=>[(2,.box (Dc n))]) (λk=>ow.length-k) 0 [] ⟨hR,by omega⟩ U ?_;rintro k ⟨hK,hk⟩;refine gN ?_ ?_<;>intro h
  .have de:k<ow.length:=qA h;have bd:(k:Int).toNat<ow.length:=de;have qy:ow.drop k=ow[(k:Int).toNat]'bd::ow.drop (k+1):=yL de;rw[qy,Mw]at hK;clear h;by_cases c1:ow[(j:Int).toNat]'ai<0
   .have f1:decide ((ow[(j:Int).toNat]'ai)<0)=true:=zL c1;rw[zD (λh=>h.1 (.inl c1))]at hK;refine T ?_;exact Ax (k+1) [] ⟨hK,de⟩ q_ U
   have f1:decide ((ow[(j:Int).toNat]'ai)<0)=false:=zK c1;by_cases c2:ow[(k:Int).toNat]'bd<0
   .have f2:decide ((ow[(k:Int).toNat]'bd)<0)=true:=zL c2;rw[zD (λh=>h.1 (.inr (.inl c2)))]at hK;refine T ?_;exact Ax (k+1) [] ⟨hK,de⟩ q_ U
   have f2:decide ((ow[(k:Int).toNat]'bd)<0)=false:=zK c2;by_cases c3:ow[(j:Int).toNat]'ai=ow[(k:Int).toNat]'bd
   .have f3:(ow[(j:Int).toNat]'ai==ow[(k:Int).toNat]'bd)=true:=by rw[yJ];exact c3
    rw[zD (λh=>h.1 (.inr (.inr c3)))]at hK;refine T ?_;exact Ax (k+1) [] ⟨hK,de⟩ q_ U
   have f3:(ow[(j:Int).toNat]'ai==ow[(k:Int).toNat]'bd)=false:=by rw[zU];exact c3
   have hn3:¬(ow[(j:Int).toNat]'ai<0\/ow[(k:Int).toNat]'bd<0\/ow[(j:Int).toNat]'ai=ow[(k:Int).toNat]'bd):=λh=>h.elim c1 λh=>h.elim c2 c3
   have q:=wayS n hn hu j k;generalize wayT n j k=wr at *;obtain ⟨wl,ok⟩:=wr;dsimp only at q hK;cases ok
   .rw[zD (λh=>Bool.noConfusion h.2)]at hK;refine gC q F60 ?_;exact Ax (k+1) [] ⟨hK,de⟩ q_ U
   .rw[zE ⟨hn3,rfl⟩]at hK;subst hK;dsimp only at hI;subst hI;refine gC q F60 ?_;exact D
  .have wz:k=ow.length:=qB h;rw[wz,wU,Mw]at hK;subst hK;clear h;dsimp only at hI;refine T ?_;exact Ax (j+1) [] ⟨hI,ab⟩ q_ U
 .have cu:j=ow.length:=qB h;rw[cu,wU,Sn]at hI;subst hI;clear h;exact gA
end
end Go.Sy.Zaa
