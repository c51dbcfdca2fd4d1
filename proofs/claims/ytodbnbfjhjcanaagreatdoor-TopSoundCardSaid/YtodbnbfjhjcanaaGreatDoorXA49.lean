/- Parts of a proof. -/
import Derived.Test.YtodbnbfjhjcanaaGreatDoorXA48
set_option maxHeartbeats 4000000
set_option linter.all false
namespace Go.Sy.Zaa
open Go.Proofs Go.Proofs.Tryz
def verify_iso{b c:List UInt8}(h:(verifyT b c).kind=1):(netTextT b).2.2=0/\(policyT c).2.2=0/\(assignT (netTextT b).1 (policyT c).1).2.2.2=0 /\
  Iso (netTextT b).1 (assignT (netTextT b).1 (policyT c).1).1/\okB (netTextT b).1 (Zg (netTextT b).1)=true:=by
 rcases Afm b c with hp|⟨e1,e3,hp⟩
 .rw[hp]at h;cases h
 rcases hp with ⟨_,hl⟩|⟨k,_⟩
 .obtain ⟨_,B,hc⟩:=Xx e1;exact⟨e1,Ab5 (by rw[h];decide),e3,⟨B,(J9 b).2,Ajo e1,Ada e3,hl⟩,Az6 B hc⟩
 .rw[k]at h;cases h
def Ar4{n:Net}{of:List Int}(I:Iso n of)(hk:okB n (Zg n)=true)(tabs:List (List EntryM))(l:List StepM)(t:Int):(reduceT n of tabs l t).2=0/\(runTabsT n tabs l).2=0/\(runTabsT n tabs (reduceT n of tabs l t).1).2=0/\(0<=t->Ed (runTabsT n tabs (reduceT n of tabs l t).1).1 of t=Ed (runTabsT n tabs l).1 of t):=by
 rw[reduceT,zE ⟨hk,I.ow⟩];dsimp only;rw[runTabsT,runTabsT,zE hk,zE hk];exact⟨E,E,E,λht=>I.reduce ht tabs l⟩
def S8 : List UInt8 := "device a 1 00:00:00:00:00:01\nport a p 1 access 10\nport a q 1 access 10".toUTF8.data.toList
def lQ:FrameM:=⟨281474976710655,5,0,[]⟩
def scrTS:List StepM:=[⟨1,0,0,0,[255,255,255,255,255,255,0,0,0,0,0,5,0,0],[]⟩,⟨2,0,0,0,[],[]⟩]
def Auo:FrameOK lQ:=⟨by decide,by decide,by decide,by decide⟩
def putTS:Mn lQ=[255,255,255,255,255,255,0,0,0,0,0,5,0,0]:=by decide
def okTS:(netTextT S8).2.2=0:=by decide +kernel
def runTS:(runT (netTextT S8).1 scrTS).2=0/\((runT (netTextT S8).1 scrTS).1.map (·.port))=[1]:=by decide +kernel
def Awt:ScriptOK scrTS:=by
 refine⟨by decide,λx hx=>?_⟩;simp only[scrTS,yH,xP,vQ]at hx;rcases hx with rfl|rfl<;>decide
attribute [local irreducible]G DR
set_option maxRecDepth 100000
def Ae5(s:ByteArray):(cutT 46 s).1.size<=s.size/\(cutT 46 s).2.1.size<=s.size:=by
 unfold cutT;split
 .simp only[ByteArray.size_extract];omega
 .exact⟨yG _,xX _⟩
def okH(k x y:Bool):Nat->Bool
 |0=>k
 |1=>k&&x
 |_=>k&&x&&y
def A2a(w:ByteArray)(hw:w.size<=100000):Sp 72 [Ar w] (.tup [.agg [Ar (Qe w).1,Ar (Qe w).2.1],Ab (Qe w).2.2]):=cT F72 ntmps72 λF hF=>by
 have q1:=Zl w 46 z_;have hs:=Ae5 w;have qa:=Ew (cutT 46 w).1 z_;have qb:=Ew (cutT 46 w).2.1 z_;simp only[Qe];generalize cutT 46 w=c at *;obtain ⟨a,b,k⟩:=c;dsimp only at *;generalize A1 a=x at *;generalize A1 b=y at *;refine gC q1 F68 ?_;refine X (Vy Γ.toTy (out:=[Ar a,Ar b]) E E E E E E) ?_;refine Ci (λj:Nat=>j<=2) (λj=>[(2,.ptr 2 0),(6,Ab (okH k x y j)),(7,.ptr 7 0),(19,.agg [Ar a,Ar b]),(20,Aa j)]) (λ_=>[(2,.box [.val (.string .empty),.val (.string .empty)]),(7,.box [Ar a,Ar b])]) (λj=>2-j) 0 [] z_ U ?_;intro j hj;obtain rfl|rfl|rfl:j=0\/j=1\/j=2:=by omega
 .refine T ?_;refine X (Cg (k:=.string) Γ.toTy E E E Tryz.underlying9 E E y_ y_ E) ?_;cases k
  .refine T ?_;exact Ay 1 [] y_ y_ U
  .refine gC qa F71 ?_;exact Ay 1 [] y_ y_ U
 .refine T ?_;refine X (Cg (k:=.string) Γ.toTy E E E Tryz.underlying9 E E y_ y_ E) ?_;cases k
  .refine T ?_;exact Ay 2 [] y_ y_ U
  .cases x
   .refine T ?_;exact Ay 2 [] y_ y_ U
   .refine gC qb F71 ?_;exact Ay 2 [] y_ y_ U
 .exact gA
def A06(w:List ByteArray)(row:Int)(h0:0<w.length)(hw:w.length<=100000)(hs:∀s∈w,s.size<=40):Sp 38 [.sl 1 Ar w,Aa row] (.tup [El (tenantT w row).1,Aa (tenantT w row).2]):=cT F38 ntmps38 λF hF=>by
 have aa:=tenantT.eq_1 w row;generalize tenantT w row=res at *;have wg:(0:Int).toNat<w.length:=h0;have e0:wdT w 0=w[(0:Int).toNat]'wg:=Dk h0;rw[e0]at aa;by_cases k1:w[(0:Int).toNat]'wg=Aqj;rotate_left
 .have f1:(w[(0:Int).toNat]'wg==(⟨#[116,101,110,97,110,116]⟩:ByteArray))=false:=by
   cases hb:(w[(0:Int).toNat]'wg==(⟨#[116,101,110,97,110,116]⟩:ByteArray))
   .rfl
   .exact zX ((Az9 _ _).1 hb) k1
  have f1':(!(w[(0:Int).toNat]'wg==(⟨#[116,101,110,97,110,116]⟩:ByteArray)))=true:=by rw[f1];rfl
  rw[zE (.inl k1)]at aa;subst aa;refine T ?_;exact Ak 4 (cellsOf (El Afs)) E vL D
 have f1:(w[(0:Int).toNat]'wg==(⟨#[116,101,110,97,110,116]⟩:ByteArray))=true:=(Az9 _ _).2 k1;have f1':(!(w[(0:Int).toNat]'wg==(⟨#[116,101,110,97,110,116]⟩:ByteArray)))=false:=by rw[f1];rfl
 by_cases k2:w.length<=2
 .have f2:decide ((w.length:Int)<=2)=true:=zK z_;rw[zE (.inr (.inl k2))]at aa;subst aa;refine T ?_;exact Ak 4 (cellsOf (El Afs)) E vL D
 have f2:decide ((w.length:Int)<=2)=false:=zL z_;by_cases k3:18<w.length
 .have f3:decide ((w.length:Int)>18)=true:=zK z_;rw[zE (.inr (.inr k3))]at aa;subst aa;refine T ?_;exact Ak 4 (cellsOf (El Afs)) E vL D
 have f3:decide ((w.length:Int)>18)=false:=zL z_;rw[zD (λh=>h.elim (λh=>h k1) λh=>h.elim k2 k3)]at aa;have j9:(1:Int).toNat<w.length:=by show 1<w.length;omega
 have e1:wdT w 1=w[(1:Int).toNat]'j9:=Dk (show 1<w.length by omega);rw[e1]at aa;have qn:=Ew (w[(1:Int).toNat]'j9) (by have:=hs _ (zI j9);omega);cases hn:A1 (w[(1:Int).toNat]'j9) with
 |false=>
  rw[hn]at qn;rw[zE hn]at aa;subst aa;refine gC qn F71 ?_;exact Ak 4 (cellsOf (El Afs)) E vL D
 |true=>
 rw[hn]at qn;rw[zD (by rw[hn];exact Bool.noConfusion)]at aa;have gl:(w.drop 2).length=w.length-2:=yP;have jh:∀s∈w.drop 2,s.size<=40:=λs h=>hs s (List.mem_of_mem_drop h)
 refine gC qn F71 ?_;refine X (Jr (lo:=2) (hi:=w.length) Γ.toTy (w.drop 2) E E E E (.inr ⟨_,_,E,E⟩) (.inl ⟨E,E⟩) z_ (yG _) (by rw[yM])) ?_;obtain ⟨nm,wi⟩:=kE (w[(1:Int).toNat]'j9);rw[wi]at aa|-;generalize w.drop 2=v at *;refine O1 6 2 1001 1 Ar E E E E ?_;refine O1 6 3 1002 1 Ar E E E E ?_;refine Ci (λx:Nat×List ByteArray×List ByteArray=>res=nI ⟨row,nm,x.2.1,x.2.2⟩ (v.drop x.1)/\x.1<=v.length/\x.2.1.length=x.1/\x.2.2.length=x.1) (λx=>[(4,.ptr 4 0),(6,.ptr 6 0),(37,.sl 1 Ar v),(38,Aa v.length),(39,Aa x.1)]) (λx=>[(4,.box [Aa 0,.val (.string .empty),svN,svN]),(6,.box [Aa row,Ar nm,.osl 1001,.osl 1002]),(1001,.row 1 Ar x.2.1),(1002,.row 1 Ar x.2.2)]) (λx=>v.length-x.1) (0,[],[]) [] ⟨aa,by simp,E,E⟩ U ?_;rintro ⟨j,ds,ps⟩ ⟨hI,hj,hd,hp⟩;dsimp only at hI hj hd hp|-;refine gL ?_ ?_<;>intro h
 .have ab:j<v.length:=qA h;have aj:(j:Int).toNat<v.length:=ab;clear h;have es:v.drop j=v[(j:Int).toNat]'aj::v.drop (j+1):=yO ab;rw[es,nI]at hI;have q:=A2a (v[(j:Int).toNat]'aj) (by have:=jh _ (zI aj);omega);generalize Qe (v[(j:Int).toNat]'aj)=hv at *;obtain ⟨a,b,ok⟩:=hv;dsimp only at hI q;cases ok
  .rw[zE rfl]at hI;subst hI;refine gC q F72 ?_;exact Ak 4 (cellsOf (El Afs)) E vL D
  .rw[zD (by exact Bool.noConfusion)]at hI;refine gC q F72 ?_;refine Xd (Ah Γ.toTy 56 E E E E E (.row E) (.lit (e:=Ar) (l:=[a]) E E) qq kO kO) ?_;refine Xd (Ah Γ.toTy 62 E E E E E (.row E) (.lit (e:=Ar) (l:=[b]) E E) qq kO kO) ?_;exact Ay (j+1,ds++[a],ps++[b]) [(1001,56),(1002,62)] ⟨hI,ab,by simp;omega,by simp;omega⟩ (by dsimp only;omega) U
 .have cq:j=v.length:=qB h;rw[cq,wR,nI]at hI;subst hI;clear h;refine T ?_;exact Aj 1001 E (Aj 1002 E D)
def eK(b:List UInt8)(hb:b.length<=1000000):Sp 15 [.sl 1 Al b] (.tup [.sl 4 El (policyT b).1,Aa (policyT b).2.1,Aa (policyT b).2.2]):=cT F15 ntmps15 λF hF=>by
 have q1:=Ad8 b hb;have aa:=policyT.eq_1 b;have jx:=O7 b;generalize policyT b=res at *;generalize rowsT b=rt at *;obtain ⟨bl,e0⟩:=rt;dsimp only at aa jx q1;obtain ⟨hlen,bg⟩:=jx;by_cases ui:e0=0;rotate_left
 .have f0:(e0 != 0)=true:=by rw[xC];exact ui
  rw[zE ui]at aa;subst aa;refine gC q1 F36 ?_;exact Ao 2 4 El E D
 have f0:(e0 != 0)=false:=by rw[ui];rfl
 rw[zD (λh=>h ui)]at aa;subst ui;refine gC q1 F36 ?_;refine B6 2 1000 4 El E E ?_;refine Ci (λx:Nat×List TenM=>res=Ks x.1 x.2 (bl.drop x.1)/\x.1<=bl.length/\x.2.length<=x.1) (λx=>[(2,.osl 1000),(19,.sl 1 Ar bl),(20,Aa bl.length),(21,Aa x.1)]) (λx=>[(1000,.row 4 El x.2)]) (λx=>bl.length-x.1) (0,[]) [] ⟨aa,by simp,by simp⟩ U ?_;rintro ⟨j,out⟩ ⟨hI,hj,kx⟩;dsimp only at hI hj kx|-;refine gL ?_ ?_<;>intro h
 .have ab:j<bl.length:=qA h;have aq:(j:Int).toNat<bl.length:=ab;have hr:(bl[(j:Int).toNat]'aq).size<=20000:=bg _ (zI _);have es:bl.drop j=bl[(j:Int).toNat]'aq::bl.drop (j+1):=yO ab;rw[es,Ks]at hI;clear h;have q2:=Aac (bl[(j:Int).toNat]'aq) z_;have jr:=S4 (bl[(j:Int).toNat]'aq) hr;generalize wordsT (bl[(j:Int).toNat]'aq)=wt at *;obtain ⟨ws,we⟩:=wt;dsimp only at hI jr q2;by_cases he:we=0;rotate_left
  .have f1:(we==0)=false:=by rw[zT];exact he
   have f2:(we != 0)=true:=by rw[xC];exact he
   rw[zE he]at hI;subst hI;refine gC q2 F37 ?_;exact Ao 2 4 El E D
  subst he;rw[zD (λh=>h rfl)]at hI;by_cases lm:ws.length=0
  .rw[zE (yB lm)]at hI;have f1:((ws.length:Int)==0)=true:=by rw[lm];rfl
   refine gC q2 F37 ?_;exact Ay (j+1,out) [] ⟨hI,ab,by dsimp only;omega⟩ (by dsimp only;omega) U
  rw[zD (λe=>lm (by rw[e];rfl))]at hI;have f1:((ws.length:Int)==0)=false:=by rw[zT];omega
  have q3:=A06 ws ((j:Int)+1) z_ z_ jr.2;generalize tenantT ws ((j:Int)+1)=st at *;obtain ⟨t,se⟩:=st;dsimp only at hI q3;by_cases hs:se=0;rotate_left
  .have f2:(se==0)=false:=by rw[zT];exact hs
   have f3:(se != 0)=true:=by rw[xC];exact hs
   rw[zE hs]at hI;subst hI;refine gB q2 F37 q3 F38 ?_;exact Ao 2 4 El E D
  subst hs;rw[zD (λh=>h rfl)]at hI;by_cases j9:out.length=10
  .have f2:((out.length:Int)==10)=true:=by rw[j9];rfl
   rw[zE j9]at hI;subst hI;refine gB q2 F37 q3 F38 ?_;exact Ao 2 4 El E D
  have f2:((out.length:Int)==10)=false:=by rw[zT];omega
  rw[zD j9]at hI;refine gB q2 F37 q3 F38 ?_;refine X (Ah Γ.toTy 62 E E E E E (.row E) (.lit (e:=El) (l:=[t]) E E) qq kO kO) ?_;exact Ay (j+1,out++[t]) [(1000,62)] ⟨hI,ab,by simp;omega⟩ (by dsimp only;omega) U
 .have cq:j=bl.length:=qB h;rw[cq,wR,Ks]at hI;subst hI;clear h;refine T ?_;exact Aj 1000 E D
def Anz{n:Net}{ow:List Int}(h:Hb n ow=true):ow.length=n.ports.length:=by
 simp only[Hb,zG,zJ]at h;exact h.1.1
def leaksS(n:Net)(hn:n.Fin)(hu:C7 n)(ow:List Int):Sp 32 [Am n,.sl 1 Aa ow] (.tup [Aa (leaksT n ow).1,Aa (leaksT n ow).2.1,Ab (leaksT n ow).2.2]):=cT F32 ntmps32 λF hF=>by
 have q0:=Z6 n hn ow;have aa:=leaksT.eq_1 n ow;generalize leaksT n ow=res at *;cases ho:Hb n ow with
 |false=>
  rw[ho]at q0;rw[zE ho]at aa;subst aa;refine gC q0 F24 ?_;exact D
 |true=>
 have kx:=Anz ho;have nh:n.ports.length<2147483648:=hn.ports;rw[ho]at q0;rw[zD (by rw[ho];exact Bool.noConfusion)]at aa;refine gC q0 F24 ?_;refine Ci (λj:Nat=>res=Yv n ow j (ow.drop j)/\j<=ow.length) (λj=>[(1,.sl 1 Aa ow),(2,.ptr 2 0),(17,.sl 1 Aa ow),(18,Aa ow.length),(19,Aa j)]) (λ_=>[(2,.box (C8 n))]) (λj=>ow.length-j) 0 [] ⟨aa,by omega⟩ U ?_;rintro j ⟨hI,hj⟩;refine gL ?_ ?_<;>intro h
 .have ab:j<ow.length:=qA h;have aj:(j:Int).toNat<ow.length:=ab;have es:ow.drop j=ow[(j:Int).toNat]'aj::ow.drop (j+1):=yO ab;rw[es,Yv]at hI;clear h;obtain ⟨R,hR⟩:=kE (Tv n ow j (ow[(j:Int).toNat]'aj) 0 ow);rw[hR]at hI;refine T ?_;refine Ci (λk:Nat=>Tv n ow j (ow[(j:Int).toNat]'aj) k (ow.drop k)=R/\k<=ow.length) (λk=>[(1,.sl 1 Aa ow),(2,.ptr 2 0),(7,Aa j),(8,Aa (ow[(j:Int).toNat]'aj)),(17,.sl 1 Aa ow),(18,Aa ow.length),(19,Aa j),(24,.sl 1 Aa ow),(25,Aa ow.length),(26,Aa k)]) (λ_=>[(2,.box (C8 n))]) (λk=>ow.length-k) 0 [] ⟨hR,by omega⟩ U ?_;rintro k ⟨hK,hk⟩;refine gL ?_ ?_<;>intro h
  .have db:k<ow.length:=qA h;have bh:(k:Int).toNat<ow.length:=db;have yz:ow.drop k=ow[(k:Int).toNat]'bh::ow.drop (k+1):=yO db;rw[yz,Tv]at hK;clear h;by_cases c1:ow[(j:Int).toNat]'aj<0
   .have f1:decide ((ow[(j:Int).toNat]'aj)<0)=true:=zK c1;rw[zD (λh=>h.1 (.inl c1))]at hK;refine T ?_;exact Ay (k+1) [] ⟨hK,db⟩ z_ U
   have f1:decide ((ow[(j:Int).toNat]'aj)<0)=false:=zL c1;by_cases c2:ow[(k:Int).toNat]'bh<0
   .have f2:decide ((ow[(k:Int).toNat]'bh)<0)=true:=zK c2;rw[zD (λh=>h.1 (.inr (.inl c2)))]at hK;refine T ?_;exact Ay (k+1) [] ⟨hK,db⟩ z_ U
   have f2:decide ((ow[(k:Int).toNat]'bh)<0)=false:=zL c2;by_cases c3:ow[(j:Int).toNat]'aj=ow[(k:Int).toNat]'bh
   .have f3:(ow[(j:Int).toNat]'aj==ow[(k:Int).toNat]'bh)=true:=by rw[yJ];exact c3
    rw[zD (λh=>h.1 (.inr (.inr c3)))]at hK;refine T ?_;exact Ay (k+1) [] ⟨hK,db⟩ z_ U
   have f3:(ow[(j:Int).toNat]'aj==ow[(k:Int).toNat]'bh)=false:=by rw[zT];exact c3
   have hn3:¬(ow[(j:Int).toNat]'aj<0\/ow[(k:Int).toNat]'bh<0\/ow[(j:Int).toNat]'aj=ow[(k:Int).toNat]'bh):=λh=>h.elim c1 λh=>h.elim c2 c3
   have q:=wayS n hn hu j k;generalize wayT n j k=wr at *;obtain ⟨wl,ok⟩:=wr;dsimp only at q hK;cases ok
   .rw[zD (λh=>Bool.noConfusion h.2)]at hK;refine gC q F60 ?_;exact Ay (k+1) [] ⟨hK,db⟩ z_ U
   .rw[zE ⟨hn3,rfl⟩]at hK;subst hK;dsimp only at hI;subst hI;refine gC q F60 ?_;exact D
  .have u0:k=ow.length:=qB h;rw[u0,wR,Tv]at hK;subst hK;clear h;dsimp only at hI;refine T ?_;exact Ay (j+1) [] ⟨hI,ab⟩ z_ U
 .have cq:j=ow.length:=qB h;rw[cq,wR,Yv]at hI;subst hI;clear h;exact gA
end Go.Sy.Zaa
