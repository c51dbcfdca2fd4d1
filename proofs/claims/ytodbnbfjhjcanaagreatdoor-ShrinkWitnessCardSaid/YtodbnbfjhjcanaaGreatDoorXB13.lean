/- Parts of a proof. -/
import Derived.Test.YtodbnbfjhjcanaaGreatDoorXB12
set_option maxHeartbeats 4000000
set_option linter.all false
namespace Go.Sy.Zaa
open Go.Proofs Go.Proofs.Tryz
attribute [local irreducible]G DR
set_option maxRecDepth 100000
def F139:Fun prog 139 Tryz.f139 (Ady Tryz.f139):=⟨func139,rfl,by kernel_rfl⟩
def F221:Fun prog 221 Tryz.f221 (Ady Tryz.f221):=⟨func221,rfl,by kernel_rfl⟩
def Aa0(s p:ByteArray):Sp 261 [As s,As p] (As (mkT (Lib.trimPrefix s.data.toList p.data.toList))) :=
 Spec.of_calls λk w vs hi hr _=>by
  simp only[RdL]at hr;obtain ⟨v,r,rfl,h3,u,r',rfl,h4,rfl⟩:=hr;have h3':v=.string s:=by simpa only [As,Rd] using h3
  have h4':u=.string p:=by simpa only [As,Rd] using h4
  subst h3' h4';exact(Tryz.strings_TrimPrefix s p w).mono λe w' ⟨he,hw⟩=>⟨he,hw▸RowKit.Below.refl _ _⟩
def Aq2(s:ByteArray)(c:UInt8)(m:Int)(hm:Lib.indexByte s.data.toList c=m):Sp 221 [As s,As ⟨#[c]⟩] (Aa m) :=
 Spec.of_calls λk w vs hi hr _=>by
  subst hm;simp only[RdL]at hr;obtain ⟨v,r,rfl,h3,u,r',rfl,h4,rfl⟩:=hr;have h3':v=.string s:=by simpa only [As,Rd] using h3
  have h4':u=.string ⟨#[c]⟩:=by simpa only [As,Rd] using h4
  subst h3' h4';exact(Tryz.stringslite_Index_one s c w).mono λe w' ⟨he,hw⟩=>⟨he,hw▸RowKit.Below.refl _ _⟩
def cutT(c:UInt8)(s:ByteArray):ByteArray×ByteArray×Bool :=
 if 0<=Lib.indexByte s.data.toList c then (s.extract 0 (Mi c s.data.toList),s.extract (Mi c s.data.toList+1) s.size,true) else (s,⟨#[]⟩,false)
def Us(l:List UInt8)(c:UInt8):Lib.indexByte l c<l.length:=by
 induction l with
 |nil=>simp[Lib.indexByte]
 |cons b l ih=>
  unfold Lib.indexByte;rw[yM];split
  .omega
  split
  .omega
  .omega
def A1m(s:ByteArray)(c:UInt8)(hs:s.size<=1000000000):Sp 139 [As s,As ⟨#[c]⟩] (.tup [As (cutT c s).1,As (cutT c s).2.1,Ab (cutT c s).2.2]):=cT F139 ntmps139 λF hF=>by
 have aa:=cutT.eq_1 c s;generalize cutT c s=res at *;have ab:=Us s.data.toList c;have bg:s.data.toList.length=s.size:=rfl;have hid:Mi c s.data.toList=(Lib.indexByte s.data.toList c).toNat:=rfl;obtain ⟨m,ui⟩:=kE (Lib.indexByte s.data.toList c);have q:=Aq2 s c m ui;rw[ui]at aa ab hid;refine gP q F221 ?_;refine gJ ?_ ?_<;>intro h
 .have h0:0<=m:=zO h;rw[zE h0,hid]at aa;have e1:(m+1).toNat=m.toNat+1:=by omega
  have uo:(⟨#[c]⟩:ByteArray).size=1:=rfl;subst aa;refine fU ?_;refine⟨⟨by omega,by omega,by omega⟩,?_⟩;refine fW ?_;refine⟨by show I64 (m+1);unfold I64;omega,?_⟩;refine fW ?_;refine⟨⟨by omega,by omega,by omega⟩,?_⟩;refine fW ?_;refine⟨z_,?_⟩;refine fW ?_;refine Ar E (.cons .tmp (.cons .tmp Aq)) ?_ E;show SV.tup [As _,As (s.extract (m.toNat+1) s.size),_]=SV.tup [As _,As (s.extract (m+1).toNat _),_];rw[e1];rfl
 .have h0:¬0<=m:=zT h;rw[zD h0]at aa;subst aa;exact gD
def aZ(s:ByteArray)(c:UInt8)(hs:s.size<=1000000000):Sp 68 [As s,As ⟨#[c]⟩] (.tup [As (cutT c s).1,As (cutT c s).2.1,Ab (cutT c s).2.2]):=cT F68 ntmps68 λF hF=>by
 have q:=A1m s c hs;generalize cutT c s=res at *;refine gP q F139 ?_;exact gD
def Ym(l:List UInt8):Int:=l.foldl (λn c=>10*n+((c.toNat:Int)-48)) 0
def Alt(s:ByteArray):Bool:=s.data.toList.head?==some 45
def M3(s:ByteArray):List UInt8:=if Alt s=true then s.data.toList.drop 1 else s.data.toList
def numV(s:ByteArray):Int:=if Alt s=true then 0-Ym (M3 s) else Ym (M3 s)
def numR(s:ByteArray)(lo hi:Int):Int×Bool :=
 if (M3 s).length<1\/10<(M3 s).length then (0,false) else if (M3 s).all Lp=false then (0,false)
 else if numV s<lo\/hi<numV s then (0,false) else if (Alm (numV s)==s)=true then (numV s,true) else (0,false)
def Ag1(l:List UInt8)(c:UInt8):Ym (l++[c])=10*Ym l+((c.toNat:Int)-48):=by
 rw[Ym,xP];rfl
def At7:∀(k:Nat) (l:List UInt8),l.length=k->(∀c∈l,Lp c=true)->0<=Ym l/\Ym l<10^k
 |0,l,hl,_=>by
  rw[vA.1 hl];exact⟨xZ _,by decide⟩
 |k+1,l,hl,h=>by
  have af:l≠[]:=λe=>by rw[e]at hl;cases hl
  have e:=uC af;have h1:=At7 k l.dropLast (by rw[tG];omega) λc hc=>h c (List.dropLast_subset l hc)
  have h2:=h _ (List.getLast_mem af);simp only[Lp,zG,zJ]at h2;rw[<-e,Ag1,Int.pow_succ];omega
def A5f{l:List UInt8}(hl:l.length<=10)(h:∀c∈l,Lp c=true):0<=Ym l/\Ym l<10000000000:=by
 have h1:=At7 _ l rfl h;refine⟨h1.1,Int.lt_of_lt_of_le h1.2 ?_⟩;have h2:(10:Nat)^l.length<=10^10:=vE j_ hl;have h3:((10:Nat)^l.length:Int)<=((10^10:Nat):Int):=by exact_mod_cast h2
 simpa using h3
def Ay1(s:ByteArray):Lib.trimPrefix s.data.toList [45]=M3 s:=by
 unfold Lib.trimPrefix M3 Alt;cases s.data.toList with
 |nil=>simp[Lib.hasPrefix]
 |cons c l=>
  by_cases hc:c=45
  .subst hc;simp[Lib.hasPrefix]
  .simp[Lib.hasPrefix,hc,Ne.symm hc]
def Aao{s:ByteArray}{i:Nat}(h:i<s.data.toList.length):Bw s i=s.data.toList[i]:=by
 rw[Bw,wJ,zR h];rfl
def Ayu{α:Type}{p:α->Bool}{l:List α}{j:Nat}(hI:El (λ_ x=>p x) l j):∀c∈l.take j,p c=true:=by
 intro c hc;obtain ⟨i,hi,rfl⟩:=yY.1 hc;rw[zY]at hi;rw[wD];exact hI i q_ q_
def lD{α:Type}{p:α->Bool}{l:List α}{j:Nat}(hI:El (λ_ x=>p x) l j)(hj:l.length<=j):l.all p=true:=by
 rw[yT];intro x hx;obtain ⟨i,hi,rfl⟩:=yY.1 hx;exact hI i hi q_
def all_at'{α:Type}{p:α->Bool}{l:List α}{j:Nat}(hj:j<l.length)(h:p l[j]=false):l.all p=false:=by
 cases ha:l.all p
 .rfl
 .rw[yT]at ha;rw[ha _ (zI hj)]at h;cases h
def u8_sub2{c:UInt8}(h:Lp c=true):IntKind.i64.wrap (IntKind.u8.wrap ((c.toNat:Int)-48))=(c.toNat:Int)-48:=by
 simp only[Lp,zG,zJ]at h;rw[IntKind.wrap_u8,IntKind.wrap_i64];omega
def neg_digs{s:ByteArray}(h:Alt s=true):(M3 s).length+1=s.size/\∀j,j<(M3 s).length->Bw s (1+j)=(M3 s).getD j 0:=by
 have bg:s.data.toList.length=s.size:=rfl;rw[M3,zE h];rw[Alt]at h;cases hd:s.data.toList with
 |nil=>rw[hd]at h;cases h
 |cons c l=>
  rw[hd]at bg;refine⟨by simp at bg|-;omega,λj hj=>?_⟩;rw[Bw,hd,tQ];rfl
def pos_digs{s:ByteArray}(h:Alt s=false):(M3 s).length=s.size/\∀j,j<(M3 s).length->Bw s j=(M3 s).getD j 0:=by
 rw[M3,zD (by simp[h])];exact⟨E,λj hj=>rfl⟩
def Alo(s:ByteArray)(lo hi:Int):Sp 206 [As s,Aa lo,Aa hi] (.tup [Aa (numR s lo hi).1,Ab (numR s lo hi).2]):=cT F206 ntmps206 λF hF=>by
 have aa:=numR.eq_1 s lo hi;generalize numR s lo hi=res at *;have q:=Aa0 s ⟨#[45]⟩;rw[show (⟨#[45]⟩:ByteArray).data.toList=[45] from rfl,Ay1]at q;have hnv:=numV.eq_1 s;have xr:=@neg_digs s;have ov:=@pos_digs s;generalize numV s=nv at *;generalize hD:M3 s=D at *;have hDs:(mkT D).size=D.length:=I4 D;refine gP q F261 ?_;by_cases h1:D.length<1\/10<D.length
 .rw[zE h1]at aa;subst aa;refine gJ ?_ ?_<;>intro h
  .exact gD
  .have h2:1<=D.length:=by
    cases D with
    |nil=>exact yA (show (mkT []==(⟨#[]⟩:ByteArray))=true from rfl) (by rw[show (mkT []==(⟨#[]⟩:ByteArray))=false from h];simp)
    |cons=>simp
   refine gJ ?_ ?_<;>intro h
   .exact gD
   .exact yA (zT h) q_
 rw[zD h1]at aa;have af:(mkT D==(⟨#[]⟩:ByteArray))=false:=by
  cases he:(mkT D==(⟨#[]⟩:ByteArray))
  .rfl
  .have e:(mkT D).data=(⟨#[]⟩:ByteArray).data:=by simpa using (show ((mkT D).data==(⟨#[]⟩:ByteArray).data)=true from he)
   have:=zH Array.size e;have e2:(mkT D).data.size=D.length:=hDs;rw[e2]at this;have e3:(⟨#[]⟩:ByteArray).data.size=0:=rfl;omega
 refine fU ?_;refine⟨λh=>yA h (by rw[af];simp),λ_=>?_⟩;refine fU ?_;refine⟨λh=>yA (zO h) q_,λ_=>?_⟩;refine fU ?_;refine Ba D.length (λj=>El (λ_ c=>Lp c) D j) (λj=>[(0,As s),(1,Aa lo),(2,Aa hi),(8,As (mkT D)),(9,Aa (Ym (D.take j))),(21,Aa D.length),(22,Aa j)]) (λ_=>[]) [] (Bi _ _)
  ⟨⟨rfl,rfl,rfl,rfl,rfl,rfl,rfl,rfl,rfl,rfl,zH (λz:Nat=>SV.val (.int .i64 z)) hDs.symm,rfl,rfl,rfl,trivial⟩,trivial,rfl,rfl⟩ ?_
 intro j hj hI;have hv:=A5f (l:=D.take j) (by rw[zY];omega) (Ayu hI);refine gJ ?_ ?_<;>intro h
 .have ab:j<D.length:=qA h;have hb:Bw (mkT D) (j:Int).toNat=D[j]:=by
   have:j<(mkT D).data.toList.length:=by rw[K7];exact ab
   rw[zZ,Aao this];simp[mkT]
  have cw:=λh=>@all_at' _ Lp D j ab h
  have ej:=λh=>Bd (p:=λ_ c=>Lp c) hI ab h
  have ag:Ym (D.take (j+1))=10*Ym (D.take j)+((D[j].toNat:Int)-48):=by rw[yD ab,Ag1]
  have hu:=@u8_sub2 D[j];generalize D[j]=c at *;generalize Ym (D.take j)=v at *;have lr:=c.toNat_lt;refine fU ?_;refine⟨by omega,by omega,?_⟩;rw[hb];refine fW ?_;constructor<;>intro h2
  .have h3:c.toNat<48:=by have:=zO h2;omega
   rw[zE (cw (by rw[Lp,zK q_];rfl))]at aa;subst aa;exact gD
  have h2:=zT h2;refine fU ?_;refine⟨by omega,by omega,?_⟩;rw[hb];refine fW ?_;constructor<;>intro h3
  .have h3:57<c.toNat:=by have:=zO h3;omega
   rw[zE (cw (by rw[Lp,zK (by omega:¬c.toNat<=57),wR]))]at aa;subst aa;exact gD
  have h3:=zT h3;have hdg:Lp c=true:=by rw[Lp,zL q_,zL q_];rfl
  have hu:=hu hdg;refine fU ?_;refine⟨by show I64 (10*v);unfold I64;omega,?_⟩;refine fW ?_;refine⟨by omega,by omega,?_⟩;rw[hb];refine fW ?_;rw[hu];refine⟨by show I64 (10*v+((c.toNat:Int)-48));unfold I64;omega,?_⟩;refine gO ?_;exact A8 [] hI q_ (ej hdg) ⟨⟨E,E,E,E,E,E,E,E,zH Aa ag,E,E,E,E,E,Y⟩,Y,E,E⟩
 .have cu:j=D.length:=qB h;subst cu;rw[zD (by rw[lD hI (yE _)];simp)]at aa;rw[yN]at hv|-;have fin:∀nv:Int,nv=(if Alt s=true then 0-Ym D else Ym D)->(-10000000000<nv/\nv<10000000000)/\Ajx nv:=λnv h=>by
   unfold Ajx;split at h<;>omega
  have fn:=fin nv hnv;have q2:=Awg nv fn.2;have jn:((mkT D).size:Int)=D.length:=by rw[hDs]
  cases hn:Alt s
  .rw[hn,zD y_]at hnv;have h4:=(ov hn).1;rw[<-hnv];refine fU ?_;refine⟨λh=>yA (zO h) q_,λ_=>?_⟩;refine gJ ?_ ?_<;>intro h
   .rw[zE (.inl (zO h))]at aa;subst aa;exact gD
   have h5:=zT h;refine gJ ?_ ?_<;>intro h
   .rw[zE (.inr (zO h))]at aa;subst aa;exact gD
   have h6:=zT h;rw[zD q_]at aa;refine gM q2 F262 ?_;cases he:(Alm nv==s)
   .rw[he,zD y_]at aa;subst aa;refine fU ?_;refine⟨λ_=>?_,λh=>yA h (by rw[he];simp)⟩;exact gD
   .rw[he,zE rfl]at aa;subst aa;refine fU ?_;refine⟨λh=>yA h (by rw[he];simp),λ_=>?_⟩;exact gD
  .rw[hn,zE rfl]at hnv;have h4:=(xr hn).1;have hw:IntKind.i64.wrap (0-Ym D)=nv:=by rw[IntKind.wrap_i64];omega
   refine fU ?_;refine⟨λ_=>?_,λh=>yA (zT h) q_⟩;refine fU ?_;rw[hw];constructor<;>intro h
   .rw[zE (.inl (zO h))]at aa;subst aa;exact gD
   have h5:=zT h;refine gJ ?_ ?_<;>intro h
   .rw[zE (.inr (zO h))]at aa;subst aa;exact gD
   have h6:=zT h;rw[zD q_]at aa;refine gM q2 F262 ?_;cases he:(Alm nv==s)
   .rw[he,zD y_]at aa;subst aa;refine fU ?_;refine⟨λ_=>?_,λh=>yA h (by rw[he];simp)⟩;exact gD
   .rw[he,zE rfl]at aa;subst aa;refine fU ?_;refine⟨λh=>yA h (by rw[he];simp),λ_=>?_⟩;exact gD
def Ld:∀(l:List UInt8) (c:UInt8),-1<=Lib.indexByte l c
 |[],_=>by simp[Lib.indexByte]
 |b::l,c=>by
  unfold Lib.indexByte;have:=Ld l c;split
  .omega
  split
  .omega
  .omega
def Hr:List UInt8->List UInt8->List ByteArray
 |cur,[]=>if cur=[] then [] else [mkT cur]
 |cur,c::r=>if c=10 then mkT cur::Hr [] r else Hr (cur++[c]) r
def rowsT(b:List UInt8):List ByteArray×Int :=
 if 20000<b.length then ([],3) else if 400<(Hr [] b).length then ([],3) else (Hr [] b,0)
def lT:∀(l cur:List UInt8),Lib.indexByte l 10=-1->Hr cur l=if cur++l=[] then [] else [mkT (cur++l)]
 |[],cur,_=>by rw[Hr,xD]
 |c::l,cur,h=>by
  unfold Lib.indexByte at h;by_cases hc:(c==10)=true
  .rw[zE hc]at h;omega
  rw[zD hc]at h;have hi:Lib.indexByte l 10=-1:=by
   by_cases h1:(Lib.indexByte l 10 == -1)=true
   .simpa using h1
   .rw[zD h1]at h;have:=Ld l 10;omega
  rw[Hr,zD (kS hc),lT l _ hi];simp
def lS:∀(l cur:List UInt8),0<=Lib.indexByte l 10->Hr cur l=mkT (cur++l.take (Lib.indexByte l 10).toNat)::Hr [] (l.drop ((Lib.indexByte l 10).toNat+1))
 |[],cur,h=>by simp[Lib.indexByte]at h
 |c::l,cur,h=>by
  unfold Lib.indexByte at h|-;by_cases hc:(c==10)=true
  .rw[zE hc,Hr,zE (kS hc)];simp
  rw[zD hc]at h|-;by_cases h1:(Lib.indexByte l 10 == -1)=true
  .rw[zE h1]at h;omega
  rw[zD h1]at h|-;have:=Ld l 10;have h2:0<=Lib.indexByte l 10:=by
   have h3:Lib.indexByte l 10≠-1:=kS h1;omega
  have e:(Lib.indexByte l 10+1).toNat=(Lib.indexByte l 10).toNat+1:=by omega
  rw[Hr,zD (kS hc),lS l _ h2,e];simp
def Apv{l:List UInt8}(h:l≠[]):Hr [] l=(cutT 10 (mkT l)).1::Hr [] (cutT 10 (mkT l)).2.1.data.toList/\(cutT 10 (mkT l)).2.1.data.toList.length<l.length:=by
 have ee:=xS.2 h;have ab:=Us l 10;have xx:=Ld l 10;have e0:(mkT l).size=l.length:=I4 l;rw[cutT,K7];split
 .rename_i h0;dsimp only;rw[lS l [] h0,E8,E8,K7,e0,yN];refine⟨E,?_⟩;rw[yP];omega
 .rename_i h0;dsimp only;rw[lT l [] q_,wL,zD h];exact⟨E,ee⟩
def Awl(l:List UInt8):(mkT l == ⟨#[]⟩)=decide (l=[]):=by
 cases l with
 |nil=>rfl
 |cons c l=>
  rw[zK y_];cases he:(mkT (c::l)==(⟨#[]⟩:ByteArray))
  .rfl
  .have e:(mkT (c::l)).data=(⟨#[]⟩:ByteArray).data:=by simpa using (show ((mkT (c::l)).data==(⟨#[]⟩:ByteArray).data)=true from he)
   have:=zH Array.size e;simp[mkT]at this
def Aga(b:List UInt8)(hb:b.length<=1000000):Sp 36 [.sl 1 Al b] (.tup [.sl 1 As (rowsT b).1,Aa (rowsT b).2]):=cT F36 ntmps36 λF hF=>by
 have aa:=rowsT.eq_1 b;generalize rowsT b=res at *;refine fW ?_;constructor<;>intro h
 .rw[zE (qA h)]at aa;subst aa;refine fU ?_;exact Ao 2 1 As E gD
 rw[zD (qB h)]at aa;refine fU ?_;refine Aj (Lh Γ.toTy (bs:=b) E E E E E E E .sl) E E ?_;refine Ca 4 1000 1 As E E (fU ?_);refine Cd (λx:List ByteArray×List UInt8=>Hr [] b=x.1++Hr [] x.2/\x.1.length+x.2.length<=b.length) (λx=>[(4,.osl 1000),(5,As (mkT x.2))]) (λx=>[(1000,.row 1 As x.1)]) (λx=>x.2.length) ([],b) [] ⟨E,by simp⟩
  kU ?_
 rintro ⟨out,rest⟩ ⟨hI,hlen⟩;dsimp only at hI hlen|-;have tm:=Awl rest;refine fU ?_;by_cases hr:rest=[]
 .rw[zL hr]at tm;refine⟨λh=>yA h (by rw[tm];simp),λ_=>?_⟩;have ji:Hr [] b=out:=by rw[hI,hr];simp[Hr]
  rw[ji]at aa;refine gJ ?_ ?_<;>intro h
  .rw[zE (qA h)]at aa;subst aa;refine fU ?_;exact Ao 2 1 As E gD
  .rw[zD (qB h)]at aa;subst aa;exact Ai 1000 E gD
 .rw[zK hr]at tm;refine⟨λ_=>?_,λh=>yA h (by rw[tm];simp)⟩;obtain ⟨hc,ab⟩:=Apv hr;have q:=aZ (mkT rest) 10 (by rw[I4];omega);obtain ⟨⟨row,rs,yx⟩,hct⟩:∃p,cutT 10 (mkT rest)=p:=⟨_,rfl⟩
  rw[hct]at q hc ab;dsimp only at q hc ab;have hrz:rs.data.toList.length=rs.size:=rfl;refine gM q F68 ?_;refine fU ?_;refine Aj (Ah Γ.toTy 23 E E E E E (.row E) (.lit (e:=As) (l:=[row]) E E) y_ kO kO) E E (fU ?_);refine Ax (out++[row],rs.data.toList) [(1000,23)] ⟨by rw[hI,hc];simp,by simp;omega⟩ (by dsimp only;omega) ⟨⟨E,E,zH As (K6 rs),E,Y⟩,⟨.inl E,E,Y⟩,E,E⟩
end Go.Sy.Zaa
namespace Go.Sy.Zaa
section
variable {α:Type}
def As3(p:α->Bool):List α->Nat
 |[]=>0
 |a::l=>if As3 p l=l.length/\p a=true then l.length+1 else As3 p l
def insE(lt:α->α->Bool)(x:α)(l:List α):List α:=l.take (l.length-As3 (lt x) l)++x::l.drop (l.length-As3 (lt x) l)
def Akm(lt:α->α->Bool):List α->List α->List α
 |out,[]=>out
 |out,x::l=>Akm lt (insE lt x out) l
def A52(lt:α->α->Bool)(l:List α):List α:=Akm lt [] l
end
section
variable {α:Type}
def bs(lt:α->α->Bool)(s:Nat)(l:List α):List α :=
 if h:s=0\/l.length<=s then A52 lt l else A52 lt (l.take s)++bs lt s (l.drop s)
termination_by l.length
decreasing_by
 simp only[yP];omega
end
section
variable {α:Type}
end
section
variable {α β:Type}
end
open Go.Proofs Go.Proofs.Tryz
structure LineM where
 row:Int
 kind:Int
 dev:ByteArray
 port:ByteArray
 peer:ByteArray
 far:ByteArray
 name:ByteArray
 mac:Int
 addr:Int
 bits:Int
 vlan:Int
 num:Int
 cost:Int
 tagged:List Int
 imports:List Int
 exports:List Int
 addrs:List Int
def Cj(l:LineM):List SV:=[Aa l.row,Aa l.kind,As l.dev,As l.port,As l.peer,As l.far,As l.name,Bl l.mac,Be l.addr,Aa l.bits,Aa l.vlan,Aa l.num,Aa l.cost,.sl 1 Aa l.tagged,.sl 1 Aa l.imports,.sl 1 Aa l.exports,.sl 1 Be l.addrs]
def A5(l:LineM):SV:=.agg [Aa l.row,Aa l.kind,As l.dev,As l.port,As l.peer,As l.far,As l.name,Bl l.mac,Be l.addr,Aa l.bits,Aa l.vlan,Aa l.num,Aa l.cost,.sl 1 Aa l.tagged,.sl 1 Aa l.imports,.sl 1 Aa l.exports,.sl 1 Be l.addrs]
attribute [local irreducible]G DR
set_option maxRecDepth 100000
def J3(d:UInt8):List UInt8->List UInt8->List ByteArray
 |cur,[]=>[mkT cur]
 |cur,c::r=>if c=d then mkT cur::J3 d [] r else J3 d (cur++[c]) r
def T0(d:UInt8):∀(l cur:List UInt8),d∉l->J3 d cur l=[mkT (cur++l)]
 |[],cur,_=>by rw[J3,xD]
 |c::l,cur,h=>by
  simp only[yI,uF]at h;rw[J3,zD (Ne.symm h.1),T0 d l _ h.2];simp
def Tz(d:UInt8):∀(l cur:List UInt8),d∈l->J3 d cur l=mkT (cur++l.take (Mi d l))::J3 d [] (l.drop (Mi d l+1))
 |[],cur,h=>by simp at h
 |c::l,cur,h=>by
  by_cases hc:c=d
  .subst hc;rw[J3,zE rfl,Mi];simp[Lib.indexByte]
  .have h2:d∈l:=by
    simp only[yI]at h;exact h.resolve_left (Ne.symm hc)
   have h3:=(Kn h2).1;have e:Mi d (c::l)=Mi d l+1:=by
    have e1:Lib.indexByte (c::l) d=Lib.indexByte l d+1:=by
     rw[Lib.indexByte.eq_def];dsimp only;rw[zD (kS hc),zD kO]
    rw[Mi,Mi,e1];omega
   rw[J3,zD hc,Tz d l _ h2,e];simp
def V3(d:UInt8)(l:List UInt8):∀j,Dd d l (j+1)=Dd d (l.drop (Mi d l+1)) j
 |0=>rfl
 |j+1=>by
  rw[Dd,V3 d l j];rfl
def Afp(d:UInt8):∀(k:Nat) (l:List UInt8),l.length<=k->C3 d (mkT l)=J3 d [] l
 |0,l,h=>by
  rw[vA.1 (by omega:l.length=0)];simp[C3,J3,Dd,mkT]
 |k+1,l,h=>by
  by_cases hd:d∈l
  .have h1:=Uy hd;have h2:=(Kn hd).2;have h3:(l.drop (Mi d l+1)).length<=k:=by rw[yP];omega
   rw[Tz d l [] hd,<-Afp d k _ h3];simp only[C3,K7];rw[<-h1,List.range_succ_eq_map,xV,List.map_map,wB,wL,V3];congr 2;apply tL;intro j _;show mkT (Wb d l (j+1))=_;rw[Wb,Wb,V3]
  .have h1:l.count d=0:=List.count_eq_zero.2 hd;rw[T0 d l [] hd];simp[C3,K7,h1,Dd]
def Afo(d:UInt8)(s:ByteArray):C3 d s=J3 d [] s.data.toList:=by
 rw[<-Afp d _ _ (yE _),K6]
def digI(c:UInt8):Int:=if 48<=c.toNat/\c.toNat<=57 then (c.toNat:Int)-48 else if 97<=c.toNat/\c.toNat<=102 then (c.toNat:Int)-87 else 16
def Aal(c:UInt8):0<=digI c/\digI c<=16:=by
 unfold digI;split
 .omega
 split
 .omega
 .omega
end Go.Sy.Zaa
namespace Go.Sy.Zaa
open Go.Proofs Go.Proofs.Tryz
section
def L8(a b:ByteArray):(a==b)=true↔a=b:=by
 cases a with
 |mk a=>
  cases b with
  |mk b=>
   show (a==b)=true↔_;simp
instance:LawfulBEq ByteArray where
 eq_of_beq h:=(L8 _ _).1 h
 rfl:=(L8 _ _).2 rfl
def A1p(c:UInt8):Bool:=decide (97<=c.toNat)&&decide (c.toNat<=122)
def A55:List UInt8->Bool
 |[]=>false
 |c::l=>A1p c&&l.all λc=>A1p c||Lp c
def A3(s:ByteArray):Bool:=A55 s.data.toList&&decide (s.size<=12)
def cG(s:ByteArray)(i:Nat):Bool:=decide (digI (Bw s (3*i))<=15)&&decide (digI (Bw s (3*i+1))<=15)&&(decide (5<=i)||decide ((Bw s (3*i+2)).toNat=58))
def Yk(s:ByteArray):Nat->Int
 |0=>0
 |i+1=>Yk s i*256+digI (Bw s (3*i))*16+digI (Bw s (3*i+1))
def macR(s:ByteArray):Int×Bool:=if s.size=17/\(List.range 6).all (cG s)=true then (Yk s 6,true) else (0,false)
def La(m:Int):Bool:=decide (m%281474976710656/4294967296=512)
def statB(m:Int):Bool:=decide (m<=281474976710655)&&!(La m)&&!(Du m.toNat)
def Jg(one:ByteArray->Int×Bool):List Int->List ByteArray->List Int×Bool
 |out,[]=>(out,true)
 |out,p::r=>if (one p).2=false\/out.length=16\/(∃x,out.getLast? = some x/\(one p).1<=x) then ([],false) else Jg one (out++[(one p).1]) r
def It(one:ByteArray->Int×Bool)(s:ByteArray):List Int×Bool:=Jg one [] (C3 44 s)
def A5i:ByteArray:=⟨#[45]⟩
def listR(a8:Int)(s:ByteArray):List Int×Bool:=if s=A5i then ([],true) else It (λp=>numR p 1 a8) s
def Ei(s:ByteArray):List Int×Bool:=It D8 s
def prefixR(s:ByteArray):(Int×Int)×Bool :=
 if (cutT 47 s).2.2=false\/(D8 (cutT 47 s).1).2=false\/(smallT (cutT 47 s).2.1 32).2=false then ((0,0),false) else (((D8 (cutT 47 s).1).1,(smallT (cutT 47 s).2.1 32).1),true)
def subnetB(a bits:Int):Bool:=decide (1<=bits)&&decide (bits<=30)&&decide (a≠Eg a bits)&&decide (a≠Hx a bits)
def Bu:List (Bool×Int)->Int
 |[]=>0
 |(b,e)::l=>if b=true then e else Bu l
def Au(cur:Int)(b:Bool)(e:Int):Int:=if b=true/\cur=0 then e else cur
def kindL(s:ByteArray):Int :=
 if s=⟨#[100,101,118,105,99,101]⟩ then 1 else if s=⟨#[112,111,114,116]⟩ then 2 else if s=⟨#[108,105,110,107]⟩ then 3 else if s=⟨#[115,116,97,116,105,99]⟩ then 4
 else if s=⟨#[118,116,101,112]⟩ then 5 else if s=⟨#[118,110,105]⟩ then 6 else if s=⟨#[102,108,111,111,100]⟩ then 7 else if s=⟨#[118,114,102]⟩ then 8 else if s=⟨#[105,114,98]⟩ then 9 else 0
def H9:ByteArray:=⟨#[97,99,99,101,115,115]⟩
def Ho:ByteArray:=⟨#[116,114,117,110,107]⟩
def wdT(w:List ByteArray)(i:Nat):ByteArray:=(w[i]?).getD ⟨#[]⟩
def manyB(k:Int)(w:List ByteArray):Bool :=
 if k=0 then false
 else if k=2 then (if w.length<6 then false else if wdT w 4=H9 then decide (w.length=6) else if wdT w 4=Ho then decide (w.length=7) else decide (w.length<=7))
 else if k=3\/k=4\/k=8\/k=9 then decide (w.length=5) else if k=5 then decide (w.length=3) else decide (w.length=4)
def membersB(vlan:Int)(tagged:List Int):Bool:=(decide (0<vlan)||!tagged.isEmpty)&&!(tagged.contains vlan)
def lineZ:LineM:=⟨0,0,⟨#[]⟩,⟨#[]⟩,⟨#[]⟩,⟨#[]⟩,⟨#[]⟩,0,0,0,0,0,0,[],[],[],[]⟩
def C5(s:ByteArray):Int×Bool:=numR s 1 4094
def Tu(s:ByteArray):Int×Bool:=numR s 1 16777215
def Ep(w:List ByteArray):Int×List Int×List (Bool×Int) :=
 if wdT w 4=H9 then ((C5 (wdT w 5)).1,[],[(!(C5 (wdT w 5)).2,21)])
 else if wdT w 4=Ho then
  (if wdT w 5=A5i then (0,(listR 4094 (wdT w 6)).1,[(!(listR 4094 (wdT w 6)).2,21)])
   else ((C5 (wdT w 5)).1,(listR 4094 (wdT w 6)).1,[(!(C5 (wdT w 5)).2,21),(!(listR 4094 (wdT w 6)).2,21)]))
 else (0,[],[])
def B8(w:List ByteArray)(row:Int):LineM×List (Bool×Int) :=
 let n:=λi=>(!(A3 (wdT w i)),(20:Int))
 let k:=kindL (wdT w 0)
 if k=1 then ({lineZ with row:=row,kind:=1,dev:=wdT w 1,num:=(numR (wdT w 2) 0 65535).1,mac:=(macR (wdT w 3)).1},[n 1,(!(numR (wdT w 2) 0 65535).2,21),(!((macR (wdT w 3)).2&&statB (macR (wdT w 3)).1),21)])
 else if k=2 then ({ lineZ with row:=row,kind:=2,dev:=wdT w 1,port:=wdT w 2,cost:=(numR (wdT w 3) 1 65535).1,vlan:=(Ep w).1,tagged:=(Ep w).2.1 },
  [n 1,n 2,(!(numR (wdT w 3) 1 65535).2,21),(decide (wdT w 4≠H9) && decide (wdT w 4≠Ho),20)]++(Ep w).2.2++[(!(membersB (Ep w).1 (Ep w).2.1),21)])
 else if k=3 then ({lineZ with row:=row,kind:=3,dev:=wdT w 1,port:=wdT w 2,peer:=wdT w 3,far:=wdT w 4},[n 1,n 2,n 3,n 4])
 else if k=4 then ({lineZ with row:=row,kind:=4,dev:=wdT w 1,vlan:=(C5 (wdT w 2)).1,mac:=(macR (wdT w 3)).1,port:=wdT w 4},[n 1,(!(C5 (wdT w 2)).2,21),(!((macR (wdT w 3)).2&&statB (macR (wdT w 3)).1),21),n 4])
 else if k=5 then ({lineZ with row:=row,kind:=5,dev:=wdT w 1,addr:=(D8 (wdT w 2)).1},[n 1,(!((D8 (wdT w 2)).2&&decide ((D8 (wdT w 2)).1≠0)),21)])
 else if k=6 then ({lineZ with row:=row,kind:=6,dev:=wdT w 1,vlan:=(C5 (wdT w 2)).1,num:=(Tu (wdT w 3)).1},[n 1,(!(C5 (wdT w 2)).2,21),(!(Tu (wdT w 3)).2,21)])
 else if k=7 then ({lineZ with row:=row,kind:=7,dev:=wdT w 1,num:=(Tu (wdT w 2)).1,addrs:=(Ei (wdT w 3)).1},[n 1,(!(Tu (wdT w 2)).2,21),(!((Ei (wdT w 3)).2&&decide ((Ei (wdT w 3)).1.head? ≠ some 0)),21)])
 else if k=8 then ({lineZ with row:=row,kind:=8,dev:=wdT w 1,name:=wdT w 2,imports:=(listR 65535 (wdT w 3)).1,exports:=(listR 65535 (wdT w 4)).1},[n 1,n 2,(!(listR 65535 (wdT w 3)).2,21),(!(listR 65535 (wdT w 4)).2,21)])
 else ({ lineZ with row:=row,kind:=9,dev:=wdT w 1,vlan:=(C5 (wdT w 2)).1,name:=wdT w 3,addr:=(prefixR (wdT w 4)).1.1,bits:=(prefixR (wdT w 4)).1.2 },
  [n 1,(!(C5 (wdT w 2)).2,21),n 3,(!((prefixR (wdT w 4)).2 && subnetB (prefixR (wdT w 4)).1.1 (prefixR (wdT w 4)).1.2),21)])
def Cp(w:List ByteArray)(row:Int):LineM×Int :=
 if w=[]\/manyB (kindL (wdT w 0)) w=false then (lineZ,22) else if Bu (B8 w row).2≠0 then (lineZ,Bu (B8 w row).2) else ((B8 w row).1,0)
def Jo(cur:List UInt8):List ByteArray:=if cur=[] then [] else [mkT cur]
def Hj:List UInt8->List UInt8->List ByteArray
 |cur,[]=>Jo cur
 |cur,c::r=>if c=35 then Jo cur else if c=32\/c=9 then Jo cur++Hj [] r else Hj (cur++[c]) r
def Ajy(c:UInt8):Bool:=decide (32<c.toNat)&&decide (c.toNat<=126)&&decide (c.toNat≠35)
def wordB(s:ByteArray):Bool:=decide (0<s.size)&&decide (s.size<=40)&&s.data.toList.all Ajy
def wordsT(row:ByteArray):List ByteArray×Int:=if (Hj [] row.data.toList).all wordB=true then (Hj [] row.data.toList,0) else ([],20)
def Ms:Nat->List ByteArray->List LineM->List LineM×Int×Int
 |_,[],out=>(out,0,0)
 |i,r::rs,out=>
  if (wordsT r).2≠0 then ([],(i:Int)+1,(wordsT r).2) else if (wordsT r).1=[] then Ms (i+1) rs out
  else if (Cp (wordsT r).1 ((i:Int)+1)).2≠0 then ([],(i:Int)+1,(Cp (wordsT r).1 ((i:Int)+1)).2) else Ms (i+1) rs (out++[(Cp (wordsT r).1 ((i:Int)+1)).1])
def textT(b:List UInt8):List LineM×Int×Int:=if (rowsT b).2≠0 then ([],0,(rowsT b).2) else Ms 0 (rowsT b).1 []
def Aks(a b:LineM):Bool :=
 a.row == b.row && (a.kind == b.kind && (a.dev == b.dev && (a.port == b.port && (a.peer == b.peer && (a.far == b.far && (a.name == b.name && (a.mac == b.mac && (a.addr == b.addr && (a.bits == b.bits &&
 (a.vlan == b.vlan && (a.num == b.num && (a.cost == b.cost && (a.tagged == b.tagged && (a.imports == b.imports && (a.exports == b.exports && a.addrs == b.addrs)))))))))))))))
def Cs(n lo hi:Int):Bool:=decide (lo<=n)&&decide (n<=hi)
abbrev E2(l:List Int)(hi:Int):Bool:=Vy l hi
def Lo(l:List Int):Bool:=(List.range l.length).all (λi=>decide (l.getD i 0≠0)&&(i==0||decide (l.getD (i-1) 0<l.getD i 0)))&&(decide (0<l.length)&&decide (l.length<=16))
def By(l:LineM):LineM×Bool :=
 let u:LineM:={lineZ with row:=l.row,kind:=l.kind,dev:=l.dev}
 if l.kind=1 then ({u with num:=l.num,mac:=l.mac},Cs l.num 0 65535&&statB l.mac)
 else if l.kind=2 then ({u with port:=l.port,cost:=l.cost,vlan:=l.vlan,tagged:=l.tagged},A3 l.port&&(Cs l.cost 1 65535&&(Cs l.vlan 0 4094&&(E2 l.tagged 4094&&membersB l.vlan l.tagged))))
 else if l.kind=3 then ({u with port:=l.port,peer:=l.peer,far:=l.far},A3 l.port&&(A3 l.peer&&A3 l.far))
 else if l.kind=4 then ({u with vlan:=l.vlan,mac:=l.mac,port:=l.port},Cs l.vlan 1 4094&&(statB l.mac&&A3 l.port))
 else if l.kind=5 then ({u with addr:=l.addr},decide (l.addr≠0))
 else if l.kind=6 then ({u with vlan:=l.vlan,num:=l.num},Cs l.vlan 1 4094&&Cs l.num 1 16777215)
 else if l.kind=7 then ({u with num:=l.num,addrs:=l.addrs},Cs l.num 1 16777215&&Lo l.addrs)
 else if l.kind=8 then ({u with name:=l.name,imports:=l.imports,exports:=l.exports},A3 l.name&&(E2 l.imports 65535&&E2 l.exports 65535))
 else if l.kind=9 then ({u with vlan:=l.vlan,name:=l.name,addr:=l.addr,bits:=l.bits},Cs l.vlan 1 4094&&(A3 l.name&&subnetB l.addr l.bits))
 else (u,false)
def D6(l:LineM):Bool:=(By l).2&&(A3 l.dev&&Aks (By l).1 l)
attribute [local irreducible]G DR
set_option maxRecDepth 100000
def Avc{s:ByteArray}(h:s.size=0):s=⟨#[]⟩:=by
 have h2:s.data.toList.length=0:=h;exact Ade (yC h2)
def Aw3(s:ByteArray)(hs:s.size<=1000000):Sp 70 [As s] (Ab (wordB s)):=cT F70 ntmps70 λF hF=>by
 have bg:s.data.toList.length=s.size:=rfl;have hw:=wordB.eq_1 s;obtain ⟨r,hr⟩:=kE (wordB s);rw[hr]at hw|-;refine T ?_;refine Ba s.size (λj=>El (λ_ c=>Ajy c) s.data.toList j) (λj=>[(0,As s),(5,Aa s.size),(6,Aa j)]) (λ_=>[]) [] (Bi _ _) U ?_;intro j hj hI;refine gN ?_ ?_<;>intro h
 .have ab:j<s.data.toList.length:=qA h;have hb:Bw s j=s.data.toList[j]:=Aao ab;have cw:=λh=>@all_at' _ Ajy s.data.toList j ab h
  have ej:=λh=>Bd (p:=λ_ c=>Ajy c) hI ab h
  rw[<-hb]at cw ej;clear h;have hx:Ajy (Bw s j)=(decide (32<(Bw s j).toNat)&&decide ((Bw s j).toNat<=126)&&decide ((Bw s j).toNat≠35)):=rfl;by_cases h1:32<(Bw s j).toNat
  .by_cases h2:(Bw s j).toNat<=126
   .by_cases h3:(Bw s j).toNat=35
    .rw[cw (by rw[hx];simp[h3]),wR]at hw;subst hw;exact gA
    .refine T ?_;exact A8 [] hI q_ (ej (by rw[hx];simp[h1,h2,h3])) U
   .rw[cw (by rw[hx];simp[h2]),wR]at hw;subst hw;exact gA
  .rw[cw (by rw[hx];simp[h1]),wR]at hw;subst hw;exact gA
 .have cu:j=s.size:=qB h;subst cu;rw[lD hI (yE _),uH]at hw;clear h;by_cases h0:s.size=0
  .have hs:=Avc h0;have he:(s==(⟨#[]⟩:ByteArray))=true:=(L8 _ _).2 hs;have hw:r=false:=by rw[hw,h0];rfl
   have dw:(!(s==(⟨#[]⟩:ByteArray)))=false:=by rw[he];rfl
   subst hw;exact gA
  .have he:(s==(⟨#[]⟩:ByteArray))=false:=by
    cases he:(s==(⟨#[]⟩:ByteArray))
    .rfl
    .exact yA (by rw[(L8 _ _).1 he];rfl) h0
   have dw:(!(s==(⟨#[]⟩:ByteArray)))=true:=by rw[he];rfl
   by_cases h4:s.size<=40
   .have hw:r=true:=by rw[hw];simp[h4];omega
    subst hw;refine T ?_;refine Ar E Aq (zH Ab ?_) E;exact(zL q_).symm
   .have hw:r=false:=by rw[hw];simp[h4]
    subst hw;refine T ?_;refine Ar E Aq (zH Ab ?_) E;exact(zK q_).symm
abbrev strO(row:ByteArray)(f:Nat)(l:List ByteArray):Obs:=[(1,.box [Aa f]),(2,.box [.osl 3]),(3,.row 1 As l),(4,.box [As row])]
abbrev strN(row:ByteArray)(f:Nat)(l:List ByteArray):Obs:=[(1,.box [Aa f]),(2,.box [.osl 5]),(3,.non),(5,.row 1 As l),(4,.box [As row])]
def Azc(row:ByteArray)(f i:Nat)(l:List ByteArray)(xy:f<=i)(hi:i<=row.size)(hs:row.size<=1000000)(hl:l.length<=1000000):Sq 140 [Aa i,.ptr 1 0,.ptr 2 0,.ptr 4 0] (strO row f l) (.tup []) (strN row (i+1) (l++Jo ((row.data.toList.take i).drop f))):=cT F140 ntmps140 λF hF=>by
 have bg:row.data.toList.length=row.size:=rfl;have hx:row.extract f i=mkT ((row.data.toList.take i).drop f):=by rw[<-E8,K6]
 refine gN ?_ ?_<;>intro h
 .have h1:f<i:=qA h;have af:(row.data.toList.take i).drop f≠[]:=λe=>by
   have:=zH List.length e;rw[yP,zY]at this;simp at this;omega
  rw[Jo,zD af,<-hx];refine T ?_;refine⟨⟨by omega,by omega,by omega⟩,?_⟩;refine T ?_;refine Xd (Ah Γ.toTy 14 E E E E E (.row E) (.lit (e:=As) (l:=[row.extract f i]) E E) y_ kO kO) ?_;refine T ?_;exact A6 E .nil [(5,14)] (strN row (i+1) (l++[row.extract f i])) (λ_ h=>h) E E U
 .have h1:¬f<i:=qB h;have he:(row.data.toList.take i).drop f=[]:=vS (by rw[zY];omega);rw[he,Jo,zE rfl,xD];refine Xj 3 1000 E E j_ (T ?_);exact A6 E .nil [(5,1000)] (strN row (i+1) l) (λ_ h=>h) E E U
def Aox(row:ByteArray)(hs:row.size<=100000):Sp 69 [As row] (.sl 1 As (Hj [] row.data.toList)):=cT F69 ntmps69 λF hF=>by
 have bg:row.data.toList.length=row.size:=rfl;refine T ?_;refine Tq 3 0 1000 1 As E E E E ?_;refine T ?_;refine Cd (λx:List ByteArray×Nat×Nat=>Hj [] row.data.toList=x.1++Hj ((row.data.toList.take x.2.2).drop x.2.1) (row.data.toList.drop x.2.2)/\x.2.1<=x.2.2/\x.2.2<=row.size/\x.1.length<=x.2.2)
  (λx=>[(1,.ptr 1 0),(3,.ptr 3 0),(5,.clo (.func 140) [] [.ptr 4 0,.ptr 3 0,.ptr 1 0]),(6,Aa x.2.2)]) (λx=>[(1,.box [As row]),(3,.box [.osl 1000]),(4,.box [Aa x.2.1]),(1000,.row 1 As x.1)]) (λx=>row.size-x.2.2) ([],0,0) [] ⟨rfl,by simp,by simp,by simp⟩ U ?_
 rintro ⟨l,f,i⟩ ⟨hI,xy,his,hlen⟩;dsimp only at hI xy his hlen|-;have q:=λi xy hi=>Azc row f i l xy hi q_ q_
 refine gN ?_ ?_<;>intro h
 .have ab:i<row.size:=qA h;have lc:i<row.data.toList.length:=ab;have hb:Bw row i=row.data.toList[i]:=Aao lc;have fh:row.data.toList.drop i=row.data.toList[i]::row.data.toList.drop (i+1):=yL lc;have ig:(row.data.toList.take (i+1)).drop f=(row.data.toList.take i).drop f++[row.data.toList[i]]:=by
   rw[yD lc,List.drop_append_of_le_length (by rw[zY];omega)]
  rw[<-hb]at fh ig;have q:=q i xy q_;clear h;rw[fh,Hj]at hI;have yy:(l++Jo ((row.data.toList.take i).drop f)).length<=i+1:=by
   rw[Jo];split<;>simp<;>omega
  have e0:(row.data.toList.take (i+1)).drop (i+1)=[]:=vS (by rw[zY];omega);have h35:Bw row i=35↔(Bw row i).toNat=35:=⟨λe=>by rw[e];rfl,λe=>UInt8.toNat_inj.1 e⟩
  have h32:Bw row i=32↔(Bw row i).toNat=32:=⟨λe=>by rw[e];rfl,λe=>UInt8.toNat_inj.1 e⟩
  have h9:Bw row i=9↔(Bw row i).toNat=9:=⟨λe=>by rw[e];rfl,λe=>UInt8.toNat_inj.1 e⟩
  by_cases c1:(Bw row i).toNat=35
  .rw[zE (h35.2 c1)]at hI;rw[hI];refine T ?_;refine X (Av [(1,4),(2,3),(3,1000),(4,1),(5,900)] (Aw E E F140) q E W E V) ?_;exact Ai 900 E gA
  .rw[zD (λe=>c1 (h35.1 e))]at hI;by_cases c2:(Bw row i).toNat=32\/(Bw row i).toNat=9
   .rw[zE (c2.elim (λe=>.inl (h32.2 e)) (λe=>.inr (h9.2 e)))]at hI;by_cases c3:(Bw row i).toNat=32
    .refine T ?_;refine X (Av [(1,4),(2,3),(3,1000),(4,1),(5,900)] (Aw E E F140) q E W E V) ?_;refine Ax (l++Jo ((row.data.toList.take i).drop f),i+1,i+1) [(1000,900)] ⟨?_,yE _,ab,yy⟩ (by dsimp only;omega) U;dsimp only;rw[hI,xF,e0]
    .refine T ?_;refine X (Av [(1,4),(2,3),(3,1000),(4,1),(5,900)] (Aw E E F140) q E W E V) ?_;refine Ax (l++Jo ((row.data.toList.take i).drop f),i+1,i+1) [(1000,900)] ⟨?_,yE _,ab,yy⟩ (by dsimp only;omega) U;dsimp only;rw[hI,xF,e0]
   .simp only[uF]at c2;rw[zD (by rw[h32,h9];omega)]at hI;refine T ?_;refine Ax (l,f,i+1) [] ⟨?_,by dsimp only;omega,ab,by dsimp only;omega⟩ (by dsimp only;omega) U;dsimp only;rw[hI,ig]
 .have tn:i=row.size:=qB h;subst tn;have q:=q row.size xy q_;have gh:row.data.toList.drop row.size=[]:=by rw[<-bg,wU]
  rw[gh,Hj]at hI;rw[hI];clear h;refine T ?_;refine X (Av [(1,4),(2,3),(3,1000),(4,1),(5,900)] (Aw E E F140) q E W E V) ?_;exact Ai 900 E gA
def Qu:∀(l cur:List UInt8),(Hj cur l).length<=l.length+1
 |[],cur=>by rw[Hj,Jo];split<;>simp
 |c::l,cur=>by
  rw[Hj];have h1:=Qu l [];have h2:=Qu l (cur++[c]);have h3:(Jo cur).length<=1:=by rw[Jo];split<;>simp
  split
  .simp;omega
  .split
   .simp;omega
   .simp;omega
def Tt:∀(l cur:List UInt8),∀s∈Hj cur l,s.size<=cur.length+l.length
 |[],cur,s,hs=>by
  rw[Hj,Jo]at hs;split at hs
  .cases hs
  .simp at hs;rw[hs,I4];simp
 |c::l,cur,s,hs=>by
  have h3:∀s∈Jo cur,s.size<=cur.length:=λs hs=>by
   rw[Jo]at hs;split at hs
   .cases hs
   .simp at hs;rw[hs,I4];exact yE _
  rw[Hj]at hs;split at hs
  .have:=h3 s hs;omega
  .split at hs
   .rcases yH.1 hs with hs|hs
    .have:=h3 s hs;omega
    .have:=Tt l [] s hs;simp at this|-;omega
   .have:=Tt l (cur++[c]) s hs;simp at this|-;omega
def Acb(row:ByteArray)(hs:row.size<=100000):Sp 37 [As row] (.tup [.sl 1 As (wordsT row).1,Aa (wordsT row).2]):=cT F37 ntmps37 λF hF=>by
 have q:=Aox row hs;have aa:=wordsT.eq_1 row;have hlen:=Qu row.data.toList [];have bg:=Tt row.data.toList [];have lg:row.data.toList.length=row.size:=rfl;generalize wordsT row=res at *;generalize Hj [] row.data.toList=l at *;refine gC q F69 ?_;refine Ba l.length (λj=>El (λ_ s=>wordB s) l j) (λj=>[(4,.sl 1 As l),(9,.sl 1 As l),(10,Aa l.length),(11,Aa j)]) (λ_=>[]) [] (Bi _ _) U ?_;intro j hj hI;refine gN ?_ ?_<;>intro h
 .have ab:j<l.length:=qA h;have an:(j:Int).toNat<l.length:=ab;have cw:=λh=>@all_at' _ wordB l j ab h
  have ej:=λh=>Bd (p:=λ_ s=>wordB s) hI ab h
  have tp:=bg l[j] (zI ab);clear h;refine T ?_;refine C (Aw3 (l[(j:Int).toNat]'an) (by rw[show l[(j:Int).toNat]'an=l[j] from E];simp at tp;omega)) F70 ?_;constructor<;>intro h
  .have hf:wordB l[j]=false:=by simpa using h
   rw[zD (by rw[cw hf];simp)]at aa;subst aa;refine T ?_;exact Ao 2 1 As E gA
  .have ht:wordB l[j]=true:=by simpa using h
   refine T ?_;exact A8 [] hI q_ (ej ht) U
 .have cu:j=l.length:=qB h;subst cu;rw[zE (lD hI (yE _))]at aa;subst aa;exact gA
def Y2(i:Nat)(c:UInt8):Bool:=A1p c||(Lp c&&decide (i≠0))
def A00(s:ByteArray):A3 s=(Ik Y2 s.data.toList&&(decide (0<s.size)&&decide (s.size<=12))):=by
 have bg:s.data.toList.length=s.size:=rfl;rw[A3,<-bg];cases hl:s.data.toList with
 |nil=>rfl
 |cons c l=>
  have e:Ik Y2 (c::l)=(A1p c&&l.all λc=>A1p c||Lp c):=by
   rw[wP,allB_iff,zG,yT];constructor
   .intro h;refine⟨by have:=h 0 y_;simpa [Y2] using this,λx hx=>?_⟩;obtain ⟨i,hi,rfl⟩:=yY.1 hx;have:=h (i+1) kO;simpa [Y2] using this
   .rintro ⟨h1,h2⟩ i hi;cases i with
    |zero=>simp[Y2,h1]
    |succ i=>
     have:=h2 (l[i]'(by simp at hi;omega)) (zI _);simpa [Y2] using this
  rw[e,A55];simp
def E7(s:ByteArray)(hs:s.size<=1000000):Sp 71 [As s] (Ab (A3 s)):=cT F71 ntmps71 λF hF=>by
 have bg:s.data.toList.length=s.size:=rfl;have hw:=A00 s;obtain ⟨r,hr⟩:=kE (A3 s);rw[hr]at hw|-;refine T ?_;refine Ba s.size (λj=>El Y2 s.data.toList j) (λj=>[(0,As s),(7,Aa s.size),(8,Aa j)]) (λ_=>[]) [] (Bi _ _) U ?_;intro j hj hI;refine gN ?_ ?_<;>intro h
 .have ab:j<s.data.toList.length:=qA h;have hb:Bw s j=s.data.toList[j]:=Aao ab;have cw:=λh=>Di (p:=Y2) ab h
  have ej:=λh=>Bd (p:=Y2) hI ab h
  rw[<-hb]at cw ej;clear h;have hx:Y2 j (Bw s j)=((decide (97<=(Bw s j).toNat)&&decide ((Bw s j).toNat<=122))||((decide (48<=(Bw s j).toNat)&&decide ((Bw s j).toNat<=57))&&decide (j≠0))):=rfl;rcases (by omega:(Bw s j).toNat<48\/(48<=(Bw s j).toNat/\(Bw s j).toNat<=57)\/(57<(Bw s j).toNat/\(Bw s j).toNat<97)\/(97<=(Bw s j).toNat/\(Bw s j).toNat<=122)\/122<(Bw s j).toNat) with h|h|h|h|h
  .rw[cw (by rw[hx,zK (by omega:¬97<=(Bw s j).toNat),zK (by omega:¬48<=(Bw s j).toNat)];rfl),yF]at hw;subst hw;exact gA
  .by_cases h0:j=0
   .subst h0;rw[cw (by rw[hx,zK (by omega:¬97<=(Bw s 0).toNat)];simp),yF]at hw;subst hw;exact gA
   .refine T ?_;exact A8 [] hI q_ (ej (by rw[hx];simp[h,h0])) U
  .rw[cw (by rw[hx,zK (by omega:¬97<=(Bw s j).toNat),zK (by omega:¬(Bw s j).toNat<=57)];simp),yF]at hw;subst hw;exact gA
  .refine T ?_;exact A8 [] hI q_ (ej (by rw[hx];simp[h])) U
  .rw[cw (by rw[hx,zK (by omega:¬(Bw s j).toNat<=122),zK (by omega:¬(Bw s j).toNat<=57)];simp),yF]at hw;subst hw;exact gA
 .have cu:j=s.size:=qB h;subst cu;rw[Hn hI (yE _),yG]at hw;clear h;subst hw;by_cases h0:0<s.size
  .refine T ?_;refine⟨λ_=>?_,λh=>yA (zT h) q_⟩;refine T ?_;refine Ar E Aq (zH Ab ?_) E;rw[zL h0,yG];exact decide_eq_decide.2 q_
  .rw[zK h0,yF];exact gA
def Af4(c:UInt8):Sp 263 [Al c] (Bl (digI c)):=cT F263 ntmps263 λF hF=>by
 have aa:=digI.eq_1 c;generalize digI c=res at *;have il:=c.toNat_lt;rcases (by omega:c.toNat<48\/(48<=c.toNat/\c.toNat<=57)\/(57<c.toNat/\c.toNat<97)\/(97<=c.toNat/\c.toNat<=102)\/102<c.toNat) with h|h|h|h|h
 .rw[zD q_,zD q_]at aa;subst aa;exact gA
 .rw[zE q_]at aa;subst aa;refine T ?_;refine Ar E Aq ?_ E;refine zH (λz=>SV.val (.int .u64 z)) (?_:_=IntKind.u64.wrap (IntKind.u8.wrap ((c.toNat:Int)-48)));rw[IntKind.wrap_u8,IntKind.wrap_u64];omega
 .rw[zD q_,zD q_]at aa;subst aa;exact gA
 .rw[zD q_,zE q_]at aa;subst aa;refine T ?_;refine Ar E Aq ?_ E;refine zH (λz=>SV.val (.int .u64 z)) (?_:_=IntKind.u64.wrap (IntKind.u64.wrap (IntKind.u8.wrap ((c.toNat:Int)-97))+10));rw[IntKind.wrap_u8,IntKind.wrap_u64,IntKind.wrap_u64];omega
 .rw[zD q_,zD q_]at aa;subst aa;exact gA
def Z2{s:ByteArray}:∀{j:Nat},(∀i,i<j->cG s i=true)->0<=Yk s j/\Yk s j<256^j
 |0,_=>by simp[Yk]
 |j+1,h=>by
  have ih:=Z2 (s:=s) (j:=j) (λi hi=>h i q_);have hj:=h j q_;simp only[cG,zG,zJ]at hj;have d1:=Aal (Bw s (3*j));have d2:=Aal (Bw s (3*j+1));rw[Yk,Int.pow_succ];omega
def A1f(m a b:Nat)(hm:m<72057594037927936)(ha:a<16)(hb:b<16):bits .or .u64 (bits .or .u64 (IntKind.u64.wrap ((m:Int)*2^min (Int.toNat 8) IntKind.u64.bits)) (IntKind.u64.wrap ((a:Int)*2^min (Int.toNat 4) IntKind.u64.bits))) (b:Int)=((m*256+a*16+b:Nat):Int):=by
 have e1:IntKind.u64.wrap ((m:Int)*2^min (Int.toNat 8) IntKind.u64.bits)=((m*256:Nat):Int):=by
  show IntKind.u64.wrap ((m:Int)*256)=_;rw[IntKind.wrap_u64];omega
 have e2:IntKind.u64.wrap ((a:Int)*2^min (Int.toNat 4) IntKind.u64.bits)=((a*16:Nat):Int):=by
  show IntKind.u64.wrap ((a:Int)*16)=_;rw[IntKind.wrap_u64];omega
 have o1:=xR (i:=8) (b:=a*16) q_ m;have o2:=xR (i:=4) (b:=b) q_ (m*16+a);have f1:m*256|||a*16=m*256+a*16:=by rw[vK m 256];exact o1.symm
 have f2:(m*256+a*16)|||b=m*256+a*16+b:=by
  have e:m*256+a*16=2^4*(m*16+a):=by omega
  rw[e];exact o2.symm
 rw[e1,e2,bits_or_u64_nat _ _ q_ q_,f1,bits_or_u64_nat _ _ q_ q_,f2]
def macR_no{s:ByteArray}{j:Nat}(hj:j<6)(h:cG s j=false):macR s=(0,false):=by
 rw[macR,zD];rintro ⟨_,h2⟩;rw[yT]at h2;rw[h2 j (yV.2 hj)]at h;cases h
def A1g(s:ByteArray)(hs:s.size<=1000000):Sp 207 [As s] (.tup [Bl (macR s).1,Ab (macR s).2]):=cT F207 ntmps207 λF hF=>by
 have cw:=@macR_no s;have tq:=macR.eq_1 s;generalize macR s=res at *;by_cases h17:s.size=17;rotate_left
 .rw[zD (λe=>h17 e.1)]at tq;subst tq;exact gA
 refine T ?_;refine Ba 6 (λj=>∀i,i<j->cG s i=true) (λj=>[(0,As s),(4,Bl (Yk s j)),(11,Aa j)]) (λ_=>[]) [] (λi hi=>by omega) U ?_;intro j hj hI;have hmv:=Z2 hI;refine gN ?_ ?_<;>intro h
 .have ab:j<6:=qA h;have cw:=cw ab;clear h;have i0:(3*((j:Nat):Int)).toNat=3*j:=by omega
  have i1:(3*((j:Nat):Int)+1).toNat=3*j+1:=by omega
  have i2:(3*((j:Nat):Int)+2).toNat=3*j+2:=by omega
  have hx:cG s j=(decide (digI (Bw s (3*j))<=15)&&decide (digI (Bw s (3*j+1))<=15)&&(decide (5<=j)||decide ((Bw s (3*j+2)).toNat=58))):=rfl;have hv:Yk s (j+1)=Yk s j*256+digI (Bw s (3*j))*16+digI (Bw s (3*j+1)):=rfl;rw[<-i1,<-i2,<-i0]at hx;rw[<-i1,<-i0]at hv;have d1:=Aal (Bw s (3*((j:Nat):Int)).toNat);have d2:=Aal (Bw s (3*((j:Nat):Int)+1).toNat);have q1:=Af4 (Bw s (3*((j:Nat):Int)).toNat);have q2:=Af4 (Bw s (3*((j:Nat):Int)+1).toNat);by_cases c1:digI (Bw s (3*((j:Nat):Int)).toNat)<=15
  .have f1:decide (digI (Bw s (3*((j:Nat):Int)).toNat)>15)=false:=zK q_;by_cases c2:digI (Bw s (3*((j:Nat):Int)+1).toNat)<=15
   .have f2:decide (digI (Bw s (3*((j:Nat):Int)+1).toNat)>15)=false:=zK q_;have hp:(256:Int)^j<=256^5:=by
     have:=vE (n:=256) j_ (show j<=5 by omega)
     exact_mod_cast this
    have br:=A1f (Yk s j).toNat (digI (Bw s (3*((j:Nat):Int)).toNat)).toNat (digI (Bw s (3*((j:Nat):Int)+1).toNat)).toNat q_ q_ q_;have hst2:((((Yk s j).toNat*256+(digI (Bw s (3*((j:Nat):Int)).toNat)).toNat*16+(digI (Bw s (3*((j:Nat):Int)+1).toNat)).toNat:Nat)):Int)=Yk s (j+1):=by rw[hv];omega
    rw[hst2,yR hmv.1,yR d1.1,yR d2.1]at br;by_cases c3:j<5
    .by_cases c4:(Bw s (3*((j:Nat):Int)+2).toNat).toNat=58
     .have f4:(((Bw s (3*((j:Nat):Int)+2).toNat).toNat:Int) != 58)=false:=by rw[c4];rfl
      have sj:cG s j=true:=by rw[hx,c4];simp[c1,c2]
      refine gB q1 F263 q2 F263 ?_;exact A8 [] hI ab (λ i hi=>by
       by_cases e:i=j
       .rw[e];exact sj
       .exact hI i q_) ⟨⟨E,E,zH Bl br.symm,E,E,E,Y⟩,Y,E,E⟩
     .have f4:(((Bw s (3*((j:Nat):Int)+2).toNat).toNat:Int) != 58)=true:=by
       rw[xC];omega
      have sj:cG s j=false:=by rw[hx,zK c4,zK (by omega:¬5<=j)];simp
      rw[cw sj];refine gB q1 F263 q2 F263 ?_;exact D
    .have sj:cG s j=true:=by rw[hx];simp[c1,c2];omega
     refine gB q1 F263 q2 F263 ?_;exact A8 [] hI ab (λ i hi=>by
      by_cases e:i=j
      .rw[e];exact sj
      .exact hI i q_) ⟨⟨E,E,zH Bl br.symm,E,E,E,Y⟩,Y,E,E⟩
   .have f2:decide (digI (Bw s (3*((j:Nat):Int)+1).toNat)>15)=true:=zL q_;rw[cw (by rw[hx,zK c2];simp)];refine gB q1 F263 q2 F263 ?_;exact D
  .have f1:decide (digI (Bw s (3*((j:Nat):Int)).toNat)>15)=true:=zL q_;rw[cw (by rw[hx,zK c1];rfl)];refine gB q1 F263 q2 F263 ?_;exact D
 .have cu:j=6:=qB h;subst cu;clear h;rw[zE ⟨h17,by rw[yT];intro i hi;exact hI i (yV.1 hi)⟩]at tq;subst tq;exact gA
def Amn(m:Nat)(h:m<18446744073709551616):(((bits .and .u64 (m:Int) 281474976710655).fdiv (2^min (Int.toNat 32) IntKind.u64.bits)) != 512)=!(La m):=by
 have e:=bits_and_u64_nat m 281474976710655 h j_;have e2:m&&&281474976710655=m%281474976710656:=uS m 48;have e3:bits .and .u64 (m:Int) 281474976710655=((m%281474976710656:Nat):Int):=by rw[<-e2];exact e
 have e4:((m%281474976710656:Nat):Int).fdiv (2^min (Int.toNat 32) IntKind.u64.bits)=((m%281474976710656/4294967296:Nat):Int):=by
  show ((m%281474976710656:Nat):Int).fdiv 4294967296=_;rw[wQ _ j_,Int.natCast_ediv];rfl
 rw[e3,e4,La];by_cases hh:m%281474976710656/4294967296=512
 .rw[hh,zL q_];rfl
 .rw[zK q_];simp;omega
def A12(m:Int):Int:=if La m=true then IntKind.u32.wrap (bits .and .u64 m 281474976710655) else 0
def A42(m:Nat)(h:m<18446744073709551616):Sp 264 [Bl m] (.tup [Be (A12 m),Ab (La m)]):=cT F264 ntmps264 λF hF=>by
 have hb:=Amn m h;rw[A12];cases hh:La m with
 |true=>
  have hb:=hb.trans (by rw[hh];rfl:_=false);rw[zE rfl];exact gA
 |false=>
  have hb:=hb.trans (by rw[hh];rfl:_=true);rw[zD y_];exact gA
def Awv(m:Nat)(h:m<18446744073709551616):Sp 179 [Bl m] (Ab (Du m)):=cT F179 ntmps179 λF hF=>by
 have hb:=Agm m h;refine T ?_;exact Ar E Aq (zH Ab hb.symm) E
def Aa2(m:Nat)(h:m<18446744073709551616):Sp 208 [Bl m] (Ab (statB m)):=cT F208 ntmps208 λF hF=>by
 have q1:=A42 m h;have q2:=Awv m h;have hw:=statB.eq_1 (m:Int);rw[zZ]at hw;generalize statB (m:Int)=r at *;generalize A12 (m:Int)=hv at *;by_cases c1:(m:Int)<=281474976710655
 .rw[zL c1,yG]at hw;have f1:decide ((m:Int)<=281474976710655)=true:=zL c1;cases hh:La m with
  |true=>
   rw[hh]at q1 hw;simp at hw;subst hw;refine gC q1 F264 ?_;exact D
  |false=>
   rw[hh]at q1 hw;simp at hw;subst hw;refine gB q1 F264 q2 F179 ?_;exact D
 .rw[zK c1]at hw;have f1:decide ((m:Int)<=281474976710655)=false:=zK c1;simp at hw;subst hw;refine gC q1 F264 ?_;exact D
def Qc(one:ByteArray->Int×Bool)(out:List Int)(s:ByteArray)(b:Bool):List Int×Bool:=if b=true then Jg one out (C3 44 s) else (out,true)
def A1y{c:UInt8}:∀{l:List UInt8},0<=Lib.indexByte l c->c∈l
 |[],h=>by simp[Lib.indexByte]at h
 |b::l,h=>by
  unfold Lib.indexByte at h;by_cases hb:(b==c)=true
  .simp at hb;simp[hb]
  .rw[zD hb]at h;by_cases h1:(Lib.indexByte l c == -1)=true
   .rw[zE h1]at h;omega
   .rw[zD h1]at h;have:=Ld l c;have h2:Lib.indexByte l c≠-1:=kS h1;exact List.mem_cons_of_mem _ (A1y q_)
def Acn(one:ByteArray->Int×Bool)(out:List Int)(s:ByteArray):Qc one out s true=(if (one (cutT 44 s).1).2=false\/out.length=16\/(∃x,out.getLast? = some x/\(one (cutT 44 s).1).1<=x) then ([],false) else Qc one (out++[(one (cutT 44 s).1).1]) (cutT 44 s).2.1 (cutT 44 s).2.2):=by
 rw[Qc,zE rfl,Afo];have bg:s.data.toList.length=s.size:=rfl;have tk:∀i,s.extract 0 i=mkT (s.data.toList.take i):=λi=>by rw[<-K6 s,E8,K7];simp
 by_cases h:0<=Lib.indexByte s.data.toList 44
 .have hm:=A1y h;have e2:s.extract (Mi 44 s.data.toList+1) s.size=mkT (s.data.toList.drop (Mi 44 s.data.toList+1)):=by
   have:=E8 s.data.toList (Mi 44 s.data.toList+1) s.size;rw[K6]at this;rw[this,<-bg,yN]
  rw[cutT,zE h,Tz 44 _ _ hm,wL,Jg,tk,e2];dsimp only;rw[Qc,zE rfl,Afo,K7]
 .have hm:(44:UInt8)∉s.data.toList:=λhh=>h (Kn hh).1
  rw[cutT,zD h,T0 44 _ _ hm,wL,K6,Jg];simp only[Qc,zD (show ¬(false=true) by simp),Jg]
def Ag4(s:ByteArray):(cutT 44 s).1.size<=s.size/\(cutT 44 s).2.1.size<=s.size/\((cutT 44 s).2.2=true->(cutT 44 s).2.1.size<s.size):=by
 have bg:s.data.toList.length=s.size:=rfl;have ab:=Us s.data.toList 44;have ex:∀i j,(s.extract i j).size=((s.data.toList.take j).drop i).length:=λi j=>by
  have:=E8 s.data.toList i j;rw[K6]at this;rw[this,I4]
 rw[cutT];split
 .rename_i h;refine⟨?_,?_,λ_=>?_⟩
  .rw[ex,yP,zY];omega
  .rw[ex,yP,zY];omega
  .rw[ex,yP,zY];have:Mi 44 s.data.toList+1<=s.data.toList.length:=by unfold Mi;omega
   omega
 .exact⟨yE _,xN _,λe=>by cases e⟩
theorem iC(v0:Int->SV){f0 m0:Nat}{g0:Func}(F0:fT f0 g0)(n0:g0.ntmps=m0)(h:let v0:Int->SV:=v0;fT f0 g0->g0.ntmps=m0->∀ (one:ByteArray->Int × Bool) (f:FuncId) (first cap:List SV) (hc:(SV.clo (.func f) first cap).inn []=true) (hr:∀ k:Nat->Nat,(SV.clo (.func f) first cap).ren k=.clo (.func f) first cap) (s0:ByteArray) (hs:s0.size<=10000) (hf:∀ p:ByteArray,p.size<=s0.size->Hg prog f (first++[As p]++cap) (.tup [v0 (one p).1,Ab (one p).2])),Sp f0 [As s0,.clo (.func f) first cap] (.tup [.sl 1 v0 (It one s0).1,Ab (It one s0).2]):=by
 intro v0 F0 n0 one f first cap hc hr s0 hs hf
 refine cT F0 n0 λF hF=>?_
 have aa:It one s0=Qc one [] s0 true:=rfl;generalize It one s0=res at *;have im:(SV.clo (.func f) first cap).inn [1000]=true:=Ur _ hc;have a6:∀y:SV,y.inn []=true->B7 [] (first++[y]++cap)=true:=λy hy=>by
  simp only[SV.inn,zG]at hc;rw[I7,I7,hc.1,hc.2];simp[B7,hy]
 refine T ?_;refine Ca 6 1000 1 v0 E E (T ?_);refine Cd (λx:ByteArray×Bool×List Int=>res=Qc one x.2.2 x.1 x.2.1/\x.1.size<=s0.size/\x.2.2.length<=16) (λx=>[(0,As x.1),(1,.clo (.func f) first cap),(6,.osl 1000),(7,Ab x.2.1)]) (λx=>[(1000,.row 1 v0 x.2.2)]) (λx=>if x.2.1=true then x.1.size+1 else 0) (s0,true,[]) [] ⟨aa,yE _,by simp⟩ ⟨⟨E,E,Bh _,im,E,E,E,E,Y⟩,⟨.inl E,E,Y⟩,E,E⟩ ?_;rintro ⟨s,b,out⟩ ⟨hI,bg,lh⟩;dsimp only at hI bg lh|-;cases b with
 |false=>
  rw[Qc,zD y_]at hI;subst hI;refine T ?_;exact Ai 1000 E gA
 |true=>
  have q1:=aZ s 44 q_;have jj:=Ag4 s;rw[Acn]at hI;generalize cutT 44 s=ct at *;obtain ⟨p,r,m⟩:=ct;dsimp only at hI jj q1;have q2:=hf p q_;generalize one p=op at *;obtain ⟨v,ok⟩:=op;dsimp only at hI q2;refine gC q1 F68 ?_;refine Ek q2 E E E (by simp only[a6 (As p) E];rfl) E E ?_;cases ok with
  |false=>
   rw[zE (.inl rfl)]at hI;subst hI;refine T ?_;exact Ao 4 1 v0 E gA
  |true=>
   by_cases c1:out.length=16
   .rw[zE (.inr (.inl c1))]at hI;subst hI;refine T ?_;exact Ao 4 1 v0 E gA
   .by_cases c2:out.length=0
    .have hn:out=[]:=yC c2;rw[zD (by rw[hn];simp)]at hI;refine T ?_;refine X (Ah Γ.toTy 49 E E E E E (.row E) (.lit (e:=v0) (l:=[v]) E E) y_ kO kO) ?_;refine Ax (r,m,out++[v]) [(1000,49)] ⟨hI,by dsimp only;omega,by simp;omega⟩ (by
      have h3:=jj.2.2;cases m
      .simp
      .have:=h3 rfl;simp;omega) ⟨⟨rfl,rfl,hr _,im,rfl,rfl,rfl,rfl,trivial⟩,⟨.inl rfl,rfl,trivial⟩,rfl,rfl⟩
    .have hk:((out.length:Int)-1).toNat<out.length:=by omega
     have gu:out.getLast? = some (out[((out.length:Int)-1).toNat]'hk):=by
      rw[List.getLast?_eq_getElem?,zR q_];congr 1;have:out.length-1=((out.length:Int)-1).toNat:=by omega
      simp only[this]
     have f2:decide ((out.length:Int)>0)=true:=zL q_;by_cases c3:v<=out[((out.length:Int)-1).toNat]'hk
     .have f3:decide (out[((out.length:Int)-1).toNat]'hk>=v)=true:=zL c3;rw[zE (.inr (.inr ⟨_,gu,c3⟩))]at hI;subst hI;refine T ?_;exact Ao 4 1 v0 E gA
     .have f3:decide (out[((out.length:Int)-1).toNat]'hk>=v)=false:=zK c3;rw[zD (by
       rintro (hh|hh|⟨x,hx,hh⟩)
       .cases hh
       .exact c1 hh
       .rw[gu]at hx;simp only[Option.some.injEq]at hx;rw[<- hx]at hh;exact c3 hh)]at hI
      refine T ?_;refine X (Ah Γ.toTy 49 E E E E E (.row E) (.lit (e:=v0) (l:=[v]) E E) y_ kO kO) ?_;refine Ax (r,m,out++[v]) [(1000,49)] ⟨hI,by dsimp only;omega,by simp;omega⟩ (by
      have h3:=jj.2.2;cases m
      .simp
      .have:=h3 rfl;simp;omega) ⟨⟨rfl,rfl,hr _,im,rfl,rfl,rfl,rfl,trivial⟩,⟨.inl rfl,rfl,trivial⟩,rfl,rfl⟩):∀ (one:ByteArray->Int × Bool) (f:FuncId) (first cap:List SV) (hc:(SV.clo (.func f) first cap).inn []=true) (hr:∀ k:Nat->Nat,(SV.clo (.func f) first cap).ren k=.clo (.func f) first cap) (s0:ByteArray) (hs:s0.size<=10000) (hf:∀ p:ByteArray,p.size<=s0.size->Hg prog f (first++[As p]++cap) (.tup [v0 (one p).1,Ab (one p).2])),Sp f0 [As s0,.clo (.func f) first cap] (.tup [.sl 1 v0 (It one s0).1,Ab (It one s0).2]):=h F0 n0
def Alp:=iC Aa F266 ntmps266
def Aln:=iC Be F212 ntmps212
def Ain(p:ByteArray)(lo hi:Int):Sp 267 [As p,.ref 1 (Aa lo) 0,.ref 1 (Aa hi) 0] (.tup [Aa (numR p lo hi).1,Ab (numR p lo hi).2]):=cT F267 ntmps267 λF hF=>by
 have q:=Alo p lo hi;generalize numR p lo hi=r at *;refine gC q F206 ?_;exact D
def Aim(s:ByteArray)(hi:Int)(hs:s.size<=10000):Sp 213 [As s,Aa 1,Aa hi] (.tup [.sl 1 Aa (It (λp=>numR p 1 hi) s).1,Ab (It (λp=>numR p 1 hi) s).2]):=cT F213 ntmps213 λF hF=>by
 have q:=Alp (λp=>numR p 1 hi) 267 [] [.ref 1 (Aa 1) 0,.ref 1 (Aa hi) 0] rfl (λ_=>rfl) s hs (λp _=>⟨⟨_,_,F267⟩,Ain p 1 hi⟩);generalize It (λp=>numR p 1 hi) s=r at *;refine T ?_;refine Bf 4 1 (Aa 1) E E E ?_;refine Bf 5 1 (Aa hi) E E E (gC q F266 ?_);exact D
def Aet(s:ByteArray)(hs:s.size<=10000):Sp 133 [As s] (.tup [.sl 1 Be (Ei s).1,Ab (Ei s).2]):=cT F133 ntmps133 λF hF=>by
 have q:=Aln D8 130 [] [] rfl (λ_=>rfl) s hs (λp hp=>⟨⟨_,_,F130⟩,lE p q_⟩);unfold Ei;generalize It D8 s=r at *;refine gC q F212 ?_;exact D
def Aoe(s:ByteArray)(hs:s.size<=10000):Sp 135 [As s] (.tup [O1 (prefixR s).1.1 (prefixR s).1.2,Ab (prefixR s).2]):=cT F135 ntmps135 λF hF=>by
 have q1:=aZ s 47 q_;have aa:=prefixR.eq_1 s;have jj:(cutT 47 s).1.size<=s.size:=by
  rw[cutT];split
  .have:=E8 s.data.toList 0 (Mi 47 s.data.toList);rw[K6]at this;rw[this,I4,yP,zY];have:s.data.toList.length=s.size:=rfl;omega
  .exact yE _
 generalize cutT 47 s=ct at *;obtain ⟨p,r,m⟩:=ct;dsimp only at aa jj q1;have q2:=lE p q_;have q3:=Ad8 r 32;generalize prefixR s=res at *;generalize D8 p=a at *;generalize smallT r 32=b at *;obtain ⟨av,ao⟩:=a;obtain ⟨bv,bo⟩:=b;dsimp only at aa q2 q3;cases m<;>cases ao<;>cases bo
 all_goals (simp at aa;subst aa)
 all_goals (refine T ?_;refine C q1 F68 ?_;refine C q2 F130 ?_;refine C q3 F211 ?_;exact D)
abbrev rdO(w:List ByteArray)(i:Nat)(e:Int):Obs:=[(0,.box [.sl 1 As w,Aa i,Aa e])]
def Dq{w:List ByteArray}{i:Nat}(h:i<w.length):wdT w i=w[i]:=by rw[wdT,zR h];rfl
def Qz(w:List ByteArray)(i:Nat)(e:Int)(hi:i<w.length)(hw:w.length<=1000000):Sq 131 [.ptr 0 0] (rdO w i e) (As (wdT w i)) (rdO w (i+1) e):=cT F131 ntmps131 λF hF=>by
 have hk:((i:Int)+1-1).toNat<w.length:=by omega
 have hx:wdT w i=w[((i:Int)+1-1).toNat]'hk:=by
  rw[Dq hi];have:((i:Int)+1-1).toNat=i:=by omega
  simp only[this]
 rw[hx];refine T ?_;exact done E Aq [] (rdO w (i+1) e) (λ_ h=>h) E E U
def J6(w:List ByteArray)(i:Nat)(e:Int)(b:Bool)(c:Int):Sq 128 [.ptr 0 0,Ab b,Aa c] (rdO w i e) (.tup []) (rdO w i (Au e b c)):=cT F128 ntmps128 λF hF=>by
 cases b with
 |false=>
  have hf:Au e false c=e:=by rw[Au,zD y_]
  rw[hf];refine T ?_;exact A6 E .nil [] (rdO w i e) (λ_ h=>h) E E U
 |true=>
  by_cases h:e=0
  .have hf:Au e true c=c:=by rw[Au,zE ⟨rfl,h⟩]
   rw[hf];subst h;refine T ?_;exact A6 E .nil [] (rdO w i c) (λ_ h=>h) E E U
  .have hf:Au e true c=e:=by rw[Au,zD (λx=>h x.2)]
   rw[hf];have hb:(e==0)=false:=kS h;refine T ?_;exact A6 E .nil [] (rdO w i e) (λ_ h=>h) E E U
def Hl(w:List ByteArray)(i:Nat)(e:Int)(hi:i<w.length)(hw:w.length<=1000000)(hs:∀s∈w,s.size<=40):Sq 124 [.ptr 0 0] (rdO w i e) (As (wdT w i)) (rdO w (i+1) (Au e (!(A3 (wdT w i))) 20)):=cT F124 ntmps124 λF hF=>by
 have hwd:(wdT w i).size<=40:=by rw[Dq hi];exact hs _ (zI hi)
 have q1:=Qz w i e hi hw;have q2:=E7 (wdT w i) q_;have q3:=J6 w (i+1) e (!(A3 (wdT w i))) 20;generalize A3 (wdT w i)=nb at *;generalize wdT w i=x at *;refine T ?_;refine X (Ad [] E F131 q1 E W E V) ?_;refine C q2 F71 ?_;refine X (Ad [] E F128 q3 E W E V) ?_;exact done E Aq [] (rdO w (i+1) (Au e (!nb) 20)) (λ_ h=>h) E E U
def Xr(w:List ByteArray)(i:Nat)(e lo yz:Int)(hi:i<w.length)(hw:w.length<=1000000):Sq 126 [.ptr 0 0,Aa lo,Aa yz] (rdO w i e) (Aa (numR (wdT w i) lo yz).1) (rdO w (i+1) (Au e (!(numR (wdT w i) lo yz).2) 21)):=cT F126 ntmps126 λF hF=>by
 have q1:=Qz w i e hi hw;have q2:=Alo (wdT w i) lo yz;generalize numR (wdT w i) lo yz=r at *;have q3:=J6 w (i+1) e (!r.2) 21;generalize wdT w i=x at *;refine T ?_;refine X (Ad [] E F131 q1 E W E V) ?_;refine C q2 F206 ?_;refine X (Ad [] E F128 q3 E W E V) ?_;exact done E Aq [] (rdO w (i+1) (Au e (!r.2) 21)) (λ_ h=>h) E E U
def bO(w:List ByteArray)(i:Nat)(e:Int)(hi:i<w.length)(hw:w.length<=1000000):Sq 125 [.ptr 0 0] (rdO w i e) (Aa (C5 (wdT w i)).1) (rdO w (i+1) (Au e (!(C5 (wdT w i)).2) 21)):=cT F125 ntmps125 λF hF=>by
 have q:=Xr w i e 1 4094 hi hw;unfold C5;generalize numR (wdT w i) 1 4094=r at *;refine T ?_;refine X (Ad [] E F126 q E W E V) ?_;exact done E Aq [] (rdO w (i+1) (Au e (!r.2) 21)) (λ_ h=>h) E E U
def Azy(w:List ByteArray)(i:Nat)(e:Int)(hi:i<w.length)(hw:w.length<=1000000):Sq 132 [.ptr 0 0] (rdO w i e) (Aa (Tu (wdT w i)).1) (rdO w (i+1) (Au e (!(Tu (wdT w i)).2) 21)):=cT F132 ntmps132 λF hF=>by
 have q:=Xr w i e 1 16777215 hi hw;unfold Tu;generalize numR (wdT w i) 1 16777215=r at *;refine T ?_;refine X (Ad [] E F126 q E W E V) ?_;exact done E Aq [] (rdO w (i+1) (Au e (!r.2) 21)) (λ_ h=>h) E E U
def Axq(e c:Int):Au e false c=e:=by rw[Au,zD y_]
def Aae(w:List ByteArray)(i:Nat)(e a8:Int)(hi:i<w.length)(hw:w.length<=1000000)(hs:∀s∈w,s.size<=40):Sq 134 [.ptr 0 0,Aa a8] (rdO w i e) (.sl 1 Aa (listR a8 (wdT w i)).1) (rdO w (i+1) (Au e (!(listR a8 (wdT w i)).2) 21)):=cT F134 ntmps134 λF hF=>by
 have hwd:(wdT w i).size<=40:=by rw[Dq hi];exact hs _ (zI hi)
 have q1:=Qz w i e hi hw;have q2:=Aim (wdT w i) a8 q_;have aa:=listR.eq_1 a8 (wdT w i);generalize listR a8 (wdT w i)=res at *;by_cases hd:wdT w i=A5i
 .rw[zE hd]at aa;subst aa;have hb:(wdT w i==(⟨#[45]⟩:ByteArray))=true:=(L8 _ _).2 hd;rw[show (!(([]:List Int),true).2)=false from rfl,Axq];refine T ?_;refine X (Ad [] E F131 q1 E W E V) ?_;refine Ao 4 1 Aa E (T ?_);exact done E Aq [] (rdO w (i+1) e) (λ_ h=>h) E E U
 .rw[zD hd]at aa;have hb:(wdT w i==(⟨#[45]⟩:ByteArray))=false:=by
   cases hx:(wdT w i==(⟨#[45]⟩:ByteArray))
   .rfl
   .exact yA ((L8 _ _).1 hx) hd
  rw[<-aa]at q2;have q3:=J6 w (i+1) e (!res.2) 21;clear aa;refine T ?_;refine X (Ad [] E F131 q1 E W E V) ?_;refine C q2 F213 ?_;refine X (Ad [] E F128 q3 E W E V) ?_;exact done E Aq [] (rdO w (i+1) (Au e (!res.2) 21)) (λ_ h=>h) E E U
def Aqy(s:ByteArray):∃m:Nat,(macR s).1=m/\m<281474976710656:=by
 rw[macR];split
 .rename_i h;have:=Z2 (s:=s) (j:=6) (λi hi=>by have:=h.2;rw[yT]at this;exact this i (yV.2 hi));refine⟨(Yk s 6).toNat,?_,?_⟩
  .rw[yR this.1]
  .have h2:Yk s 6<281474976710656:=this.2;omega
 .exact⟨0,E,by decide⟩
def macE(s:ByteArray):Bool:=!((macR s).2&&statB (macR s).1)
def Azz(w:List ByteArray)(i:Nat)(e:Int)(hi:i<w.length)(hw:w.length<=1000000)(hs:∀s∈w,s.size<=40):Sq 127 [.ptr 0 0] (rdO w i e) (Bl (macR (wdT w i)).1) (rdO w (i+1) (Au e (macE (wdT w i)) 21)):=cT F127 ntmps127 λF hF=>by
 have hwd:(wdT w i).size<=40:=by rw[Dq hi];exact hs _ (zI hi)
 have q1:=Qz w i e hi hw;have q2:=A1g (wdT w i) q_;obtain ⟨m,bj,cd⟩:=Aqy (wdT w i);have q4:=Aa2 m q_;have aa:=macE.eq_1 (wdT w i);rw[bj]at aa;generalize macE (wdT w i)=be at *;have q3:=J6 w (i+1) e be 21;generalize macR (wdT w i)=r at *;obtain ⟨rv,rb⟩:=r;dsimp only at bj;subst bj;generalize statB (m:Int)=sb at *;cases rb with
 |false=>
  simp at aa;subst aa;refine T ?_;refine X (Ad [] E F131 q1 E W E V) ?_;refine C q2 F207 ?_;refine X (Ad [] E F128 q3 E W E V) ?_;exact done E Aq [] (rdO w (i+1) (Au e true 21)) (λ_ h=>h) E E U
 |true=>
  simp at aa;subst aa;refine T ?_;refine X (Ad [] E F131 q1 E W E V) ?_;refine gK q2 F207 q4 F208 ?_;refine X (Ad [] E F128 q3 E W E V) ?_;exact done E Aq [] (rdO w (i+1) (Au e (!sb) 21)) (λ_ h=>h) E E U
end
section
def Atl{s:ByteArray}{lo hi v:Int}(h:numR s lo hi=(v,true)):lo<=v/\v<=hi:=by
 unfold numR at h
 repeat' split at h
 all_goals first|(simp at h;done)|(simp only[Prod.mk.injEq,and_true]at h;omega)
def I2{s:ByteArray}{lo hi:Int}(h:(numR s lo hi).2=true):lo<=(numR s lo hi).1/\(numR s lo hi).1<=hi:=Atl (v:=(numR s lo hi).1) (by rw[<-h])
def Asx(l:List Int):Prop:=l.Pairwise (·<·)
def Te(one:ByteArray->Int×Bool):∀(ps:List ByteArray) (out r:List Int),Jg one out ps=(r,true)->Asx out->out.length<=16 ->
  Asx r/\r.length<=16/\r.length=out.length+ps.length/\∀x∈r,x∈out\/∃p∈ps,one p=(x,true)
 |[],out,r,h,h1,h2=>by
  rw[Jg]at h;simp only[Prod.mk.injEq,and_true]at h;subst h;exact⟨h1,h2,by simp,λx hx=>.inl hx⟩
 |p::ps,out,r,h,h1,h2=>by
  rw[Jg]at h;split at h
  .simp at h
  .rename_i hn;simp only[uF]at hn;obtain ⟨n1,n2,n3⟩:=hn;have hr:Asx (out++[(one p).1]):=by
    refine List.pairwise_append.2 ⟨h1,List.pairwise_singleton _ _,λy hy z hz=>?_⟩;simp only[zX]at hz;subst hz;cases hl:out.getLast? with
    |none=>rw[List.getLast?_eq_none_iff]at hl;subst hl;cases hy
    |some w=>
     have ab:¬(one p).1<=w:=λhh=>n3 ⟨w,hl,hh⟩
     obtain ⟨c,rfl⟩:∃c,out=c++[w]:=by
      have af:out≠[]:=λe=>by rw[e]at hy;cases hy
      refine⟨out.dropLast,?_⟩;have:=uC af;rw[List.getLast?_eq_some_getLast af]at hl;simp only[Option.some.injEq]at hl;rw[<-hl];exact this.symm
     rcases yH.1 hy with hy|hy
     .have:=(List.pairwise_append.1 h1).2.2 y hy w y_;omega
     .simp only[zX]at hy;omega
   obtain ⟨a,b,c,d⟩:=Te one ps _ r h hr (by rw[zQ];simp;omega);refine⟨a,b,by rw[c];simp;omega,λx hx=>?_⟩;rcases d x hx with hx|⟨q,hq,e⟩
   .rcases yH.1 hx with hx|hx
    .exact .inl hx
    .simp only[zX]at hx;refine .inr ⟨p,by simp,?_⟩;rw[hx];have:(one p).2=true:=kS n1;rw[<-this]
   .exact .inr ⟨q,by simp[hq],e⟩
def Afs{l:List Int}(h:∀i (hi:i+1<l.length),l[i]<l[i+1]):Asx l:=by
 unfold Asx;rw[wM];intro i j hi hj bu
 induction j with
 |zero=>omega
 |succ j ih=>
  by_cases e:i=j
  .subst e;exact h i hj
  .have:=ih q_ q_;have:=h j hj;omega
def Ze:∀(l:List (Bool×Int)),(∀x∈l,x.2≠0)->Bu l=0->∀x∈l,x.1=false
 |[],_,_,x,hx=>by cases hx
 |(b,e)::l,h,h0,x,hx=>by
  rw[Bu]at h0;cases b with
  |true=>rw[zE rfl]at h0;exact yA h0 (h (true,e) y_)
  |false=>
   rw[zD y_]at h0;rcases yI.1 hx with hx|hx
   .rw[hx]
   .exact Ze l (λy hy=>h y (by simp[hy])) h0 x hx
def rising_iff{l:List Int}{lo hi:Int}:J4 l lo hi=true↔Asx l/\(∀x∈l,lo<=x/\x<=hi)/\0<l.length/\l.length<=16:=by
 have hg:∀i (h:i<l.length),nth l (i:Int)=l[i]:=λi h=>Ae (i:=(i:Int)) h
 rw[J4,zG,zG,zJ,zJ,allB_iff];constructor
 .rintro ⟨⟨h1,h2⟩,h⟩;refine⟨Afs λi hi=>?_,λx hx=>?_,h1,h2⟩
  .have:=h (i+1) hi;simp only[Yv,zG,yO,zJ,yJ]at this;rw[show (((i+1:Nat):Int)-1)=(i:Int) by omega,hg i q_]at this;omega
  .obtain ⟨i,hi,rfl⟩:=yY.1 hx;have:=h i hi;simp only[Yv,zG,zJ]at this;exact this.1
 .rintro ⟨h,h1,h2⟩;refine⟨h2,λi hi=>?_⟩;have hx:=h1 _ (zI hi);simp only[Yv,zG,yO,zJ,yJ];refine⟨hx,?_⟩;by_cases h0:i=0
  .exact .inl h0
  .right;rw[show ((i:Int)-1)=((i-1:Nat):Int) by omega,hg (i-1) q_];exact wM.1 h (i-1) i q_ hi q_
def listOK_iff{l:List Int}{hi:Int}:E2 l hi=true↔l=[]\/J4 l 1 hi=true:=by
 rw[E2,Vy,yO,zJ,vA]
def Aye{l:List Int}(hn:∀x∈l,0<=x):Lo l=true↔Asx l/\(∀x∈l,x≠0)/\0<l.length/\l.length<=16:=by
 have hg:∀i (h:i<l.length),l.getD i 0=l[i]:=λi h=>by rw[wJ,zR h];rfl
 rw[Lo,zG,zG,zJ,zJ,yT];constructor
 .rintro ⟨h,h1,h2⟩;refine⟨Afs λi hi=>?_,λx hx=>?_,h1,h2⟩
  .have:=h (i+1) (yV.2 hi);rw[Nat.add_sub_cancel,hg _ hi,hg i q_]at this;simp only[zG,yO,zJ,yJ]at this;omega
  .obtain ⟨i,hi,rfl⟩:=yY.1 hx;have:=h i (yV.2 hi);rw[hg i hi]at this;simp only[zG,zJ]at this;exact this.1
 .rintro ⟨h,h1,h2⟩;refine⟨λi hi=>?_,h2⟩;have hi:=yV.1 hi;have hx:=h1 _ (zI hi);rw[hg i hi];simp only[zG,yO,zJ,yJ];refine⟨hx,?_⟩;by_cases h0:i=0
  .exact .inl h0
  .right;rw[hg (i-1) q_];exact wM.1 h (i-1) i q_ hi q_
def A4x{s:ByteArray}{hi:Int}{l:List Int}(h:listR hi s=(l,true)):E2 l hi=true:=by
 rw[listR]at h;split at h
 .simp only[Prod.mk.injEq,and_true]at h;subst h;rfl
 .rw[It]at h;obtain ⟨a,b,c,d⟩:=Te _ _ _ _ h List.Pairwise.nil j_;refine listOK_iff.2 (.inr (rising_iff.2 ⟨a,λx hx=>?_,?_,b⟩))
  .rcases d x hx with hx|⟨p,_,hp⟩
   .cases hx
   .exact Atl hp
  .rw[c,L4];simp
def Mq(s:ByteArray):0<=(D8 s).1:=by
 rw[D8];split
 .dsimp only;generalize C3 46 s=l;cases hl:l.reverse with
  |nil=>
   have:l=[]:=kS hl;subst this;exact xZ _
  |cons x r=>
   have:l=r.reverse++[x]:=by
    have:=zH List.reverse hl;simpa using this
   rw[this,aL];show 0<=IntKind.u32.wrap _;rw[IntKind.wrap_u32];omega
 .exact xZ _
def U5(s:ByteArray):(D8 s).1<4294967296:=by
 rw[D8];split
 .dsimp only;generalize C3 46 s=l;cases hl:l.reverse with
  |nil=>
   have:l=[]:=kS hl;subst this;decide
  |cons x r=>
   have:l=r.reverse++[x]:=by
    have:=zH List.reverse hl;simpa using this
   rw[this,aL];show IntKind.u32.wrap _<_;rw[IntKind.wrap_u32];omega
 .decide
def A3i{s:ByteArray}{l:List Int}(h:Ei s=(l,true))(h0:l.head? ≠ some 0):Lo l=true:=by
 rw[Ei,It]at h;obtain ⟨a,b,c,d⟩:=Te _ _ _ _ h List.Pairwise.nil j_;have hn:∀x∈l,0<=x:=λx hx=>by
  rcases d x hx with hx|⟨p,_,hp⟩
  .cases hx
  .have:=Mq p;rw[hp]at this;exact this
 refine(Aye hn).2 ⟨a,λx hx e=>?_,by rw[c,L4];simp,b⟩;subst e;cases l with
 |nil=>cases hx
 |cons y l=>
  rcases yI.1 hx with hx|hx
  .subst hx;exact h0 rfl
  .have h1:=(uE.1 a).1 0 hx;have h2:=hn y y_;omega
def H6(a:LineM):Aks a a=true:=by simp[Aks]
def Eo(w:List ByteArray)(row:Int):∀x∈(B8 w row).2,x.2≠0:=by
 unfold B8 Ep;dsimp only
 repeat' split
 all_goals simp
def Au3{w:List ByteArray}{row:Int}(h:(Cp w row).2=0):(Cp w row).1=(B8 w row).1/\∀x∈(B8 w row).2,x.1=false:=by
 rw[Cp]at h|-;split at h
 .simp at h
 .rename_i h1;rw[zD h1];split at h
  .rename_i h2;exact yA h h2
  .rename_i h2;rw[zD h2];exact⟨E,Ze _ (Eo w row) q_⟩
def k1:kindL ⟨#[100,101,118,105,99,101]⟩=1:=by decide +kernel
def k2:kindL ⟨#[112,111,114,116]⟩=2:=by decide +kernel
def k3:kindL ⟨#[108,105,110,107]⟩=3:=by decide +kernel
def k4:kindL ⟨#[115,116,97,116,105,99]⟩=4:=by decide +kernel
def k5:kindL ⟨#[118,116,101,112]⟩=5:=by decide +kernel
def k6:kindL ⟨#[118,110,105]⟩=6:=by decide +kernel
def k7:kindL ⟨#[102,108,111,111,100]⟩=7:=by decide +kernel
def k8:kindL ⟨#[118,114,102]⟩=8:=by decide +kernel
def k9:kindL ⟨#[105,114,98]⟩=9:=by decide +kernel
def Ahi:H9≠Ho:=by decide +kernel
def wd0(a:ByteArray)(l:List ByteArray):wdT (a::l) 0=a:=rfl
def st1(d n m:ByteArray)(r:Int):B8 [⟨#[100,101,118,105,99,101]⟩,d,n,m] r=({lineZ with row:=r,kind:=1,dev:=d,num:=(numR n 0 65535).1,mac:=(macR m).1},[(!(A3 d),20),(!(numR n 0 65535).2,21),(!((macR m).2&&statB (macR m).1),21)]):=by
 unfold B8;simp only[wd0,k1];rfl
def st3(d p q f:ByteArray)(r:Int):B8 [⟨#[108,105,110,107]⟩,d,p,q,f] r=({lineZ with row:=r,kind:=3,dev:=d,port:=p,peer:=q,far:=f},[(!(A3 d),20),(!(A3 p),20),(!(A3 q),20),(!(A3 f),20)]):=by
 unfold B8;simp only[wd0,k3];rfl
def st4(d v m p:ByteArray)(r:Int):B8 [⟨#[115,116,97,116,105,99]⟩,d,v,m,p] r=({lineZ with row:=r,kind:=4,dev:=d,vlan:=(C5 v).1,mac:=(macR m).1,port:=p},[(!(A3 d),20),(!(C5 v).2,21),(!((macR m).2&&statB (macR m).1),21),(!(A3 p),20)]):=by
 unfold B8;simp only[wd0,k4];rfl
def within_iff{n lo hi:Int}:Cs n lo hi=true↔lo<=n/\n<=hi:=by simp[Cs]
def Aef{m:Int}(h:statB m=true):m<281474976710656:=by
 simp only[statB,zG,zJ]at h;omega
def Vo{a b:Int}(h:subnetB a b=true):1<=b/\b<=30:=by
 simp only[subnetB,zG,zJ]at h;omega
structure LineOK(l:LineM):Prop where
 mac:0<=l.mac/\l.mac<18446744073709551616
 addr:0<=l.addr/\l.addr<4294967296
 addrs:∀x∈l.addrs,0<=x/\x<4294967296
def Ahm{s:ByteArray}{v:Int}(h:(C5 s).2=true)(e:(C5 s).1=v):Cs v 1 4094=true:=by
 have:=I2 h;exact within_iff.2 (by rw[<-e];exact this)
def Ayp{s:ByteArray}{v:Int}(h:(Tu s).2=true)(e:(Tu s).1=v):Cs v 1 16777215=true:=by
 have:=I2 h;exact within_iff.2 (by rw[<-e];exact this)
def Aaf{α:Type}{p:α×Bool}(h:p.2=true):p=(p.1,true):=by rw[<-h]
attribute [local irreducible]G DR
set_option maxRecDepth 100000
def Jp{a b:ByteArray}(h:a≠b):(a==b)=false:=by
 cases hx:(a==b)
 .rfl
 .exact yA ((L8 _ _).1 hx) h
def H8{a b:ByteArray}(h:a=b):(a==b)=true:=(L8 _ _).2 h
def Ajr{a b:ByteArray}(h:a≠b):(!(a==b))=true:=by rw[Jp h];rfl
def Aan{a b:ByteArray}(h:a=b):(!(a==b))=false:=by rw[H8 h];rfl
def Io(s:ByteArray):Sp 123 [As s] (Aa (kindL s)):=cT F123 ntmps123 λF hF=>by
 have hk:=kindL.eq_1 s;generalize kindL s=k at *;by_cases c1:s=(⟨#[100,101,118,105,99,101]⟩:ByteArray)
 .have b1:=H8 c1;rw[zE c1]at hk;subst hk;exact gA
 have b1:=Jp c1;rw[zD c1]at hk;by_cases c2:s=(⟨#[112,111,114,116]⟩:ByteArray)
 .have b2:=H8 c2;rw[zE c2]at hk;subst hk;exact gA
 have b2:=Jp c2;rw[zD c2]at hk;by_cases c3:s=(⟨#[108,105,110,107]⟩:ByteArray)
 .have b3:=H8 c3;rw[zE c3]at hk;subst hk;exact gA
 have b3:=Jp c3;rw[zD c3]at hk;by_cases c4:s=(⟨#[115,116,97,116,105,99]⟩:ByteArray)
 .have b4:=H8 c4;rw[zE c4]at hk;subst hk;exact gA
 have b4:=Jp c4;rw[zD c4]at hk;by_cases c5:s=(⟨#[118,116,101,112]⟩:ByteArray)
 .have b5:=H8 c5;rw[zE c5]at hk;subst hk;exact gA
 have b5:=Jp c5;rw[zD c5]at hk;by_cases c6:s=(⟨#[118,110,105]⟩:ByteArray)
 .have b6:=H8 c6;rw[zE c6]at hk;subst hk;exact gA
 have b6:=Jp c6;rw[zD c6]at hk;by_cases c7:s=(⟨#[102,108,111,111,100]⟩:ByteArray)
 .have b7:=H8 c7;rw[zE c7]at hk;subst hk;exact gA
 have b7:=Jp c7;rw[zD c7]at hk;by_cases c8:s=(⟨#[118,114,102]⟩:ByteArray)
 .have b8:=H8 c8;rw[zE c8]at hk;subst hk;exact gA
 have b8:=Jp c8;rw[zD c8]at hk;by_cases c9:s=(⟨#[105,114,98]⟩:ByteArray)
 .have b9:=H8 c9;rw[zE c9]at hk;subst hk;exact gA
 have b9:=Jp c9;rw[zD c9]at hk;subst hk;exact gA
def Im(k:Int)(hk:0<=k/\k<=9)(w:List ByteArray)(hw:w.length<=1000000):Sp 122 [Aa k,.sl 1 As w] (Ab (manyB k w)):=cT F122 ntmps122 λF hF=>by
 have cd:=manyB.eq_1 k w;generalize manyB k w=r at *;rcases (by omega:k=0\/k=1\/k=2\/k=3\/k=4\/k=5\/k=6\/k=7\/k=8\/k=9) with h|h|h|h|h|h|h|h|h|h
 .subst h;have hr:r=false:=by rw[cd];simp
  subst hr;exact gA
 .subst h;have hr:r=decide (w.length=4):=by rw[cd];simp
  subst hr;refine T ?_;refine Ar E Aq (zH Ab ?_) E;by_cases hn:w.length=4
  .rw[hn];rfl
  .rw[zK hn];symm;simp;omega
 .subst h;rw[zD j_,zE rfl]at cd;by_cases h6:w.length<6
  .rw[zE h6]at cd;subst cd;exact gA
  .rw[zD h6]at cd;have f6:decide ((w.length:Int)<6)=false:=zK q_;have h4:(4:Int).toNat<w.length:=by show 4<w.length;omega
   have hx:wdT w 4=w[(4:Int).toNat]'h4:=Dq q_;rw[hx]at cd;by_cases ca:w[(4:Int).toNat]'h4=H9
   .have ba:(w[(4:Int).toNat]'h4==(⟨#[97,99,99,101,115,115]⟩:ByteArray))=true:=H8 ca;have bt:(w[(4:Int).toNat]'h4==(⟨#[116,114,117,110,107]⟩:ByteArray))=false:=Jp (by rw[ca];exact Ahi);have na:(!(w[(4:Int).toNat]'h4==(⟨#[97,99,99,101,115,115]⟩:ByteArray)))=false:=Aan ca;rw[zE ca]at cd;by_cases hn:w.length=6
    .rw[zL hn]at cd;subst cd;exact gA
    .rw[zK hn]at cd;have fb:((w.length:Int)==6)=false:=by rw[zU];omega
     subst cd;exact gA
   .have ba:(w[(4:Int).toNat]'h4==(⟨#[97,99,99,101,115,115]⟩:ByteArray))=false:=Jp ca;have na:(!(w[(4:Int).toNat]'h4==(⟨#[97,99,99,101,115,115]⟩:ByteArray)))=true:=Ajr ca;rw[zD ca]at cd;by_cases sk:w[(4:Int).toNat]'h4=Ho
    .have bt:(w[(4:Int).toNat]'h4==(⟨#[116,114,117,110,107]⟩:ByteArray))=true:=H8 sk;have nt:(!(w[(4:Int).toNat]'h4==(⟨#[116,114,117,110,107]⟩:ByteArray)))=false:=Aan sk;rw[zE sk]at cd;by_cases hn:w.length=7
     .rw[zL hn]at cd;subst cd;exact gA
     .rw[zK hn]at cd;have fb:((w.length:Int)==7)=false:=by rw[zU];omega
      subst cd;exact gA
    .have bt:(w[(4:Int).toNat]'h4==(⟨#[116,114,117,110,107]⟩:ByteArray))=false:=Jp sk;have nt:(!(w[(4:Int).toNat]'h4==(⟨#[116,114,117,110,107]⟩:ByteArray)))=true:=Ajr sk;rw[zD sk]at cd;subst cd;refine T ?_;refine Ar E Aq (zH Ab ?_) E;exact decide_eq_decide.2 q_
 .subst h;have hr:r=decide (w.length=5):=by rw[cd];simp
  subst hr;refine T ?_;refine Ar E Aq (zH Ab ?_) E;by_cases hn:w.length=5
  .rw[hn];rfl
  .rw[zK hn];symm;simp;omega
 .subst h;have hr:r=decide (w.length=5):=by rw[cd];simp
  subst hr;refine T ?_;refine Ar E Aq (zH Ab ?_) E;by_cases hn:w.length=5
  .rw[hn];rfl
  .rw[zK hn];symm;simp;omega
 .subst h;have hr:r=decide (w.length=3):=by rw[cd];simp
  subst hr;refine T ?_;refine Ar E Aq (zH Ab ?_) E;by_cases hn:w.length=3
  .rw[hn];rfl
  .rw[zK hn];symm;simp;omega
 .subst h;have hr:r=decide (w.length=4):=by rw[cd];simp
  subst hr;refine T ?_;refine Ar E Aq (zH Ab ?_) E;by_cases hn:w.length=4
  .rw[hn];rfl
  .rw[zK hn];symm;simp;omega
 .subst h;have hr:r=decide (w.length=4):=by rw[cd];simp
  subst hr;refine T ?_;refine Ar E Aq (zH Ab ?_) E;by_cases hn:w.length=4
  .rw[hn];rfl
  .rw[zK hn];symm;simp;omega
 .subst h;have hr:r=decide (w.length=5):=by rw[cd];simp
  subst hr;refine T ?_;refine Ar E Aq (zH Ab ?_) E;by_cases hn:w.length=5
  .rw[hn];rfl
  .rw[zK hn];symm;simp;omega
 .subst h;have hr:r=decide (w.length=5):=by rw[cd];simp
  subst hr;refine T ?_;refine Ar E Aq (zH Ab ?_) E;by_cases hn:w.length=5
  .rw[hn];rfl
  .rw[zK hn];symm;simp;omega
def lK(a:Nat)(b:Int)(ha:a<4294967296):Sp 136 [O1 a b] (Ab (subnetB a b)):=cT F136 ntmps136 λF hF=>by
 have q1:=Aeb a b ha;have q2:=lF a b ha;have hs:=subnetB.eq_1 (a:Int) b;generalize subnetB (a:Int) b=r at *;generalize Eg (a:Int) b=fi at *;generalize Hx (a:Int) b=la at *;by_cases h1:1<=b
 .by_cases h2:b<=30
  .by_cases h3:(a:Int)=fi
   .have f3:((a:Int) != fi)=false:=by rw[bne_eq_false_iff_eq];exact h3
    have hr:r=false:=by rw[hs];simp[h3]
    subst hr;refine gC q1 F214 ?_;exact D
   .have f3:((a:Int) != fi)=true:=by rw[xC];exact h3
    by_cases h4:(a:Int)=la
    .have f4:((a:Int) != la)=false:=by rw[bne_eq_false_iff_eq];exact h4
     have hr:r=false:=by rw[hs];simp[h4]
     subst hr;refine gB q1 F214 q2 F215 ?_;refine Ar E Aq (zH Ab f4.symm) E
    .have f4:((a:Int) != la)=true:=by rw[xC];exact h4
     have hr:r=true:=by rw[hs];simp[h1,h2,h3,h4]
     subst hr;refine gB q1 F214 q2 F215 ?_;refine Ar E Aq (zH Ab f4.symm) E
  .have hr:r=false:=by rw[hs];simp[h2]
   subst hr;exact gA
 .have hr:r=false:=by rw[hs];simp[h1]
  subst hr;exact gA
def Amt(l:List Int)(v:Int):l.contains v=inB l v:=by
 induction l with
 |nil=>rfl
 |cons x l ih=>
  rw[List.contains_cons,ih,inB,inB,List.any_cons];congr 1;exact Bool.beq_comm
def Kx(l:LineM)(hl:An l.tagged):Sp 209 [A5 l] (Ab (membersB l.vlan l.tagged)):=cT F209 ntmps209 λF hF=>by
 have q:=Ed l.tagged l.vlan hl;have cd:=membersB.eq_1 l.vlan l.tagged;rw[Amt]at cd;generalize membersB l.vlan l.tagged=r at *;generalize inB l.tagged l.vlan=ib at *;unfold An at hl;by_cases h1:0<l.vlan
 .have hr:r=!ib:=by rw[cd];simp[h1]
  subst hr;refine gC q F115 ?_;exact D
 .by_cases h2:l.tagged.length=0
  .have hr:r=false:=by
    rw[cd,zK h1,yC h2];rfl
   subst hr;exact gA
  .have hr:r=!ib:=by
    rw[cd];have:l.tagged.isEmpty=false:=by cases ht:l.tagged<;>simp_all
    simp[this]
   have f2:decide ((l.tagged.length:Int)>0)=true:=zL q_;subst hr;refine gC q F115 ?_;exact D
end
end Go.Sy.Zaa
