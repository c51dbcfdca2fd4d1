/- Parts of a proof. -/
import Derived.Shelf.Strings.Search3
import Derived.Shelf.Strings.Cut
import Derived.Shelf.Strings.Prefix
import Derived.Test.YtolnneiipmfgaaaGreatDoorYC4
import Derived.RangeFuncNested
import Derived.Shelf.RegionOpen
import Derived.OwnWalkIn
import Derived.LoopNIn
import Derived.LoopIn
set_option linter.all false
set_option linter.unusedVariables false
set_option linter.unusedSimpArgs false
set_option linter.deprecated false
namespace Go.Proofs
open Go.Shelf
def Tryz.lays219_ren:Go.Shelf.Ren:=⟨fun|219=>197|217=>275|225=>276|224=>277|267=>278|266=>343|314=>344|n=>n,fun|9=>9|3=>3|4=>4|5=>5|46=>183|146=>270|51=>94|n=>n,fun|1=>0|n=>n⟩
theorem Tryz.lays219:Go.Proofs.Lays.n219 Tryz.prog Tryz.lays219_ren:={
 mixed:=by kernel_rfl
 f217:=Tryz.func275.trans (zH some Go.Sy.z_)
 f219:=Tryz.func197.trans (zH some Go.Sy.z_)
 f224:=Tryz.func277.trans (zH some Go.Sy.z_)
 f225:=Tryz.func276.trans (zH some Go.Sy.z_)
 f266:=Tryz.func343.trans (zH some Go.Sy.z_)
 f267:=Tryz.func278.trans (zH some Go.Sy.z_)
 f314:=Tryz.func344.trans (zH some Go.Sy.z_)
 t3:=Tryz.underlying3
 a3:=Tryz.isAgg3
 z3:=Tryz.sizeOf3
 v3:=Tryz.zeroValue3
 t4:=Tryz.underlying4
 a4:=Tryz.isAgg4
 z4:=Tryz.sizeOf4
 v4:=Tryz.zeroValue4
 t5:=Tryz.underlying5
 a5:=Tryz.isAgg5
 z5:=Tryz.sizeOf5
 v5:=Tryz.zeroValue5
 t9:=Tryz.underlying9
 a9:=Tryz.isAgg9
 z9:=Tryz.sizeOf9
 v9:=Tryz.zeroValue9
 t46:=Tryz.underlying183
 a46:=Tryz.isAgg183
 z46:=Tryz.sizeOf183
 v46:=Tryz.zeroValue183
 t51:=Tryz.underlying94
 a51:=Tryz.isAgg94
 z51:=Tryz.sizeOf94
 v51:=Tryz.zeroValue94
 t146:=Tryz.underlying270
 a146:=Tryz.isAgg270
 z146:=Tryz.sizeOf270
 v146:=Tryz.zeroValue270
 g1:=by kernel_rfl }
open Go.RowKit Go.Lib in
theorem Tryz.stringslite_Index_one(s:ByteArray)(c:UInt8)(w:World):Calls Tryz.prog 197 #[.string s,.string ⟨#[c]⟩] w λe w'=>e=.returned (.int .i64 (Lib.indexByte s.data.toList c))∧w'=w:=Any.stringslite_Index_one Tryz.lays219 s c w
def Tryz.lays143_ren:Go.Shelf.Ren:=⟨fun|143=>288|219=>197|217=>275|225=>276|224=>277|267=>278|266=>343|314=>344|n=>n,fun|9=>9|3=>3|4=>4|5=>5|46=>183|146=>270|51=>94|n=>n,fun|1=>0|n=>n⟩
theorem Tryz.lays143:Go.Proofs.Lays.n143 Tryz.prog Tryz.lays143_ren:={
 mixed:=by kernel_rfl
 f143:=Tryz.func288.trans (zH some Go.Sy.z_)
 f217:=Tryz.func275.trans (zH some Go.Sy.z_)
 f219:=Tryz.func197.trans (zH some Go.Sy.z_)
 f224:=Tryz.func277.trans (zH some Go.Sy.z_)
 f225:=Tryz.func276.trans (zH some Go.Sy.z_)
 f266:=Tryz.func343.trans (zH some Go.Sy.z_)
 f267:=Tryz.func278.trans (zH some Go.Sy.z_)
 f314:=Tryz.func344.trans (zH some Go.Sy.z_)
 t3:=Tryz.underlying3
 a3:=Tryz.isAgg3
 z3:=Tryz.sizeOf3
 v3:=Tryz.zeroValue3
 t4:=Tryz.underlying4
 a4:=Tryz.isAgg4
 z4:=Tryz.sizeOf4
 v4:=Tryz.zeroValue4
 t5:=Tryz.underlying5
 a5:=Tryz.isAgg5
 z5:=Tryz.sizeOf5
 v5:=Tryz.zeroValue5
 t9:=Tryz.underlying9
 a9:=Tryz.isAgg9
 z9:=Tryz.sizeOf9
 v9:=Tryz.zeroValue9
 t46:=Tryz.underlying183
 a46:=Tryz.isAgg183
 z46:=Tryz.sizeOf183
 v46:=Tryz.zeroValue183
 t51:=Tryz.underlying94
 a51:=Tryz.isAgg94
 z51:=Tryz.sizeOf94
 v51:=Tryz.zeroValue94
 t146:=Tryz.underlying270
 a146:=Tryz.isAgg270
 z146:=Tryz.sizeOf270
 v146:=Tryz.zeroValue270
 g1:=by kernel_rfl }
open Go.RowKit Go.Lib in
theorem Tryz.strings_Index_one(s:ByteArray)(c:UInt8)(w:World):Calls Tryz.prog 288 #[.string s,.string ⟨#[c]⟩] w λe w'=>e=.returned (.int .i64 (Lib.indexByte s.data.toList c))∧w'=w:=Any.strings_Index_one Tryz.lays143 s c w
def Tryz.lays101_ren:Go.Shelf.Ren:=⟨fun|101=>213|208=>285|206=>348|n=>n,fun|9=>9|4=>4|3=>3|n=>n,fun|n=>n⟩
theorem Tryz.lays101:Go.Proofs.Lays.n101 Tryz.prog Tryz.lays101_ren:={
 mixed:=by kernel_rfl
 f101:=Tryz.func213.trans (zH some Go.Sy.z_)
 f206:=Tryz.func348.trans (zH some Go.Sy.z_)
 f208:=Tryz.func285.trans (zH some Go.Sy.z_)
 t3:=Tryz.underlying3
 a3:=Tryz.isAgg3
 z3:=Tryz.sizeOf3
 v3:=Tryz.zeroValue3
 t4:=Tryz.underlying4
 a4:=Tryz.isAgg4
 z4:=Tryz.sizeOf4
 v4:=Tryz.zeroValue4
 t9:=Tryz.underlying9
 a9:=Tryz.isAgg9
 z9:=Tryz.sizeOf9
 v9:=Tryz.zeroValue9 }
open Go.RowKit Go.Lib in
theorem Tryz.strings_TrimPrefix(s p:ByteArray)(w:World):Calls Tryz.prog 213 #[.string s,.string p] w λe w'=>e=.returned (.string ⟨(Lib.trimPrefix s.data.toList p.data.toList).toArray⟩)∧w'=w:=Any.strings_TrimPrefix Tryz.lays101 s p w
end Go.Proofs
namespace Go.Sy.YtolnneiipmfgaaaGreatDoor
open Go.Proofs Go.Proofs.Tryz
def L0(c:UInt8)(l:List UInt8):Nat:=(Lib.indexByte l c).toNat
def Db(c:UInt8)(l:List UInt8):Nat→List UInt8
 |0=>l
 |j+1=>(Db c l j).drop (L0 c (Db c l j)+1)
def Vj(c:UInt8)(l:List UInt8)(j:Nat):List UInt8:=(Db c l j).take (L0 c (Db c l j))
def mkT(l:List UInt8):ByteArray:=⟨l.toArray⟩
def C2(c:UInt8)(s:ByteArray):List ByteArray :=
 (List.range (s.data.toList.count c)).map (λj=>mkT (Vj c s.data.toList j))++[mkT (Db c s.data.toList (s.data.toList.count c))]
def Kc:∀{l:List UInt8} {c:UInt8},c∈l→0≤Lib.indexByte l c∧(Lib.indexByte l c).toNat<l.length
 |b::l,c,h=>by
  unfold Lib.indexByte;by_cases hb:b==c
  ·rw[zE hb];simp
  ·rw[zD hb];have oh:c∈l:=by
    rcases yH.1 h with h|h
    ·exact yB (by simp[h]) hb
    ·exact h
   have:=Kc oh;rw[zD (by simp;omega)];simp only[yM];omega
def T1:∀{l:List UInt8} {c:UInt8},c∈l→(l.drop (L0 c l+1)).count c+1=l.count c
 |b::l,c,h=>by
  unfold L0 Lib.indexByte;by_cases hb:b==c
  ·rw[zE hb,List.count_cons,zE hb];simp
  ·rw[zD hb];have oh:c∈l:=by
    rcases yH.1 h with h|h
    ·exact yB (by simp[h]) hb
    ·exact h
   have h1:=Kc oh;rw[zD (by simp;omega),List.count_cons,zD hb,Nat.add_zero,←T1 oh];have e:(Lib.indexByte l c+1).toNat=L0 c l+1:=by unfold L0;omega
   rw[e,List.drop_succ_cons]
def Y7(c:UInt8)(l:List UInt8):∀j,j≤l.count c→(Db c l j).count c+j=l.count c
 |0,_=>rfl
 |j+1,h=>by
  have ih:=Y7 c l j q_;have oh:c∈Db c l j:=List.count_pos_iff.1 q_;have:=T1 oh;rw[Db];omega
def Ate{c:UInt8}{l:List UInt8}{j:Nat}(h:j<l.count c):c∈Db c l j :=
 List.count_pos_iff.1 (by have:=Y7 c l j q_;omega)
def Avm(c:UInt8)(s:ByteArray):Nat:=s.data.toList.count c
def Lm(c:UInt8)(s:ByteArray):(C2 c s).length=Avm c s+1:=by simp only[C2,zQ,xA,tW,zW];rfl
def Aov(c:UInt8)(l:List UInt8):∀j,(Db c l j).length≤l.length
 |0=>yD _
 |j+1=>by rw[Db,yQ];have:=Aov c l j;omega
def Ahk{a b:ByteArray}(h:a.data.toList=b.data.toList):a=b:=by
 cases a;cases b;simp only[ByteArray.mk.injEq];exact Array.toList_inj.1 h
def Is(l:List UInt8):(mkT l).size=l.length:=by simp[mkT,ByteArray.size]
def Ku(l:List UInt8):(mkT l).data.toList=l:=by simp[mkT]
def E4(l:List UInt8)(i j:Nat):(mkT l).extract i j=mkT ((l.take j).drop i):=by
 apply Ahk;simp[mkT,ByteArray.data_extract,List.extract_eq_take_drop,List.drop_take]
def Kt(s:ByteArray):mkT s.data.toList=s:=Ahk (by simp[mkT])
def A23{c:UInt8}{s:ByteArray}{j m:Nat}(h:Lib.indexByte (Db c s.data.toList j) c=m):Vj c s.data.toList j=(Db c s.data.toList j).take m:=by
 rw[Vj,L0,h,zZ]
def A6k{c:UInt8}{s:ByteArray}{j m:Nat}(h:Lib.indexByte (Db c s.data.toList j) c=m):Db c s.data.toList (j+1)=(Db c s.data.toList j).drop (m+1):=by
 rw[Db,L0,h,zZ]
attribute [local irreducible] Go.Sy.G Go.Sy.DR
set_option maxRecDepth 20000
set_option maxHeartbeats 4000000
def Lb(c:UInt8):Bool:=decide (48≤c.toNat)&&decide (c.toNat≤57)
def Yl(s:ByteArray):Nat→Int
 |0=>0
 |j+1=>10*Yl s j+((Bu s j).toNat-48)
def Aq5(s:ByteArray):Bool:=(List.range s.size).all λi=>Lb (Bu s i)
def smallT(s:ByteArray)(bf:Int):Int×Bool :=
 if s.size=0∨3<s.size∨(1<s.size∧(Bu s 0).toNat=48)∨Aq5 s=false then (0,false) else (Yl s s.size,decide (Yl s s.size≤bf))
def Aa1{s:ByteArray}{i:Nat}(hi:i<s.size)(h:Lb (Bu s i)=false):Aq5 s=false:=by
 rw[Aq5,List.all_eq_false];exact⟨i,by simpa using hi,by simp[h]⟩
def Akz{s:ByteArray}(h:∀i,i<s.size→Lb (Bu s i)=true):Aq5 s=true:=by
 rw[Aq5,yV];intro i hi;exact h i (by simpa using hi)
def digB_iff{c:UInt8}:Lb c=true↔48≤c.toNat∧c.toNat≤57:=by simp[Lb]
def Alj{s:ByteArray}:∀{j:Nat},(∀i,i<j→Lb (Bu s i)=true)→0≤Yl s j∧Yl s j<10^j
 |0,_=>by simp[Yl]
 |j+1,h=>by
  have ih:=Alj (s:=s) (j:=j) (λi hi=>h i q_);have hd:=digB_iff.1 (h j q_);rw[Yl];have e:(10:Int)^(j+1)=10*10^j:=by rw[Int.pow_succ];omega
  rw[e];omega
def A1w{n:Nat}(h:48≤n)(h2:n<256):IntKind.u8.wrap ((n:Int)-48)=(n:Int)-48:=by
 rw[IntKind.wrap_u8];omega
def A4i{n:Int}(h:0≤n)(h2:n<256):IntKind.i64.wrap n=n:=by
 rw[IntKind.wrap_i64];omega
def Aia(s:ByteArray)(bf:Int):Sp 160 [Ap s,Aa bf] (.tup [Aa (smallT s bf).1,Ab (smallT s bf).2]):=cT F160 ntmps160 λF hF=>by
 have ak:=smallT.eq_1 s bf;generalize smallT s bf=res at *;refine fW ?_;constructor<;>intro h
 ·have h1:s.size=0:=by simpa using h
  rw[zE (.inl h1)]at ak;subst ak;exact gC
 have h1:¬s.size=0:=by simpa using h
 refine fU ?_;constructor<;>intro h
 ·have h2:3<s.size:=qA h;rw[zE (.inr (.inl h2))]at ak;subst ak;exact gC
 have h2:¬3<s.size:=qB h;refine fU ?_;constructor<;>intro h
 ·have h3:1<s.size:=qA h;refine fU ?_;refine⟨by decide,by simp;omega,?_⟩;refine fW ?_;constructor<;>intro h
  ·have h4:(Bu s 0).toNat=48:=by have:=h;simp at this;omega
   rw[zE (.inr (.inr (.inl ⟨h3,h4⟩)))]at ak;subst ak;exact gC
  have h34:¬(1<s.size∧(Bu s 0).toNat=48):=by
   intro e;have:=h;simp at this;omega
  refine fU ?_;refine Bi s.size (λj=>∀i,i<j→Lb (Bu s i)=true) (λj=>[(0,Ap s),(1,Aa bf),(6,Aa (Yl s j)),(27,Aa s.size),(28,Aa j)]) (λ_=>[]) [] (λi hi=>yB hi q_) uU ?_;intro j hj hI;have hv:=Alj hI;have hp:(10:Int)^j≤1000:=by
   have:j=0∨j=1∨j=2∨j=3:=by omega
   rcases this with rfl|rfl|rfl|rfl<;>decide
  have hsu:Yl s (j+1)=10*Yl s j+((Bu s j).toNat-48):=rfl;have qx:(j:Int).toNat=j:=zZ j;have hb:=(Bu s j).toNat_lt;generalize hvj:Yl s j=v at *;refine fU ?_;constructor<;>intro h
  ·have ab:j<s.size:=by simpa using h
   refine fU ?_;refine⟨by omega,by simpa using ab,?_⟩;rw[qx];refine fW ?_;constructor<;>intro h
   ·have h5:¬48≤(Bu s j).toNat:=qA h;rw[zE (.inr (.inr (.inr (Aa1 ab (by simp only[Lb,yX,yE];exact .inl h5)))))]at ak;subst ak;exact gC
   have h5:48≤(Bu s j).toNat:=qB h;refine fU ?_;refine⟨by omega,by simpa using ab,?_⟩;rw[qx];refine fW ?_;constructor<;>intro h
   ·have h6:¬(Bu s j).toNat≤57:=qA h;rw[zE (.inr (.inr (.inr (Aa1 ab (by simp only[Lb,yX,yE];exact .inr h6)))))]at ak;subst ak;exact gC
   have h6:(Bu s j).toNat≤57:=qB h;refine gG ?_;refine⟨by omega,by simpa using ab,?_⟩;rw[qx];refine fW ?_;rw[A1w h5 hb,A4i q_ q_];refine iL ?_;refine gJ ?_;refine Bc [] hI q_ (λi hi=>?_) ⟨⟨E,E,E,E,zH Aa hsu,E,E,E,E,E,Y⟩,Y,E,E⟩;by_cases bc:i=j
   ·subst bc;exact digB_iff.2 ⟨h5,h6⟩
   ·exact hI i q_
  ·have:j=s.size:=qB h;subst this;rw[zD (by rw[Akz hI];simp only[h1,h2,false_or,Bool.true_eq_false,uH];exact h34),hvj]at ak;subst ak;exact gC
 ·have h34:¬(1<s.size∧(Bu s 0).toNat=48):=qB h;refine fU ?_;refine Bi s.size (λj=>∀i,i<j→Lb (Bu s i)=true) (λj=>[(0,Ap s),(1,Aa bf),(6,Aa (Yl s j)),(27,Aa s.size),(28,Aa j)]) (λ_=>[]) [] (λi hi=>yB hi q_) uU ?_;intro j hj hI;have hv:=Alj hI;have hp:(10:Int)^j≤1000:=by
   have:j=0∨j=1∨j=2∨j=3:=by omega
   rcases this with rfl|rfl|rfl|rfl<;>decide
  have hsu:Yl s (j+1)=10*Yl s j+((Bu s j).toNat-48):=rfl;have qx:(j:Int).toNat=j:=zZ j;have hb:=(Bu s j).toNat_lt;generalize hvj:Yl s j=v at *;refine fU ?_;constructor<;>intro h
  ·have ab:j<s.size:=by simpa using h
   refine fU ?_;refine⟨by omega,by simpa using ab,?_⟩;rw[qx];refine fW ?_;constructor<;>intro h
   ·have h5:¬48≤(Bu s j).toNat:=qA h;rw[zE (.inr (.inr (.inr (Aa1 ab (by simp only[Lb,yX,yE];exact .inl h5)))))]at ak;subst ak;exact gC
   have h5:48≤(Bu s j).toNat:=qB h;refine fU ?_;refine⟨by omega,by simpa using ab,?_⟩;rw[qx];refine fW ?_;constructor<;>intro h
   ·have h6:¬(Bu s j).toNat≤57:=qA h;rw[zE (.inr (.inr (.inr (Aa1 ab (by simp only[Lb,yX,yE];exact .inr h6)))))]at ak;subst ak;exact gC
   have h6:(Bu s j).toNat≤57:=qB h;refine gG ?_;refine⟨by omega,by simpa using ab,?_⟩;rw[qx];refine fW ?_;rw[A1w h5 hb,A4i q_ q_];refine iL ?_;refine gJ ?_;refine Bc [] hI q_ (λi hi=>?_) ⟨⟨E,E,E,E,zH Aa hsu,E,E,E,E,E,Y⟩,Y,E,E⟩;by_cases bc:i=j
   ·subst bc;exact digB_iff.2 ⟨h5,h6⟩
   ·exact hI i q_
  ·have:j=s.size:=qB h;subst this;rw[zD (by rw[Akz hI];simp only[h1,h2,false_or,Bool.true_eq_false,uH];exact h34),hvj]at ak;subst ak;exact gC
end Go.Sy.YtolnneiipmfgaaaGreatDoor
namespace Go.Sy.YtolnneiipmfgaaaGreatDoor
open Go.Proofs Go.Proofs.Tryz
def Un{α:Type}(l:List α)(j:Nat):List α:=List.ofFn λi:Fin l.length=>if i.1<j∨l.length-j≤i.1 then l[l.length-1-i.1] else l[i.1]
def D3{α:Type}(l:List α)(j:Nat):(Un l j).length=l.length:=by simp[Un]
def Q6{α:Type}(l:List α)(j i:Nat)(h:i<l.length):(Un l j)[i]'(by rw[D3];exact h)=if i<j∨l.length-j≤i then l[l.length-1-i] else l[i]:=by simp[Un]
def Ab3{α:Type}(l:List α):Un l 0=l:=by
 apply tI (D3 l 0);intro i h1 h2;rw[Q6 l 0 i h2,zD q_]
def Afw{α:Type}(l:List α)(j:Nat)(h:l.length≤2*j+1):Un l j=l.reverse:=by
 apply tI (by rw[D3,List.length_reverse]);intro i h1 h2;have hi:i<l.length:=by rw[D3]at h1;exact h1
 rw[Q6 l j i hi,List.getElem_reverse];split
 ·rfl
 ·congr 1;omega
def Ayv{α:Type}(l:List α)(j:Nat)(h:2*j+1<l.length):((Un l j).set j ((Un l j)[l.length-1-j]'(by rw[D3];omega))).set (l.length-1-j) ((Un l j)[j]'(by rw[D3];omega))=Un l (j+1):=by
 apply tI (by simp only[yP,D3]);intro i h1 h2;have hi:i<l.length:=by rw[D3]at h2;exact h2
 rw[vH,vH,Q6 l (j+1) i hi,Q6 l j i hi,Q6 l j _ q_,Q6 l j _ q_];by_cases e1:l.length-1-j=i
 ·rw[zE e1,zD q_,zE q_];congr 1;omega
 ·rw[zD e1];by_cases e2:j=i
  ·rw[zE e2,zD q_,zE q_];congr 1;omega
  ·rw[zD e2];by_cases e3:i<j∨l.length-j≤i
   ·rw[zE e3,zE q_]
   ·rw[zD e3,zD q_]
def Ab4{α:Type}{l u:List α}{j k:Nat}(hu:Un l j=u)(h:2*j+1<l.length)(hk:l.length-1-j=k)(h1:k<u.length)(h2:j<u.length):(u.set j u[k]).set k u[j]=Un l (j+1):=by
 subst hu hk;exact Ayv l j h
def revDigs(u:Nat):List UInt8:=if u<10 then [UInt8.ofNat (48+u)] else UInt8.ofNat (48+u%10)::revDigs (u/10)
def U6(u:Nat):0<(revDigs u).length:=by
 rw[revDigs];split<;>simp
def U7:∀(j u:Nat),j+1<(revDigs u).length↔0<u/10^(j+1)
 |0,u=>by
  rw[revDigs];split
  ·simp;omega
  ·have:=U6 (u/10);simp only[yM];omega
 |j+1,u=>by
  rw[revDigs];have e:u/10^(j+1+1)=u/10/10^(j+1):=by rw[tP,tQ 10 (j+1),vB (10^(j+1))]
  rw[e];split
  ·have:u/10=0:=by omega
   rw[this];simp
  ·rw[yM,←U7 j (u/10)];omega
def U8:∀(j u:Nat) (h:j<(revDigs u).length),(revDigs u)[j]=UInt8.ofNat (48+u/10^j%10)
 |0,u,h=>by
  have e:(revDigs u)[0]=UInt8.ofNat (48+u%10):=by
   simp only[revDigs.eq_1 u];split
   ·show UInt8.ofNat (48+u)=UInt8.ofNat (48+u%10);rw[xH (by assumption)]
   ·rfl
  rw[e];simp
 |j+1,u,h=>by
  have hu:¬u<10:=λhu=>by rw[revDigs,zE hu]at h;simp at h
  have e0:revDigs u=UInt8.ofNat (48+u%10)::revDigs (u/10):=by rw[revDigs.eq_1 u,zD hu]
  have e:u/10^(j+1)=u/10/10^j:=by rw[tP,tQ,vB]
  have hl:j<(revDigs (u/10)).length:=by rw[e0]at h;simpa using h
  have:=U8 j (u/10) hl;rw[e,←this];simp only[e0,uQ]
def Qt:∀(k u:Nat),u<10^k→(revDigs u).length≤k+1
 |0,u,h=>by rw[revDigs,zE (by simp at h;omega)];simp
 |k+1,u,h=>by
  rw[revDigs];split
  ·simp
  ·have:=Qt k (u/10) (by rw[tQ]at h;omega);simp only[yM];omega
def A3h(n:Int):List UInt8:=(revDigs n.natAbs++(if n<0 then [45] else [])).reverse
def Apg(n:Int):ByteArray:=mkT (A3h n)
def A3g(m:Nat):A3h m=(revDigs m).reverse:=by
 rw[A3h,Int.natAbs_natCast,zD q_,xM]
set_option maxRecDepth 20000 in
def A3e(m:Nat)(hb:m<9223372036854775808):Sp 214 [Aa m] (Ap (Apg m)):=cT F214 ntmps214 λF hF=>by
 have d6:=U6 m;have hlen:=λj=>U7 j m
 have bg:=λj=>U8 j m
 have lc:(revDigs m).length≤20:=Qt 19 m q_;rw[Apg,A3g];generalize revDigs m=D at *;refine fW ?_;refine Ce 3 1000 1 Ak E E ?_;refine A8 D.length (λj=>[(0,Aa m),(3,.osl 1000),(4,Bj (m/10^j:Nat)),(5,Ab (decide (j<D.length)))]) (λj=>[(1000,.row 1 Ak (D.take j))]) []
  ⟨⟨rfl,rfl,rfl,rfl,zH (λz=>SV.val (.int .u64 z)) (by rw[IntKind.wrap_u64];omega),rfl,zH Ab (zL d6),rfl,trivial⟩,⟨.inl rfl,rfl,trivial⟩,rfl,rfl⟩ ?_
 intro j hj;refine fU ?_;constructor<;>intro h
 ·have ab:j<D.length:=zO h;have hgj:=bg j ab;have hlj:=hlen j;have e:m/10^(j+1)=m/10^j/10:=by rw[tP,tQ]
  have hq:m/10^j≤m:=Nat.div_le_self _ _;rw[e]at hlj;refine fU ?_;refine⟨by decide,?_⟩;refine fW ?_;refine Ah (Ag Γ.toTy 23 E E E E E (.row E) (.lit (l:=[D[j]]) E ?_) y_ ?_ ?_) E E ?_
  ·rw[hgj];simp only[xW,vU,Ak];congr 3;generalize m/10^j=q at *;rw[tZ (vY _),IntKind.wrap_u64,IntKind.wrap_u8];simp
  ·simp;omega
  ·simp;omega
  refine fU ?_;refine⟨by decide,?_⟩;refine fW ?_;refine Az [(1000,23)] ab ⟨⟨E,E,E,E,zH (λz=>SV.val (.int .u64 z)) ?_,E,zH Ab ?_,E,Y⟩,⟨.inl (zH (Ob.row 1 Ak) (yC ab)),E,Y⟩,E,E⟩
  ·rw[e,uC (vY _),IntKind.wrap_u64];generalize m/10^j=q at *;omega
  ·rw[uC (vY _),IntKind.wrap_u64];generalize m/10^j=q at *;refine decide_eq_decide.2 ?_;omega
 ·have:j=D.length:=qB h;subst this;rw[yN];refine gG ?_;refine A8 (D.length/2) (λj=>[(3,.osl 1000),(6,Aa j),(7,Aa (D.length-1-j:Nat))]) (λj=>[(1000,.row 1 Ak (Un D j))]) []
   ⟨⟨rfl,rfl,rfl,rfl,zH (λz=>SV.val (.int .i64 z)) q_,rfl,trivial⟩,⟨.inl (zH (Ob.row 1 Ak) (Ab3 D)),rfl,trivial⟩,rfl,rfl⟩ ?_
  intro i hi;have sj:=D3 D i;refine fU ?_;constructor<;>intro h2
  ·have ab:2*i+1<D.length:=by have:=zO h2;omega
   obtain ⟨u,hu⟩:∃u,Un D i=u:=⟨_,rfl⟩
   obtain ⟨k,hk⟩:∃k,D.length-1-i=k:=⟨_,rfl⟩
   rw[hu]at sj;have hs:=Ab4 hu ab hk q_ q_;rw[hu,hk];refine fU ?_;refine⟨by omega,by omega,?_⟩;refine fW ?_;refine⟨E,by omega,?_⟩;refine fW ?_;refine⟨by omega,by omega,?_⟩;refine fW ?_;refine⟨E,by omega,?_⟩;refine fW ?_;refine⟨by omega,by omega,?_⟩;refine fW ?_;refine⟨E,by omega,u[k],E,E,?_⟩;refine fW ?_;refine⟨by omega,by simp;omega,?_⟩;refine fW ?_;refine⟨E,by simp;omega,u[i],E,E,?_⟩;refine fW ?_;refine⟨z_,?_⟩;refine gJ ?_;refine iL ?_;refine fW ?_;refine Az [] q_ ⟨⟨E,E,E,E,zH (λz=>SV.val (.int .i64 z)) q_,E,Y⟩,⟨.inl (zH (Ob.row 1 Ak) hs.symm),E,Y⟩,E,E⟩
  ·have h3:D.length≤2*i+1:=by have:=zT h2;omega
   rw[Afw D i h3];refine fU ?_;refine Ah (K3 Γ.toTy (bs:=D.reverse) E E E E E E E (.row E)) E E ?_;exact gC
attribute [local irreducible] Go.Sy.G Go.Sy.DR
set_option maxRecDepth 20000
set_option maxHeartbeats 4000000
def Avb{n:Net}(h:Ac n=true){i:Nat}(hi:i<n.ports.length):J8 n i n.ports[i]=true:=by
 simp only[Ac,zG]at h;exact allB_iff.1 h.1.1.1.1.1.2 i hi
def Axb{n:Net}(h:Ac n=true){i:Nat}(hi:i<n.domains.length):O4 n i n.domains[i]=true:=by
 simp only[Ac,zG]at h;exact allB_iff.1 h.1.1.1.1.1.1.1.2 i hi
def Aky{n:Net}(h:Ac n=true):n.devices.length≤8∧n.ports.length≤40∧n.links.length≤20∧n.domains.length≤48∧n.irbs.length≤48:=by
 simp only[Ac,Ai8,zG,zK]at h;omega
def Hp{n:Net}(h:Ac n=true){i:Nat}(hi:i<n.domains.length):(0≤n.domains[i].dev∧n.domains[i].dev.toNat<n.devices.length)∧(1≤n.domains[i].vlan∧n.domains[i].vlan≤4094)∧(0≤n.domains[i].vni∧n.domains[i].vni≤16777215)∧(n.domains[i].irb=-1∨0≤n.domains[i].irb∧n.domains[i].irb.toNat<n.irbs.length):=by
 have:=Axb h hi;simp only[O4,Ai,zG,yO,zK,yI]at this;omega
end Go.Sy.YtolnneiipmfgaaaGreatDoor
namespace Go.Sy
def Ars(C:Cx){β:Type}(I:β→Prop)(L:β→List (Nat×SV))(O:β→Obs)(μ:β→Nat)(x:β)(a:Act)(w:World):Prop :=
 ∃x':{y:β // I y},∃κ,μ x'.1<μ x∧St C.F C.n (mkS (L x'.1) (O x'.1)) κ a w
def Cj{C:Cx}{k:List KI}{s:SS}{body:Code}{β:Type}(I:β→Prop)(L:β→List (Nat×SV))(O:β→Obs)(μ:β→Nat)(x₀:β)(ρ:List (Nat×Nat))(h0:I x₀)(a8:Sub C s ρ (L x₀) (O x₀))(h:∀x,I x→G C (.code body::.inv (Ars C I L O μ x)::k) (mkS (L x) (O x))):G C (.code (.loop body)::k) s :=
 Wl (α:={y:β // I y}) (λx=>L x.1) (λx=>O x.1) (λx=>μ x.1) ⟨x₀,h0⟩ ρ a8 (λx=>h x.1 x.2)
def Ax{C:Cx}{k:List KI}{s:SS}{β:Type}{I:β→Prop}{L:β→List (Nat×SV)}{O:β→Obs}{μ:β→Nat}{x:β}(x':β)(ρ:List (Nat×Nat))(h':I x')(hμ:μ x'<μ x)(a8:Sub C s ρ (L x') (O x')):G C (.inv (Ars C I L O μ x)::k) s:=λ_ _ _ hs=>⟨⟨x',h'⟩,_,hμ,a8.st hs⟩
def Wk{C:Cx}{kk:List KI}{s:SS}(k d:Nat){sz:Nat}{α:Type}{e:α→SV}{l:List α}(h:s.h k=.row sz e l)(hd:s.h d=.fresh)(cd:k≠d)(hg:G C kk ⟨λi=>frz k (.osl d) (s.σ i),upd (λj=>bif Nat.beq j k then .non else A0j k (.osl d) (s.h j)) d (.row sz e l)⟩):G C kk s:=λκ a w hs=>by
 have cn:=hs.obj k;rw[h]at cn;have az:κ d=.new:=by have:=hs.obj d;rwa [hd]at this
 have fin:∀κ':Ka,(∀j,j≠k→j≠d→κ' j=κ j)→Step (λj=>j=k∨j=d) κ w κ' w→Inv κ' w→(∀v,Rd κ w (.osl k) v→Rd κ' w (.osl d) v)→ObOK κ' w d (.row sz e l)→den C.P C.B kk .normal a w:=by
  intro κ' af st inv hv ho;refine hg κ' a w ⟨hs.defers,hs.size,inv,hs.ctx.step inv st,λj=>Am1 st hv _ _ (hs.slot j),λj=>?_⟩;show ObOK κ' w j (upd (λj=>bif Nat.beq j k then .non else A0j k (.osl d) (s.h j)) d (.row sz e l) j);by_cases hj:j=d
  ·subst hj;rw[B1];exact ho
  ·rw[Cy _ _ hj];by_cases an:j=k
   ·subst an;rw[show Nat.beq j j=true from tN j];trivial
   ·rw[show Nat.beq j k=false from by cases hb:Nat.beq j k with|false=>rfl|true=>exact yB (yJ hb) an];have hb:=ObOK.step st (λe=>e.elim an hj) _ (hs.obj j);have h0:=hs.obj j;show ObOK κ' w j (A0j k (.osl d) (s.h j));cases hh:s.h j with
    |box m=>
     rw[hh]at h0 hb;obtain ⟨b,cs,T,fr,e1,e2,e3,e4,e5⟩:=h0;exact⟨b,cs,T,fr,(af j an hj).trans e1,e2,e3,e4,K6 st hv m cs e5⟩
    |tbox T m=>
     rw[hh]at h0 hb;obtain ⟨b,cs,fr,e1,e2,e3,e4,e5⟩:=h0;exact⟨b,cs,fr,(af j an hj).trans e1,e2,e3,e4,K6 st hv m cs e5⟩
    |fresh=>rw[hh]at hb;exact hb
    |non=>rw[hh]at hb;exact hb
    |row dy e' l'=>rw[hh]at hb;exact hb
    |lit dy svs=>rw[hh]at hb;exact hb
    |glob dy x' g'=>rw[hh]at hb;exact hb
    |pin b' n' du dy e' l'=>rw[hh]at hb;exact hb
    |dat v' dy e' l'=>rw[hh]at hb;exact hb
    |trow T' m'=>rw[hh]at hb;exact hb
    |rown dy e' l' i' za=>
     rw[hh]at h0;obtain ⟨b2,tc,xc,T2,zb,f1,f2,f3,f4,f5,f6,f7,zc,v1,v2,v3,v4⟩:=h0;refine⟨b2,tc,xc,T2,zb,(af j an hj).trans f1,f2,f3,f4,f5,λm y hm hy=>?_,f7,zc,v1,v2,K6 st hv za zc v3,v4⟩;obtain ⟨g0,u,g1,g2⟩:=f6 m y hm hy;exact⟨g0,u,RdD.keep st.keeps _ _ g1,g2⟩
 rcases cn with ⟨h1,rfl⟩|⟨b,cap,cs,T,fr,e1,e2,e3,e4,e5,e6⟩
 ·have st:=Kl (Lz hs.inv (some k)) (by show Ei κ k .dead d=.new;rw[Cd _ _ (Ne.symm cd)];exact az) (e:=.nil) (Grew.refl w) (λb hb=>by cases hb);refine fin _ (λj h1 h2=>by rw[Cd _ _ h2];exact Cd _ _ h1) (((J4 (some k)).weaken (λj hj=>.inl (Option.some.inj hj).symm)).trans (st.1.weaken (λj hj=>.inr hj))) st.2 (λv hv=>?_) (.inl ⟨Ay _ _ _,E⟩);simp only[Rd,h1]at hv;simp[Rd,Ay,hv]
 ·obtain ⟨st,inv⟩:=Q3 (n':=l.length) (w':=w) hs.inv e1 az rfl rfl rfl rfl (λ_ _=>rfl);refine fin _ (λj h1 h2=>by rw[Cd _ _ h2];exact Cd _ _ h1) st inv (λv hv=>?_) (.inr ⟨b,cap,cs,T,fr,Ay _ _ _,e2,e3,e4,e5,λi x hx=>?_⟩)
  ·simp only[Rd,e1]at hv;simp[Rd,Ay,hv]
  ·obtain ⟨q1,u,q2,q3⟩:=e6 i x hx;exact⟨q1,u,RdD.keep st.keeps _ _ q2,q3⟩
def J3{C:Cx}{k:List KI}{s:SS}(d:Nat){sz:Nat}{α:Type}(e:α→SV)(l:List α){svs:List SV}(h:s.h d=.lit sz svs)(hl:l.map e=svs)(hg:G C k ⟨s.σ,upd s.h d (.row sz e l)⟩):G C k s:=λκ a w hs=>by
 refine hg κ a w ⟨hs.defers,hs.size,hs.inv,hs.ctx,hs.slot,λj=>?_⟩;show ObOK κ w j (upd s.h d (.row sz e l) j);by_cases hj:j=d
 ·subst hj;rw[B1];have cn:=hs.obj j;rw[h]at cn;have hlen:l.length=svs.length:=by rw[←hl,xA]
  obtain ⟨b,cap,cs,T,fr,e1,e2,e3,e4,e5,e6⟩:=cn;exact .inr ⟨b,cap,cs,T,fr,by rw[hlen];exact e1,e2,e3,e4,by omega,λi x hx=>by rw[hlen];exact e6 i x (Q5 hl i x hx)⟩
 ·rw[Cy _ _ hj];exact hs.obj j
end Go.Sy
namespace Go.Sy.YtolnneiipmfgaaaGreatDoor
open Go.Proofs Go.Proofs.Tryz
def A3f(m:Nat)(h:0<m):A3h (-(m:Int))=(revDigs m++[45]).reverse:=by
 rw[A3h,zE q_];have:(-(m:Int)).natAbs=m:=by omega
 rw[this]
set_option maxRecDepth 20000 in
def Apf(m:Nat)(h0:0<m)(hb:m≤9223372036854775808):Sp 214 [Aa (-(m:Int))] (Ap (Apg (-(m:Int)))):=cT F214 ntmps214 λF hF=>by
 have d6:=U6 m;have hlen:=λj=>U7 j m
 have bg:=λj=>U8 j m
 have lc:(revDigs m).length≤20:=Qt 19 m q_;have w1:IntKind.u64.wrap (0-IntKind.u64.wrap (-(m:Int)))=m:=by rw[IntKind.wrap_u64,IntKind.wrap_u64];omega
 rw[Apg,A3f m h0];generalize revDigs m=D at *;refine fW ?_;refine⟨λ_=>?_,λh=>yB (zT h) q_⟩;refine Ce 3 1000 1 Ak E E ?_;refine fU ?_;refine A8 D.length (λj=>[(0,Aa (-(m:Int))),(3,.osl 1000),(4,Bj (m/10^j:Nat)),(5,Ab (decide (j<D.length)))]) (λj=>[(1000,.row 1 Ak (D.take j))]) []
  ⟨⟨rfl,rfl,rfl,rfl,zH (λz=>SV.val (.int .u64 z)) (by simpa using w1.symm),rfl,zH Ab (zL d6),rfl,trivial⟩,⟨.inl rfl,rfl,trivial⟩,rfl,rfl⟩ ?_
 intro j hj;refine fU ?_;constructor<;>intro h
 ·have ab:j<D.length:=zO h;have hgj:=bg j ab;have hlj:=hlen j;have e:m/10^(j+1)=m/10^j/10:=by rw[tP,tQ]
  have hq:m/10^j≤m:=Nat.div_le_self _ _;rw[e]at hlj;refine fU ?_;refine⟨by decide,?_⟩;refine fW ?_;refine Ah (Ag Γ.toTy 23 E E E E E (.row E) (.lit (l:=[D[j]]) E ?_) y_ ?_ ?_) E E ?_
  ·rw[hgj];simp only[xW,vU,Ak];congr 3;generalize m/10^j=q at *;rw[tZ (vY _),IntKind.wrap_u64,IntKind.wrap_u8];simp
  ·simp;omega
  ·simp;omega
  refine fU ?_;refine⟨by decide,?_⟩;refine fW ?_;refine Az [(1000,23)] ab ⟨⟨E,E,E,E,zH (λz=>SV.val (.int .u64 z)) ?_,E,zH Ab ?_,E,Y⟩,⟨.inl (zH (Ob.row 1 Ak) (yC ab)),E,Y⟩,E,E⟩
  ·rw[e,uC (vY _),IntKind.wrap_u64];generalize m/10^j=q at *;omega
  ·rw[uC (vY _),IntKind.wrap_u64];generalize m/10^j=q at *;refine decide_eq_decide.2 ?_;omega
 ·have:j=D.length:=qB h;subst this;rw[yN];refine fU ?_;refine⟨λ_=>?_,λh=>yB (zT h) q_⟩;refine fU ?_;refine Ah (Ag Γ.toTy 30 E E E E E (.row E) (.lit (e:=Ak) (l:=[45]) E E) y_ (by simp;omega) (by simp;omega)) E E ?_;have hDl:(D++[45]).length=D.length+1:=by simp
  generalize D++[45]=D at *;refine gG ?_;refine A8 (D.length/2) (λj=>[(3,.osl 1000),(6,Aa j),(7,Aa (D.length-1-j:Nat))]) (λj=>[(1000,.row 1 Ak (Un D j))]) [(1000,30)]
   ⟨⟨rfl,rfl,rfl,rfl,zH (λz=>SV.val (.int .i64 z)) q_,rfl,trivial⟩,⟨.inl (zH (Ob.row 1 Ak) (Ab3 D)),rfl,trivial⟩,rfl,rfl⟩ ?_
  intro i hi;have sj:=D3 D i;refine fU ?_;constructor<;>intro h2
  ·have ab:2*i+1<D.length:=by have:=zO h2;omega
   obtain ⟨u,hu⟩:∃u,Un D i=u:=⟨_,rfl⟩
   obtain ⟨k,hk⟩:∃k,D.length-1-i=k:=⟨_,rfl⟩
   rw[hu]at sj;have hs:=Ab4 hu ab hk q_ q_;rw[hu,hk];refine fU ?_;refine⟨by omega,by omega,?_⟩;refine fW ?_;refine⟨E,by omega,?_⟩;refine fW ?_;refine⟨by omega,by omega,?_⟩;refine fW ?_;refine⟨E,by omega,?_⟩;refine fW ?_;refine⟨by omega,by omega,?_⟩;refine fW ?_;refine⟨E,by omega,u[k],E,E,?_⟩;refine fW ?_;refine⟨by omega,by simp;omega,?_⟩;refine fW ?_;refine⟨E,by simp;omega,u[i],E,E,?_⟩;refine fW ?_;refine⟨z_,?_⟩;refine gJ ?_;refine iL ?_;refine fW ?_;refine Az [] q_ ⟨⟨E,E,E,E,zH (λz=>SV.val (.int .i64 z)) q_,E,Y⟩,⟨.inl (zH (Ob.row 1 Ak) hs.symm),E,Y⟩,E,E⟩
  ·have h3:D.length≤2*i+1:=by have:=zT h2;omega
   rw[Afw D i h3];refine fU ?_;refine Ah (K3 Γ.toTy (bs:=D.reverse) E E E E E E E (.row E)) E E ?_;exact gC
attribute [local irreducible] Go.Sy.G Go.Sy.DR
set_option maxRecDepth 20000
set_option maxHeartbeats 4000000
def Anu(n:Int):Prop:=-9223372036854775808≤n∧n<9223372036854775808
def Azh(n:Int)(h:Anu n):Sp 214 [Aa n] (Ap (Apg n)):=by
 unfold Anu at h;by_cases h0:0≤n
 ·obtain ⟨m,rfl⟩:=xK h0;exact A3e m q_
 ·obtain ⟨m,xx⟩:∃m:Nat,n=-(m:Int):=⟨n.natAbs,by omega⟩
  subst xx;exact Apf m q_ q_
def Ml(p:Nat→Bool)(j:Nat):List Int:=((List.range j).filter p).map Int.ofNat
def Ahg(p:Nat→Bool)(j:Nat):Ml p (j+1)=if p j=true then Ml p j++[(j:Int)] else Ml p j:=by
 rw[Ml,vA,List.filter_append,wZ];split
 ·rename_i h;rw[List.filter_cons_of_pos (by exact h),List.filter_nil];rfl
 ·rename_i h;rw[List.filter_cons_of_neg (by exact h),List.filter_nil,vU,xM];rfl
def I6(p:Nat→Bool)(j:Nat):(Ml p j).length≤j:=by
 have:=tU p (List.range j);simpa [Ml] using this
def Sn{p:Nat→Bool}{j:Nat}{x:Int}:x∈Ml p j↔0≤x∧x<j∧p x.toNat=true:=by
 simp only[Ml,yS,uO,xC];constructor
 ·rintro ⟨i,h1,rfl⟩;exact⟨vY i,by simp;omega,h1.2⟩
 ·rintro ⟨h1,h2,h3⟩;exact⟨x.toNat,⟨by omega,h3⟩,yR h1⟩
def Ug(n:Net)(d:Domain)(i:Nat):Bool:=(nth n.ports i).dev==d.dev&&Cw (nth n.ports i) d.vlan
def A6(n:Net)(i:Int):List Int:=Ml (Ug n (nth n.domains i)) n.ports.length
def A5(n:Net)(i:Int):List Int:=if (0≤i∧i<n.domains.length)∧Ac n=true then A6 n i else []
def Kw(n:Net)(hn:n.Fin)(i:Int):Am (A5 n i):=by
 have:=hn.ports;unfold Am at this⊢;unfold A5;split
 ·have:=I6 (Ug n (nth n.domains i)) n.ports.length;unfold A6;omega
 ·simp
def Qv(n:Net)(hn:n.Fin)(i:Int):Sp 75 [Ao n,Aa i] (.sl 1 Aa (A5 n i)):=cT F75 ntmps75 λF hF=>by
 have hr:=A0 n hn;have a7:=Ln 6 Aq n.domains i;have hsp:=hn.ports;unfold Am at hsp
 conv=>whnf
 refine c0 hr F20 ?_;cases hb:Ac n
 ·rw[A5,zD (by simp[hb])]
  (refine oT ?_;refine bT ?_)
  refine An 4 1 Aa E ?_;exact gF
 refine oF ?_;refine c0 a7 F130 ?_;by_cases hi:0≤i∧i<n.domains.length;rotate_left
 ·have h0:Ai i n.domains.length=false:=by simp only[Ai,yX,yE];omega
  rw[A5,zD (by simp[hb,hi]),h0];refine oT ?_;refine An 4 1 Aa E ?_;exact gF
 have h0:Ai i n.domains.length=true:=by simp only[Ai,zG,zK];exact hi
 rw[A5,zE ⟨hi,hb⟩,h0];have hk:i.toNat<n.domains.length:=by omega
 have hf:=Hp hb hk;have e1:nth n.domains i=n.domains[i.toNat]:=Af hk;rw[A6,e1];obtain ⟨d,hd⟩:∃d,n.domains[i.toNat]=d:=⟨_,rfl⟩
 rw[hd]at hf⊢;refine Ba 2 8 (Ao n) E E E ?_;refine oF ?_;refine Ce 5 1000 1 Aa E E ?_;refine A8 n.ports.length (λj=>[(1,Aa i),(2,.ref 8 (Ao n) 0),(5,.osl 1000),(19,.sl 7 A7 n.ports),(20,Aa n.ports.length),(21,Aa j)]) (λj=>[(1000,.row 1 Aa (Ml (Ug n d) j))]) []
  uU ?_
 intro j hj;refine oO ?_;constructor<;>intro h
 ·have ab:j<n.ports.length:=by simpa using h
  have ag:=Ahg (Ug n d) j;have iy:=I6 (Ug n d) j;have ar:Ug n d j=((n.ports[j]).dev==d.dev&&Cw n.ports[j] d.vlan):=by
   rw[Ug,Af (l:=n.ports) (i:=(j:Int)) (by simpa using ab)];rfl
  rw[ar]at ag;have e1:n.ports[(j:Int).toNat]'q_=n.ports[j]:=rfl;have xd:=Z9 n.ports[j] d.vlan (hn.tagged _ (zJ _));obtain ⟨p,hp⟩:∃p,n.ports[j]=p:=⟨_,rfl⟩
  rw[hp]at e1 ag xd;obtain ⟨u,hu⟩:∃u,Ml (Ug n d) j=u:=⟨_,rfl⟩
  rw[hu]at ag iy⊢;refine oO ?_;refine⟨E,by omega,by omega,?_⟩;rw[e1]
  conv=>whnf
  refine⟨E,hi.1,hk,?_⟩;rw[hd]
  conv=>whnf
  constructor<;>intro h2
  ·have h3:∃k:Nat,(k:Int)=i:=⟨i.toNat,by omega⟩
   rw[h2,yF]at ag;refine oD ?_;refine⟨E,hi.1,hk,?_⟩;rw[hd]
   conv=>whnf
   refine cD xd F131 ?_;refine gH ?_;constructor<;>intro h4
   ·rw[zE h4]at ag;refine oO ?_;refine Ah (Ag Γ.toTy 48 E E E E E (.row E) (.lit (e:=Aa) (l:=[(j:Int)]) E E) y_ (by simp;omega) (by simp;omega)) E E ?_;refine gE ?_;exact Az [(1000,48)] ab ⟨⟨E,E,E,E,E,E,E,E,E,E,E,E,Y⟩,⟨.inl (zH (Ob.row 1 Aa) ag),E,Y⟩,E,E⟩
   ·rw[zD (by simp[h4])]at ag;refine gE ?_;exact Az [] ab ⟨⟨E,E,E,E,E,E,E,E,E,E,E,E,Y⟩,⟨.inl (zH (Ob.row 1 Aa) ag),E,Y⟩,E,E⟩
  ·rw[zD (by simp[h2])]at ag;refine oD ?_;refine⟨z_,?_⟩
   ((conv=>whnf);refine aF ?_;refine rg ?_;conv=>whnf)
   refine iW ?_;exact Az [] ab ⟨⟨E,E,E,E,E,E,E,E,E,E,E,E,Y⟩,⟨.inl (zH (Ob.row 1 Aa) ag),E,Y⟩,E,E⟩
 ·have:j=n.ports.length:=qB h;subst this;refine Aj 1000 E ?_;exact gF
def Am4(n:Net)(hn:n.Fin)(l:List Domain)(p:Domain→Bool)(f:FuncId)(first cap:List SV)(hc:(SV.clo (.func f) first cap).inn []=true)(hf:∀x∈l,Hb prog f (first++[Aq x]++cap) (Ab (p x)))(hl:Am l):Sp 203 [Ao n,.sl 6 Aq l,.clo (.func f) first cap] (Aa (if Ac n=true then Br p l else -1)):=cT F203 ntmps203 λF hF=>by
 have hr:=A0 n hn;have q:=E5 l p f first cap hc hf hl
 conv=>whnf
 refine c0 hr F20 ?_;cases hb:Ac n
 ·rw[zD y_];refine oT ?_;exact dN
 rw[zE rfl];refine oF ?_;refine Mn q F198 E E (by simp only[B8,hc,uA];rfl) E E ?_;exact gF
def Amm(dev vlan:Int)(d:Domain):Sp 204 [Aq d,.ref 1 (Aa dev) 0,.ref 1 (Aa vlan) 0] (Ab (d.dev==dev&&d.vlan==vlan)):=cT F204 ntmps204 λF hF=>by
 conv=>whnf
 (repeat' (first|(refine⟨λh=>?_,λh=>?_⟩<;>(repeat (first|simp only[yI]at h|simp only[zR]at h))<;>((refine oO ?_)))|(refine As rfl (.cons .tmp .nil) ?_ rfl)))
 all_goals (refine zH Ab ?_)
 all_goals simp_all
def B6(n:Net)(dev vlan:Int):Int:=if Ac n=true then C5 n dev vlan else -1
def Ks(n:Net)(hn:n.Fin)(dev vlan:Int):Sp 141 [Ao n,Aa dev,Aa vlan] (Aa (B6 n dev vlan)):=cT F141 ntmps141 λF hF=>by
 have q:=Am4 n hn n.domains (λd=>d.dev==dev&&d.vlan==vlan) 204 [] [.ref 1 (Aa dev) 0,.ref 1 (Aa vlan) 0] rfl (λd _=>⟨⟨_,_,F204⟩,Amm dev vlan d⟩) hn.domains
 conv=>whnf
 refine Ba 4 1 (Aa dev) E E E ?_;refine Ba 5 1 (Aa vlan) E E E ?_;refine c0 q F203 ?_;exact gF
def Bb(n:Net)(i:Int):Int :=
 if (0≤i∧i<n.ports.length)∧0≤(nth n.ports i).link∧Ac n=true then
  (if (nth n.links (nth n.ports i).link).a=i then (nth n.links (nth n.ports i).link).b else (nth n.links (nth n.ports i).link).a) else -1
def E7{n:Net}(h:Ac n=true){i:Nat}(hi:i<n.ports.length)(hl:0≤n.ports[i].link):n.ports[i].link.toNat<n.links.length∧((nth n.links n.ports[i].link).a=i∨(nth n.links n.ports[i].link).b=i):=by
 have:=Avb h hi;simp only[J8,Ai,zG,yO,zK,yI]at this;rcases this.2 with h1|h1
 ·omega
 ·exact⟨by omega,h1.2⟩
def Aac(n:Net)(hn:n.Fin)(i:Int):Sp 271 [Ao n,Aa i] (Aa (Bb n i)):=cT F271 ntmps271 λF hF=>by
 have hr:=A0 n hn
 conv=>whnf
 constructor<;>intro h
 ·have h1:i<0:=zO h;rw[Bb,zD q_]
  (refine oT ?_;refine bT ?_;refine bT ?_)
  exact dN
 have h1:0≤i:=qB h;refine oO ?_;constructor<;>intro h
 ·have h2:n.ports.length≤i:=zO h;rw[Bb,zD q_]
  (refine oT ?_;refine bT ?_)
  exact dN
 have h2:i<n.ports.length:=qB h;have hk:i.toNat<n.ports.length:=by omega
 have e1:nth n.ports i=n.ports[i.toNat]:=Af hk;have ak:=λ(hb:Ac n=true)=>E7 hb hk
 rw[Bb,e1];obtain ⟨p,hp⟩:∃p,n.ports[i.toNat]=p:=⟨_,rfl⟩
 rw[hp]at ak⊢;refine oO ?_;refine⟨E,h1,hk,?_⟩;rw[hp]
 conv=>whnf
 constructor<;>intro h
 ·have h3:p.link<0:=zO h;rw[zD q_];refine oT ?_;exact dN
 have h3:0≤p.link:=qB h;refine oO ?_;refine c0 hr F20 ?_;cases hb:Ac n
 ·rw[zD y_];refine oT ?_;exact dN
 rw[zE ⟨⟨h1,h2⟩,h3,rfl⟩];have hq:=ak hb h3;have e2:nth n.links p.link=n.links[p.link.toNat]:=Af hq.1;rw[e2];obtain ⟨l,hl⟩:∃l,n.links[p.link.toNat]'hq.1=l:=⟨_,rfl⟩
 rw[hl];refine oF ?_;refine⟨E,h1,hk,?_⟩;rw[hp]
 conv=>whnf
 refine⟨E,h3,hq.1,?_⟩;rw[hl]
 conv=>whnf
 refine kW ?_;constructor<;>intro h
 ·have h4:l.a=i:=by simpa using h
  rw[zE h4];exact gF
 ·have h4:¬l.a=i:=by simpa using h
  rw[zD h4];exact gF
set_option maxRecDepth 100000
def F120:Fun prog 120 Tryz.f120 (Ah0 Tryz.f120):=⟨func120,rfl,by kernel_rfl⟩
def F197:Fun prog 197 Tryz.f197 (Ah0 Tryz.f197):=⟨func197,rfl,by kernel_rfl⟩
def Afh(s p:ByteArray):Sp 213 [Ap s,Ap p] (Ap (mkT (Lib.trimPrefix s.data.toList p.data.toList))) :=
 Spec.of_calls λκ w vs hi hr _=>by
  simp only[RdL]at hr;obtain ⟨v,r,rfl,h3,u,r',rfl,h4,rfl⟩:=hr;have h3':v=.string s:=by simpa only [Ap,Rd] using h3
  have h4':u=.string p:=by simpa only [Ap,Rd] using h4
  subst h3' h4';exact(Tryz.strings_TrimPrefix s p w).mono λe w' ⟨he,hw⟩=>⟨he,hw▸RowKit.Below.refl _ _⟩
def Aub(s:ByteArray)(c:UInt8)(m:Int)(hm:Lib.indexByte s.data.toList c=m):Sp 197 [Ap s,Ap ⟨#[c]⟩] (Aa m) :=
 Spec.of_calls λκ w vs hi hr _=>by
  subst hm;simp only[RdL]at hr;obtain ⟨v,r,rfl,h3,u,r',rfl,h4,rfl⟩:=hr;have h3':v=.string s:=by simpa only [Ap,Rd] using h3
  have h4':u=.string ⟨#[c]⟩:=by simpa only [Ap,Rd] using h4
  subst h3' h4';exact(Tryz.stringslite_Index_one s c w).mono λe w' ⟨he,hw⟩=>⟨he,hw▸RowKit.Below.refl _ _⟩
def cutT(c:UInt8)(s:ByteArray):ByteArray×ByteArray×Bool :=
 if 0≤Lib.indexByte s.data.toList c then (s.extract 0 (L0 c s.data.toList),s.extract (L0 c s.data.toList+1) s.size,true) else (s,⟨#[]⟩,false)
def Tv(l:List UInt8)(c:UInt8):Lib.indexByte l c<l.length:=by
 induction l with
 |nil=>simp[Lib.indexByte]
 |cons b l ih=>
  unfold Lib.indexByte;rw[yM];split
  ·omega
  split
  ·omega
  ·omega
def A34(s:ByteArray)(c:UInt8)(hs:s.size≤1000000000):Sp 120 [Ap s,Ap ⟨#[c]⟩] (.tup [Ap (cutT c s).1,Ap (cutT c s).2.1,Ab (cutT c s).2.2]):=cT F120 ntmps120 λF hF=>by
 have aa:=cutT.eq_1 c s;generalize cutT c s=res at *;have ab:=Tv s.data.toList c;have bh:s.data.toList.length=s.size:=rfl;have hid:L0 c s.data.toList=(Lib.indexByte s.data.toList c).toNat:=rfl;obtain ⟨m,tz⟩:∃m,Lib.indexByte s.data.toList c=m:=⟨_,rfl⟩
 have q:=Aub s c m tz;rw[tz]at aa ab hid;refine fW ?_;refine c0 q F197 ?_;refine fU ?_;constructor<;>intro h
 ·have h0:0≤m:=zO h;rw[zE h0,hid]at aa;have e1:(m+1).toNat=m.toNat+1:=by omega
  have tq:(⟨#[c]⟩:ByteArray).size=1:=rfl;subst aa;refine fU ?_;refine⟨⟨by omega,by omega,by omega⟩,?_⟩;refine fW ?_;refine⟨by show I64 (m+1);unfold I64;omega,?_⟩;refine fW ?_;refine⟨⟨by omega,by omega,by omega⟩,?_⟩;refine fW ?_;refine⟨z_,?_⟩;refine fW ?_;refine As E (.cons .tmp (.cons .tmp (.cons .tmp .nil))) ?_ E;show SV.tup [Ap _,Ap (s.extract (m.toNat+1) s.size),_]=SV.tup [Ap _,Ap (s.extract (m+1).toNat _),_];rw[e1];rfl
 ·have h0:¬0≤m:=zT h;rw[zD h0]at aa;subst aa;exact gC
def Zm(s:ByteArray)(c:UInt8)(hs:s.size≤1000000000):Sp 44 [Ap s,Ap ⟨#[c]⟩] (.tup [Ap (cutT c s).1,Ap (cutT c s).2.1,Ab (cutT c s).2.2]):=cT F44 ntmps44 λF hF=>by
 have q:=A34 s c hs;generalize cutT c s=res at *;refine fW ?_;refine c0 q F120 ?_;exact gC
def Xj(l:List UInt8):Int:=l.foldl (λn c=>10*n+((c.toNat:Int)-48)) 0
def Apn(s:ByteArray):Bool:=s.data.toList.head?==some 45
def Mm(s:ByteArray):List UInt8:=if Apn s=true then s.data.toList.drop 1 else s.data.toList
def numV(s:ByteArray):Int:=if Apn s=true then 0-Xj (Mm s) else Xj (Mm s)
def numR(s:ByteArray)(lo hi:Int):Int×Bool :=
 if (Mm s).length<1∨10<(Mm s).length then (0,false) else if (Mm s).all Lb=false then (0,false)
 else if numV s<lo∨hi<numV s then (0,false) else if (Apg (numV s)==s)=true then (numV s,true) else (0,false)
def Ak0(l:List UInt8)(c:UInt8):Xj (l++[c])=10*Xj l+((c.toNat:Int)-48):=by
 rw[Xj,xN];rfl
def Axg:∀(k:Nat) (l:List UInt8),l.length=k→(∀c∈l,Lb c=true)→0≤Xj l∧Xj l<10^k
 |0,l,hl,_=>by
  rw[vE.1 hl];exact⟨wB _,by decide⟩
 |k+1,l,hl,h=>by
  have af:l≠[]:=λe=>by rw[e]at hl;cases hl
  have e:=vV af;have h1:=Axg k l.dropLast (by rw[uX];omega) λc hc=>h c (List.dropLast_subset l hc)
  have h2:=h _ (List.getLast_mem af);simp only[Lb,zG,zK]at h2;rw[←e,Ak0,Int.pow_succ];omega
def A7o{l:List UInt8}(hl:l.length≤10)(h:∀c∈l,Lb c=true):0≤Xj l∧Xj l<10000000000:=by
 have h1:=Axg _ l rfl h;refine⟨h1.1,Int.lt_of_lt_of_le h1.2 ?_⟩;have h2:(10:Nat)^l.length≤10^10:=wX j_ hl;have h3:((10:Nat)^l.length:Int)≤((10^10:Nat):Int):=by exact_mod_cast h2
 simpa using h3
def A1y(s:ByteArray):Lib.trimPrefix s.data.toList [45]=Mm s:=by
 unfold Lib.trimPrefix Mm Apn;cases s.data.toList with
 |nil=>simp[Lib.hasPrefix]
 |cons c l=>
  by_cases hc:c=45
  ·subst hc;simp[Lib.hasPrefix]
  ·simp[Lib.hasPrefix,hc,Ne.symm hc]
def Ae3{s:ByteArray}{i:Nat}(h:i<s.data.toList.length):Bu s i=s.data.toList[i]:=by
 rw[Bu,wC,zU h];rfl
def A1r{α:Type}{p:α→Bool}{l:List α}{j:Nat}(hI:H8 (λ_ x=>p x) l j):∀c∈l.take j,p c=true:=by
 intro c hc;obtain ⟨i,hi,rfl⟩:=yZ.1 hc;rw[zY]at hi;rw[wD];exact hI i q_ q_
def Acp{α:Type}{p:α→Bool}{l:List α}{j:Nat}(hI:H8 (λ_ x=>p x) l j)(hj:l.length≤j):l.all p=true:=by
 rw[yV];intro x hx;obtain ⟨i,hi,rfl⟩:=yZ.1 hx;exact hI i hi q_
def all_at'{α:Type}{p:α→Bool}{l:List α}{j:Nat}(hj:j<l.length)(h:p l[j]=false):l.all p=false:=by
 cases ha:l.all p
 ·rfl
 ·rw[yV]at ha;rw[ha _ (zJ hj)]at h;cases h
def u8_sub2{c:UInt8}(h:Lb c=true):IntKind.i64.wrap (IntKind.u8.wrap ((c.toNat:Int)-48))=(c.toNat:Int)-48:=by
 simp only[Lb,zG,zK]at h;rw[IntKind.wrap_u8,IntKind.wrap_i64];omega
def neg_digs{s:ByteArray}(h:Apn s=true):(Mm s).length+1=s.size∧∀j,j<(Mm s).length→Bu s (1+j)=(Mm s).getD j 0:=by
 have bh:s.data.toList.length=s.size:=rfl;rw[Mm,zE h];rw[Apn]at h;cases hd:s.data.toList with
 |nil=>rw[hd]at h;cases h
 |cons c l=>
  rw[hd]at bh;refine⟨by simp at bh⊢;omega,λj hj=>?_⟩;rw[Bu,hd,tK];rfl
def pos_digs{s:ByteArray}(h:Apn s=false):(Mm s).length=s.size∧∀j,j<(Mm s).length→Bu s j=(Mm s).getD j 0:=by
 rw[Mm,zD (by simp[h])];exact⟨E,λj hj=>rfl⟩
def Api(s:ByteArray)(lo hi:Int):Sp 155 [Ap s,Aa lo,Aa hi] (.tup [Aa (numR s lo hi).1,Ab (numR s lo hi).2]):=cT F155 ntmps155 λF hF=>by
 have aa:=numR.eq_1 s lo hi;generalize numR s lo hi=res at *;have q:=Afh s ⟨#[45]⟩;rw[show (⟨#[45]⟩:ByteArray).data.toList=[45] from rfl,A1y]at q;have hnv:=numV.eq_1 s;have wq:=@neg_digs s;have oc:=@pos_digs s;generalize numV s=nv at *;generalize hD:Mm s=D at *;have hDs:(mkT D).size=D.length:=Is D;refine fW ?_;refine c0 q F213 ?_;by_cases h1:D.length<1∨10<D.length
 ·rw[zE h1]at aa;subst aa;refine fU ?_;constructor<;>intro h
  ·exact gC
  ·have h2:1≤D.length:=by
    cases D with
    |nil=>exact yB (show (mkT []==(⟨#[]⟩:ByteArray))=true from rfl) (by rw[show (mkT []==(⟨#[]⟩:ByteArray))=false from h];simp)
    |cons=>simp
   refine fU ?_;constructor<;>intro h
   ·exact gC
   ·exact yB (zT h) q_
 rw[zD h1]at aa;have af:(mkT D==(⟨#[]⟩:ByteArray))=false:=by
  cases he:(mkT D==(⟨#[]⟩:ByteArray))
  ·rfl
  ·have e:(mkT D).data=(⟨#[]⟩:ByteArray).data:=by simpa using (show ((mkT D).data==(⟨#[]⟩:ByteArray).data)=true from he)
   have:=zH Array.size e;have e2:(mkT D).data.size=D.length:=hDs;rw[e2]at this;have e3:(⟨#[]⟩:ByteArray).data.size=0:=rfl;omega
 refine fU ?_;refine⟨λh=>yB h (by rw[af];simp),λ_=>?_⟩;refine fU ?_;refine⟨λh=>yB (zO h) q_,λ_=>?_⟩;refine fU ?_;refine Bi D.length (λj=>H8 (λ_ c=>Lb c) D j) (λj=>[(0,Ap s),(1,Aa lo),(2,Aa hi),(8,Ap (mkT D)),(9,Aa (Xj (D.take j))),(21,Aa D.length),(22,Aa j)]) (λ_=>[]) [] (Bo _ _)
  ⟨⟨rfl,rfl,rfl,rfl,rfl,rfl,rfl,rfl,rfl,rfl,zH (λz:Nat=>SV.val (.int .i64 z)) hDs.symm,rfl,rfl,rfl,trivial⟩,trivial,rfl,rfl⟩ ?_
 intro j hj hI;have hv:=A7o (l:=D.take j) (by rw[zY];omega) (A1r hI);refine fU ?_;constructor<;>intro h
 ·have ab:j<D.length:=qA h;have hb:Bu (mkT D) (j:Int).toNat=D[j]:=by
   have:j<(mkT D).data.toList.length:=by rw[Ku];exact ab
   rw[zZ,Ae3 this];simp[mkT]
  have dp:=λh=>@all_at' _ Lb D j ab h
  have gy:=λh=>Bl (p:=λ_ c=>Lb c) hI ab h
  have ag:Xj (D.take (j+1))=10*Xj (D.take j)+((D[j].toNat:Int)-48):=by rw[yC ab,Ak0]
  have hu:=@u8_sub2 D[j];generalize D[j]=c at *;generalize Xj (D.take j)=v at *;have lh:=c.toNat_lt;refine fU ?_;refine⟨by omega,by omega,?_⟩;rw[hb];refine fW ?_;constructor<;>intro h2
  ·have h3:c.toNat<48:=by have:=zO h2;omega
   rw[zE (dp (by rw[Lb,zI q_];rfl))]at aa;subst aa;exact gC
  have h2:=zT h2;refine fU ?_;refine⟨by omega,by omega,?_⟩;rw[hb];refine fW ?_;constructor<;>intro h3
  ·have h3:57<c.toNat:=by have:=zO h3;omega
   rw[zE (dp (by rw[Lb,zI (by omega:¬c.toNat≤57),wK]))]at aa;subst aa;exact gC
  have h3:=zT h3;have hdg:Lb c=true:=by rw[Lb,zL q_,zL q_];rfl
  have hu:=hu hdg;refine fU ?_;refine⟨by show I64 (10*v);unfold I64;omega,?_⟩;refine fW ?_;refine⟨by omega,by omega,?_⟩;rw[hb];refine fW ?_;rw[hu];refine⟨by show I64 (10*v+((c.toNat:Int)-48));unfold I64;omega,?_⟩;refine gJ ?_;exact Bc [] hI q_ (gy hdg) ⟨⟨E,E,E,E,E,E,E,E,zH Aa ag,E,E,E,E,E,Y⟩,Y,E,E⟩
 ·have cm:j=D.length:=qB h;subst cm;rw[zD (by rw[Acp hI (yD _)];simp)]at aa;rw[yN]at hv⊢;have fin:∀nv:Int,nv=(if Apn s=true then 0-Xj D else Xj D)→(-10000000000<nv∧nv<10000000000)∧Anu nv:=λnv h=>by
   unfold Anu;split at h<;>omega
  have fn:=fin nv hnv;have q2:=Azh nv fn.2;have m5:((mkT D).size:Int)=D.length:=by rw[hDs]
  cases hn:Apn s
  ·rw[hn,zD y_]at hnv;have h4:=(oc hn).1;rw[←hnv];refine fU ?_;refine⟨λh=>yB (zO h) q_,λ_=>?_⟩;refine fU ?_;constructor<;>intro h
   ·rw[zE (.inl (zO h))]at aa;subst aa;exact gC
   have h5:=zT h;refine fU ?_;constructor<;>intro h
   ·rw[zE (.inr (zO h))]at aa;subst aa;exact gC
   have h6:=zT h;rw[zD q_]at aa;refine fU ?_;refine c0 q2 F214 ?_;cases he:(Apg nv==s)
   ·rw[he,zD y_]at aa;subst aa;refine fU ?_;refine⟨λ_=>?_,λh=>yB h (by rw[he];simp)⟩;exact gC
   ·rw[he,zE rfl]at aa;subst aa;refine fU ?_;refine⟨λh=>yB h (by rw[he];simp),λ_=>?_⟩;exact gC
  ·rw[hn,zE rfl]at hnv;have h4:=(wq hn).1;have hw:IntKind.i64.wrap (0-Xj D)=nv:=by rw[IntKind.wrap_i64];omega
   refine fU ?_;refine⟨λ_=>?_,λh=>yB (zT h) q_⟩;refine fU ?_;rw[hw];constructor<;>intro h
   ·rw[zE (.inl (zO h))]at aa;subst aa;exact gC
   have h5:=zT h;refine fU ?_;constructor<;>intro h
   ·rw[zE (.inr (zO h))]at aa;subst aa;exact gC
   have h6:=zT h;rw[zD q_]at aa;refine fU ?_;refine c0 q2 F214 ?_;cases he:(Apg nv==s)
   ·rw[he,zD y_]at aa;subst aa;refine fU ?_;refine⟨λ_=>?_,λh=>yB h (by rw[he];simp)⟩;exact gC
   ·rw[he,zE rfl]at aa;subst aa;refine fU ?_;refine⟨λh=>yB h (by rw[he];simp),λ_=>?_⟩;exact gC
def Kz:∀(l:List UInt8) (c:UInt8),-1≤Lib.indexByte l c
 |[],_=>by simp[Lib.indexByte]
 |b::l,c=>by
  unfold Lib.indexByte;have:=Kz l c;split
  ·omega
  split
  ·omega
  ·omega
def Hk:List UInt8→List UInt8→List ByteArray
 |cur,[]=>if cur=[] then [] else [mkT cur]
 |cur,c::r=>if c=10 then mkT cur::Hk [] r else Hk (cur++[c]) r
def rowsT(b:List UInt8):List ByteArray×Int :=
 if 20000<b.length then ([],3) else if 400<(Hk [] b).length then ([],3) else (Hk [] b,0)
def Ac6:∀(l cur:List UInt8),Lib.indexByte l 10=-1→Hk cur l=if cur++l=[] then [] else [mkT (cur++l)]
 |[],cur,_=>by rw[Hk,xM]
 |c::l,cur,h=>by
  unfold Lib.indexByte at h;by_cases hc:(c==10)=true
  ·rw[zE hc]at h;omega
  rw[zD hc]at h;have hi:Lib.indexByte l 10=-1:=by
   by_cases h1:(Lib.indexByte l 10 == -1)=true
   ·simpa using h1
   ·rw[zD h1]at h;have:=Kz l 10;omega
  rw[Hk,zD (by simpa using hc),Ac6 l _ hi];simp
def Ac5:∀(l cur:List UInt8),0≤Lib.indexByte l 10→Hk cur l=mkT (cur++l.take (Lib.indexByte l 10).toNat)::Hk [] (l.drop ((Lib.indexByte l 10).toNat+1))
 |[],cur,h=>by simp[Lib.indexByte]at h
 |c::l,cur,h=>by
  unfold Lib.indexByte at h⊢;by_cases hc:(c==10)=true
  ·rw[zE hc,Hk,zE (by simpa using hc)];simp
  rw[zD hc]at h⊢;by_cases h1:(Lib.indexByte l 10 == -1)=true
  ·rw[zE h1]at h;omega
  rw[zD h1]at h⊢;have:=Kz l 10;have h2:0≤Lib.indexByte l 10:=by
   have h3:Lib.indexByte l 10≠-1:=by simpa using h1
   omega
  have e:(Lib.indexByte l 10+1).toNat=(Lib.indexByte l 10).toNat+1:=by omega
  rw[Hk,zD (by simpa using hc),Ac5 l _ h2,e];simp
def As6{l:List UInt8}(h:l≠[]):Hk [] l=(cutT 10 (mkT l)).1::Hk [] (cutT 10 (mkT l)).2.1.data.toList∧(cutT 10 (mkT l)).2.1.data.toList.length<l.length:=by
 have d6:=xV.2 h;have ab:=Tv l 10;have ww:=Kz l 10;have e0:(mkT l).size=l.length:=Is l;rw[cutT,Ku];split
 ·rename_i h0;dsimp only;rw[Ac5 l [] h0,E4,E4,Ku,e0,yN];refine⟨E,?_⟩;rw[yQ];omega
 ·rename_i h0;dsimp only;rw[Ac6 l [] q_,wP,zD h];exact⟨E,d6⟩
def Azo(l:List UInt8):(mkT l == ⟨#[]⟩)=decide (l=[]):=by
 cases l with
 |nil=>rfl
 |cons c l=>
  rw[zI y_];cases he:(mkT (c::l)==(⟨#[]⟩:ByteArray))
  ·rfl
  ·have e:(mkT (c::l)).data=(⟨#[]⟩:ByteArray).data:=by simpa using (show ((mkT (c::l)).data==(⟨#[]⟩:ByteArray).data)=true from he)
   have:=zH Array.size e;simp[mkT]at this
def Aj7(b:List UInt8)(hb:b.length≤1000000):Sp 17 [.sl 1 Ak b] (.tup [.sl 1 Ap (rowsT b).1,Aa (rowsT b).2]):=cT F17 ntmps17 λF hF=>by
 have aa:=rowsT.eq_1 b;generalize rowsT b=res at *;refine fW ?_;constructor<;>intro h
 ·rw[zE (qA h)]at aa;subst aa;refine fU ?_;refine An 2 1 Ap E ?_;exact gC
 rw[zD (qB h)]at aa;refine fU ?_;refine Ah (K3 Γ.toTy (bs:=b) E E E E E E E .sl) E E ?_;refine Ce 4 1000 1 Ap E E ?_;refine fU ?_;refine Cj (λx:List ByteArray×List UInt8=>Hk [] b=x.1++Hk [] x.2∧x.1.length+x.2.length≤b.length) (λx=>[(4,.osl 1000),(5,Ap (mkT x.2))]) (λx=>[(1000,.row 1 Ap x.1)]) (λx=>x.2.length) ([],b) [] ⟨E,by simp⟩
  uU ?_
 rintro ⟨out,rest⟩ ⟨hI,hlen⟩;dsimp only at hI hlen⊢;have td:=Azo rest;refine fU ?_;by_cases hr:rest=[]
 ·rw[zL hr]at td;refine⟨λh=>yB h (by rw[td];simp),λ_=>?_⟩;have nq:Hk [] b=out:=by rw[hI,hr];simp[Hk]
  rw[nq]at aa;refine fU ?_;constructor<;>intro h
  ·rw[zE (qA h)]at aa;subst aa;refine fU ?_;refine An 2 1 Ap E ?_;exact gC
  ·rw[zD (qB h)]at aa;subst aa;refine Aj 1000 E ?_;exact gC
 ·rw[zI hr]at td;refine⟨λ_=>?_,λh=>yB h (by rw[td];simp)⟩;obtain ⟨hc,ab⟩:=As6 hr;have q:=Zm (mkT rest) 10 (by rw[Is];omega);obtain ⟨⟨row,rs,more⟩,hct⟩:∃p,cutT 10 (mkT rest)=p:=⟨_,rfl⟩
  rw[hct]at q hc ab;dsimp only at q hc ab;have hrz:rs.data.toList.length=rs.size:=rfl;refine fU ?_;refine c0 q F44 ?_;refine fU ?_;refine Ah (Ag Γ.toTy 23 E E E E E (.row E) (.lit (e:=Ap) (l:=[row]) E E) y_ (by simp;omega) (by simp;omega)) E E ?_;refine fU ?_;refine Ax (out++[row],rs.data.toList) [(1000,23)] ⟨by rw[hI,hc];simp,by simp;omega⟩ (by dsimp only;omega) ⟨⟨E,E,zH Ap (Kt rs),E,Y⟩,⟨.inl E,E,Y⟩,E,E⟩
set_option maxRecDepth 20000
def Vu(lt:Int→Int→Bool)(x:Int):List Int→List Int
 |[]=>[x]
 |y::r=>if lt x y then y::Vu lt x r else x::y::r
def It(lt:Int→Int→Bool)(l:List Int):List Int:=l.foldl (λr x=>Vu lt x r) []
def X4(lt:Int→Int→Bool)(l:List Int):List Int:=(It lt l).reverse
def Acf(lt:Int→Int→Bool)(x:Int):∀r,(Vu lt x r).Perm (x::r)
 |[]=>.refl _
 |y::r=>by
  rw[Vu];split
  ·exact((Acf lt x r).cons y).trans (.swap x y r)
  ·exact .refl _
def Ui(lt:Int→Int→Bool):∀(l r:List Int),(l.foldl (λr x=>Vu lt x r) r).Perm (l++r)
 |[],r=>.refl _
 |x::l,r=>by
  rw[vG];refine(Ui lt l _).trans ?_;refine((Acf lt x r).append_left l).trans ?_;simp
def Qk(lt:Int→Int→Bool)(l:List Int):(It lt l).Perm l:=by
 have:=Ui lt l [];simpa [It] using this
def Y0(lt:Int→Int→Bool)(l:List Int):(X4 lt l).Perm l:=(List.reverse_perm _).trans (Qk lt l)
def Aqb(lt:Int→Int→Bool)(l:List Int)(i:Nat)(h:i<l.length):It lt (l.take (i+1))=Vu lt l[i] (It lt (l.take i)):=by
 rw[yC h,It,xN];rfl
mutual
theorem Tu{K:List Nat}:∀x:SV,x.inn []=true→x.inn K=true
 | .ptr _ _,h=>by simp[SV.inn,Se]at h
 | .rpt _ _ _ _,h=>by simp[SV.inn,Se]at h
 | .osl _,h=>by simp[SV.inn,Se]at h
 | .agg l,h=>by simp only[SV.inn]at h⊢;exact Vv l h
 | .tup l,h=>by simp only[SV.inn]at h⊢;exact Vv l h
 | .ifc _ x,h=>by simp only[SV.inn]at h⊢;exact Tu x h
 | .clo _ f l,h=>by simp only[SV.inn,zG]at h⊢;exact⟨Vv f h.1,Vv l h.2⟩
 | .top,_=>rfl
 | .val _,_=>rfl
 | .sl _ _ _,_=>rfl
 | .ref _ _ _,_=>rfl
theorem Vv{K:List Nat}:∀l:List SV,B8 [] l=true→B8 K l=true
 |[],_=>rfl
 |x::l,h=>by simp only[B8,zG]at h⊢;exact⟨Tu x h.1,Vv l h.2⟩
end
def Agx(l:List Int)(c:Int→Int→Int)(Q:Int→Prop)(f:FuncId)(first cap:List SV)(hc:(SV.clo (.func f) first cap).inn []=true)(hf:∀a b,Q a→Q b→Hb prog f (first++[Aa a,Aa b]++cap) (Aa (c a b)))(hQ:∀a∈l,Q a)(hl:Am l):Sq 367 [.osl 0,Aa 0,Aa l.length,.clo (.func f) first cap] [(0,.row 1 Aa l)] (.tup []) [(0,.row 1 Aa (X4 (λa b=>decide (c a b<0)) l))]:=cT F367 ntmps367 λF hF=>by
 unfold Am at hl;have ar:∀x y:Int,B8 [] (first++[Aa x,Aa y]++cap)=true:=λx y=>C9 hc rfl
 have fk:(SV.clo (.func f) first cap).inn [0]=true:=Tu _ hc;generalize ab:(λa b=>decide (c a b<0))=lt
 conv=>whnf
 (repeat' (refine⟨by (unfold I64;omega),?_⟩;((conv=>whnf))))
 refine Bi l.length (λ_=>True) (λj=>[(0,.osl 0),(1,Aa 0),(2,Aa l.length),(3,.clo (.func f) first cap),(8,Aa ((j:Int)+1))]) (λj=>[(0,.row 1 Aa ((It lt (l.take (j+1))).reverse++l.drop (j+1)))]) [] Y ⟨⟨E,E,E,E,E,E,Bd _,fk,E,E,Y⟩,⟨.inl (zH (Ob.row 1 Aa) ?_),E,Y⟩,E,E⟩ ?_
 ·cases l with
  |nil=>rfl
  |cons a l=>simp[It,Vu]
 intro j hj _;refine oO ?_;constructor<;>intro h
 ·have er:j+1<l.length:=qA h;have gj:l.drop (j+1)=l[j+1]::l.drop (j+1+1):=yK er;have nf:=Aqb lt l (j+1) er;have hr:(It lt (l.take (j+1))).length=j+1:=by rw[(Qk lt _).length_eq];simp;omega
  have hQx:Q l[j+1]:=hQ _ (zJ er);have hQr:∀z∈It lt (l.take (j+1)),Q z:=λz hz=>hQ z (wR ((Qk lt _).mem_iff.1 hz))
  rw[gj];generalize l[j+1]=x at nf hQx;generalize It lt (l.take (j+1))=r at nf hr hQr;generalize hR:l.drop (j+1+1)=R at *;refine oO ?_;refine Wl (α:={p:List Int×List Int // Vu lt x r=p.2.reverse++Vu lt x p.1∧p.1.length+p.2.length=j+1∧∀z∈p.1,Q z}) (λp=>[(0,.osl 0),(1,Aa 0),(2,Aa l.length),(3,.clo (.func f) first cap),(8,Aa ((j:Int)+1)),(9,Aa p.1.1.length)]) (λp=>[(0,.row 1 Aa (p.1.1.reverse++x::(p.1.2++R)))]) (λp=>p.1.1.length) ⟨(r,[]),by simp,by simpa using hr,hQr⟩ []
   ⟨⟨rfl,rfl,rfl,rfl,rfl,rfl,Bd _,fk,rfl,rfl,zH Aa (by rw[hr];omega),rfl,trivial⟩,⟨.inl rfl,rfl,trivial⟩,rfl,rfl⟩ ?_
  rintro ⟨⟨A,B⟩,gu,d8,tp⟩;simp only at gu d8 tp;dsimp only;cases A with
  |nil=>
   simp only[Vu]at gu
   (refine rg ?_;(conv=>whnf);refine aF ?_;refine oD ?_)
   refine⟨z_,?_⟩
   ((conv=>whnf);refine aF ?_;refine rg ?_;conv=>whnf)
   refine iW ?_;refine Bc [] Y q_ Y ⟨⟨E,E,E,E,E,E,Bd _,fk,zH Aa q_,E,Y⟩,⟨.inl (zH (Ob.row 1 Aa) ?_),E,Y⟩,E,E⟩;show (It lt (l.take (j+1+1))).reverse++l.drop (j+1+1)=[].reverse++x::(B++R);rw[nf,gu,hR];simp
  |cons y A=>
   have hQy:=tp y y_;refine oO ?_;refine⟨λ_=>?_,λh=>yB (zT h) y_⟩;refine oD ?_;have e1:((y::A).reverse++x::(B++R))[(((y::A).length:Nat):Int).toNat]'y_=x:=by simp
   have e2:((y::A).reverse++x::(B++R))[((((y::A).length:Nat):Int)-1).toNat]'y_=y:=by simp
   refine⟨by omega,by simp,?_⟩
   conv=>whnf
   refine⟨E,by simp,?_⟩;rw[e1]
   conv=>whnf
   refine⟨by unfold I64;simp at d8;simp;omega,?_⟩
   conv=>whnf
   refine⟨by simp,by simp,?_⟩
   conv=>whnf
   refine⟨E,by simp,?_⟩;rw[e2]
   conv=>whnf
   refine Avq (hf x y hQx hQy) E E E (by simp only[ar];rfl) z_ E ?_;refine gH ?_;constructor<;>intro h2
   ·refine oO ?_;refine⟨by unfold I64;simp at d8;simp;omega,?_⟩
    conv=>whnf
    refine⟨by unfold I64;simp at d8;simp;omega,?_⟩
    conv=>whnf
    refine⟨by simp,by simp,?_⟩
    conv=>whnf
    refine⟨E,by simp,?_⟩;rw[e2]
    conv=>whnf
    refine⟨by omega,by simp,?_⟩
    conv=>whnf
    refine⟨E,by simp,?_⟩;rw[e1]
    conv=>whnf
    refine⟨by omega,by simp,?_⟩
    conv=>whnf
    refine⟨E,by simp,y,E,E,?_⟩
    conv=>whnf
    refine⟨by simp,by simp,?_⟩
    conv=>whnf
    refine⟨E,by simp,x,E,E,?_⟩
    conv=>whnf
    refine kW ?_;refine⟨by unfold I64;simp at d8;simp;omega,?_⟩
    conv=>whnf
    have nz:lt x y=true:=by rw[←ab];exact h2
    refine Ye (α:={p:List Int×List Int // Vu lt x r=p.2.reverse++Vu lt x p.1∧p.1.length+p.2.length=j+1∧∀z∈p.1,Q z}) (L:=λp=>[(0,.osl 0),(1,Aa 0),(2,Aa l.length),(3,.clo (.func f) first cap),(8,Aa ((j:Int)+1)),(9,Aa p.1.1.length)]) (O:=λp=>[(0,.row 1 Aa (p.1.1.reverse++x::(p.1.2++R)))]) (μ:=λp=>p.1.1.length) (x:=⟨(y::A,B),gu,d8,tp⟩)
     ⟨(A,y::B),by simp only[gu,Vu,nz,if_true];simp,by simp at d8⊢;omega,λz hz=>tp z (by simp[hz])⟩ [] y_
     ⟨⟨rfl,rfl,rfl,rfl,rfl,rfl,Bd _,fk,rfl,rfl,zH Aa y_,rfl,trivial⟩,⟨.inl (zH (Ob.row 1 Aa) ?_),rfl,trivial⟩,rfl,rfl⟩
    simp
   ·refine oO ?_;have nz:lt x y=false:=by rw[←ab];exact h2
    refine iW ?_;refine Bc [] Y q_ Y ⟨⟨E,E,E,E,E,E,Bd _,fk,zH Aa q_,E,Y⟩,⟨.inl (zH (Ob.row 1 Aa) ?_),E,Y⟩,E,E⟩;show (It lt (l.take (j+1+1))).reverse++l.drop (j+1+1)=(y::A).reverse++x::(B++R);rw[nf,gu,hR,Vu,nz];simp
 ·have h:=zT h;have e:(It lt (l.take (j+1))).reverse++l.drop (j+1)=X4 lt l:=by
   rw[xG q_,List.drop_of_length_le q_,xM];rfl
  rw[e];refine oO ?_;exact A4 E .nil [] [(0,.row 1 Aa (X4 lt l))] (λ_ h=>h) E E uU
def A6i(l:List Int)(c:Int→Int→Int)(Q:Int→Prop)(f:FuncId)(first cap:List SV)(hc:(SV.clo (.func f) first cap).inn []=true)(hf:∀a b,Q a→Q b→Hb prog f (first++[Aa a,Aa b]++cap) (Aa (c a b)))(hQ:∀a∈l,Q a)(hl:l.length<20):Sq 311 [.osl 0,Aa l.length,.clo (.func f) first cap] [(0,.row 1 Aa l)] (.tup []) [(0,.row 1 Aa (X4 (λa b=>decide (c a b<0)) l))]:=cT F311 ntmps311 λF hF=>by
 have fk:(SV.clo (.func f) first cap).inn [0]=true:=Tu _ hc;have ze:=Agx l c Q f first cap hc hf hQ (by unfold Am;omega)
 generalize X4 (λa b=>decide (c a b<0)) l=l' at ze
 conv=>whnf
 refine A8 0 (λ j=>[(0,.osl 0),(1,Aa l.length),(2,.clo (.func f) first cap),(6,Aa 20),(7,Aa 0),(8,Aa 20)]) (λ _=>[(0,.row 1 Aa l)]) [] ⟨⟨E,E,E,E,Bd _,fk,E,E,E,E,E,E,Y⟩,⟨.inl E,E,Y⟩,E,E⟩ ?_;intro j hj;refine oO ?_;refine⟨λ h=>yB (zO h) q_,λ _=>?_⟩;refine oO ?_;refine Ah (Ad [] E F367 ze (Jr _) ⟨E,Y⟩ (by
  have h0:B8 [0] [.osl 0,Aa 0,Aa l.length,.clo (.func f) first cap]=true:=by simp only[B8,fk];rfl
  simp only[O1,Obs.keys,xW,vU,h0];rfl) ⟨.inl rfl,trivial⟩) rfl rfl ?_
 refine oO ?_;refine A8 0 (λj=>[(1,Aa l.length),(6,Aa 20)]) (λ_=>[(0,.row 1 Aa l')]) [] uU ?_;clear hj;intro j hj;refine oO ?_;refine⟨λh=>yB (zO h) q_,λ_=>?_⟩;refine oO ?_;exact A4 E .nil [] [(0,.row 1 Aa l')] (λ_ h=>h) E E uU
def Aoj(l:List Int)(c:Int→Int→Int)(Q:Int→Prop)(f:FuncId)(first cap:List SV)(hc:(SV.clo (.func f) first cap).inn []=true)(hf:∀a b,Q a→Q b→Hb prog f (first++[Aa a,Aa b]++cap) (Aa (c a b)))(hQ:∀a∈l,Q a)(hl:l.length<20):Sq 245 [.osl 0,.clo (.func f) first cap] [(0,.row 1 Aa l)] (.tup []) [(0,.row 1 Aa (X4 (λa b=>decide (c a b<0)) l))]:=cT F245 ntmps245 λF hF=>by
 have fk:(SV.clo (.func f) first cap).inn [0]=true:=Tu _ hc;have br:=A6i l c Q f first cap hc hf hQ hl
 generalize X4 (λa b=>decide (c a b<0)) l=l' at br
 conv=>whnf
 refine Ah (Ad [] E F311 br (Jr _) ⟨E,Y⟩ (by
  have h0:B8 [0] [.osl 0,Aa l.length,.clo (.func f) first cap]=true:=by simp only[B8,fk];rfl
  simp only[O1,Obs.keys,xW,vU,h0];rfl) ⟨.inl rfl,trivial⟩) rfl rfl ?_
 refine oO ?_;exact A4 E .nil [] [(0,.row 1 Aa l')] (λ_ h=>h) E E uU
def Aiz(n:Net)(a b:Int):Int:=orI [cmpI (nth n.devices a).prio (nth n.devices b).prio,cmpI (nth n.devices a).mac (nth n.devices b).mac]
def ranks1(n:Net)(a b:Int)(ha:0≤a∧a<n.devices.length)(hb:0≤b∧b<n.devices.length):Sp 246 [Aa a,Aa b,.ref 8 (Ao n) 0] (Aa (Aiz n a b)):=cT F246 ntmps246 λF hF=>by
 have e1:Aiz n a b=orI [cmpI (n.devices[a.toNat]'q_).prio (n.devices[b.toNat]'q_).prio,cmpI (n.devices[a.toNat]'q_).mac (n.devices[b.toNat]'q_).mac]:=by
  rw[Aiz,Af q_,Af q_]
 rw[e1]
 conv=>whnf
 (repeat' (first|(refine As rfl (.cons .tmp .nil) ?_ rfl)|(refine⟨z_,?_⟩;((conv=>whnf)))|(refine⟨by (omega),by (omega),?_⟩;((conv=>whnf)))|(refine cD (Kh (n.devices[a.toNat]'q_).prio (n.devices[b.toNat]'q_).prio) F248 ?_;((refine rd z_ ?_);(conv=>whnf)))|(refine cD (Aq8 (n.devices[a.toNat]'q_).mac (n.devices[b.toNat]'q_).mac) F249 ?_;((refine rd z_ ?_);(conv=>whnf)))|(refine A5d [28] (orS [cmpI (n.devices[a.toNat]'q_).prio (n.devices[b.toNat]'q_).prio,cmpI (n.devices[a.toNat]'q_).mac (n.devices[b.toNat]'q_).mac] (by simp[Am])) F247 rfl (.cons (.lit rfl rfl rfl) .nil) rfl z_ rfl ?_;((refine rd z_ ?_);(conv=>whnf)))))
 all_goals rfl
def Z6(m:Nat):List Int:=(List.range m).map λ(i:Nat)=>(i:Int)
def Ajy(m:Nat):Z6 (m+1)=Z6 m++[(m:Int)]:=by simp[Z6,vA]
def Lx(m:Nat):(Z6 m).length=m:=by simp[Z6]
def Ko(ord:List Int):Nat→List Int
 |0=>List.replicate ord.length 0
 |j+1=>(Ko ord j).set (nth ord j).toNat j
def Jt(ord:List Int):∀j,(Ko ord j).length=ord.length
 |0=>by simp[Ko]
 |j+1=>by simp[Ko,Jt ord j]
def Ht(n:Net):List Int:=X4 (λa b=>decide (Aiz n a b<0)) (Z6 n.devices.length)
def Cv(n:Net):List Int:=Ko (Ht n) n.devices.length
def ranksS(n:Net)(hn:n.Fin):Sp 171 [Ao n] (.sl 1 Aa (if Ac n then Cv n else [])):=cT F171 ntmps171 λF hF=>by
 have hl:=hn.devices;unfold Am at hl
 conv=>whnf
 refine c0 (A0 n hn) F20 ?_;refine oO ?_;constructor<;>intro h
 ·have h:Ac n=false:=by simpa using h
  refine oO ?_;refine An 2 1 Aa E ?_;exact As E (.cons .tmp .nil) (by rw[h];rfl) E
 have h:Ac n=true:=by simpa using h
 have h8:n.devices.length≤8:=by
  simp only[Ac,Ai8,zG,zK]at h;exact h.1.1.1.1.1.1.1.1.1.1.1.1.1.1.1
 rw[h,zE rfl,Cv];refine oO ?_;refine Ba 1 8 (Ao n) E E E ?_;refine Ce 3 1000 1 Aa E E ?_;refine A8 n.devices.length (λj=>[(1,.ref 8 (Ao n) 0),(3,.osl 1000),(13,Aa n.devices.length),(14,Aa j)]) (λj=>[(1000,.row 1 Aa (Z6 j))]) [] uU ?_;intro j hj;refine oO ?_;constructor<;>intro h2
 ·have ab:j<n.devices.length:=by simpa using h2
  refine oO ?_;refine Ah (Ag Γ.toTy 20 E E E E E (.row E) (.lit (l:=[(j:Int)]) E E) y_ (by simp[Lx];omega) (by simp[Lx];omega)) E E ?_;refine gE ?_;exact Az [(1000,20)] ab ⟨⟨E,E,E,E,E,E,E,E,Y⟩,⟨.inl (zH (Ob.row 1 Aa) (Ajy j)),E,Y⟩,E,E⟩
 have er:j=n.devices.length:=by have:¬j<n.devices.length:=(by simpa using h2);omega
 subst er;refine oO ?_;have rh:=Aoj (Z6 n.devices.length) (Aiz n) (λ a=>0≤a∧a<n.devices.length) 246 [] [.ref 8 (Ao n) 0] rfl (λ a b ha hb=>⟨⟨_,_,F246⟩,ranks1 n a b ha hb⟩) (λ a ha=>by
  obtain ⟨i,hi,rfl⟩:=yS.1 ha;have:=xC.1 hi;omega) (by rw[Lx];omega)
 have zf:(Ht n).length=n.devices.length:=by rw[Ht,(Y0 _ _).length_eq,Lx]
 have iu:∀a∈Ht n,0≤a∧a<n.devices.length:=λa ha=>by
  have:=(Y0 _ _).mem_iff.1 ha;obtain ⟨i,hi,rfl⟩:=yS.1 this;have:=xC.1 hi;omega
 change Sy.Spec _ _ _ _ _ [(0,.row 1 Aa (Ht n))]at rh;generalize Ht n=sl at rh zf iu;refine Ah (Ad [(0,1000)] E F245 rh E ⟨E,Y⟩ E ⟨.inl E,Y⟩) E E ?_;refine oO ?_;refine Ah (B4 Γ.toTy (d:=27) (n:=sl.length) Aa 0 E E E E E E E E q_ q_ E E E) E E ?_;refine oO ?_;refine A8 sl.length (λj=>[(5,.osl 27),(28,.osl 1000),(29,Aa sl.length),(30,Aa j)]) (λj=>[(1000,.row 1 Aa sl),(27,.row 1 Aa (Ko sl j))]) [] uU ?_;clear hj h2;intro j hj;refine oO ?_;constructor<;>intro h2
 ·have ab:j<sl.length:=by simpa using h2
  have r8:=iu _ (zJ ab);have fc:nth sl j=sl[j]:=Af (by simpa using ab);have iy:=Jt sl j;refine oO ?_;refine⟨by omega,by omega,?_⟩
  conv=>whnf
  refine⟨E,by omega,?_⟩
  conv=>whnf
  refine⟨r8.1,by rw[iy];exact(by omega:sl[j].toNat<sl.length),?_⟩
  conv=>whnf
  refine⟨E,by rw[iy];exact(by omega:sl[j].toNat<sl.length),(j:Int),E,E,?_⟩
  conv=>whnf
  refine iW ?_;exact Az [] ab ⟨⟨E,E,E,E,E,E,E,E,Y⟩,⟨.inl E,E,.inl (zH (Ob.row 1 Aa) (by rw[Ko,fc];rfl)),E,Y⟩,E,E⟩
 have er:j=n.devices.length:=by
  have:¬j<sl.length:=by simpa using h2
  omega
 subst er;refine oO ?_;refine Aj 27 E ?_;exact dN
def Cc(n:Net)(a b:Int):Bool :=
 if (nth n.devices a).prio≠(nth n.devices b).prio then decide ((nth n.devices a).prio<(nth n.devices b).prio) else
  if (nth n.devices a).mac≠(nth n.devices b).mac then decide ((nth n.devices a).mac<(nth n.devices b).mac) else decide (a<b)
def Lh(n:Net):List Int:=(List.range n.devices.length).map λ(i:Nat)=>(((List.range n.devices.length).countP λk=>Cc n (k:Nat) i:Nat):Int)
end Go.Sy.YtolnneiipmfgaaaGreatDoor
namespace Go.Sy.YtolnneiipmfgaaaGreatDoor
def key_lt(n:Net)(a b:Int):decide (Aiz n a b<0)=if (nth n.devices a).prio≠(nth n.devices b).prio then decide ((nth n.devices a).prio<(nth n.devices b).prio) else
  if (nth n.devices a).mac≠(nth n.devices b).mac then decide ((nth n.devices a).mac<(nth n.devices b).mac) else false:=by
 rw[Aiz,Tj,Tj];rfl
def My(n:Net)(a:Int):Cc n a a=false:=by simp[Cc]
def Wh(n:Net){a b c:Int}(h1:Cc n a b=true)(h2:Cc n b c=true):Cc n a c=true:=by
 unfold Cc at *;generalize nth n.devices a=x at *;generalize nth n.devices b=y at *;generalize nth n.devices c=z at *
 grind
def Aro(n:Net){a b:Int}(h1:Cc n a b=true):Cc n b a=false:=by
 cases h:Cc n b a with
 |false=>rfl
 |true=>have:=Wh n h1 h;rw[My]at this;cases this
def Aka(n:Net){x y:Int}(h:y<x):decide (Aiz n x y<0)=Cc n x y:=by
 rw[key_lt];unfold Cc;generalize nth n.devices x=p at *;generalize nth n.devices y=q at *
 grind
def A68(n:Net){x y:Int}(h:y<x)(hk:Cc n x y=false):Cc n y x=true:=by
 unfold Cc at *;generalize nth n.devices x=p at *;generalize nth n.devices y=q at *
 grind
def Ake(n:Net)(x:Int):∀(r:List Int),(∀y∈r,y<x)→r.Pairwise (λa b=>Cc n b a=true)→(Vu (λa b=>decide (Aiz n a b<0)) x r).Pairwise (λa b=>Cc n b a=true)
 |[],_,_=>by simp[Vu]
 |y::r,hx,hp=>by
  have hy:=hx y y_;rw[vX]at hp;rw[Vu];split
  ·rename_i ab;rw[Aka n hy]at ab;rw[vX];refine⟨λz hz=>?_,Ake n x r (λz hz=>hx z (by simp[hz])) hp.2⟩;rcases yH.1 ((Acf _ x r).mem_iff.1 hz) with rfl|hz
   ·exact ab
   ·exact hp.1 z hz
  ·rename_i ab;rw[Aka n hy]at ab;have hyx:=A68 n hy (by simpa using ab);rw[vX,vX];refine⟨λz hz=>?_,hp⟩;rcases yH.1 hz with rfl|hz
   ·exact hyx
   ·exact Wh n (hp.1 z hz) hyx
def Adp(n:Net):∀m,(It (λa b=>decide (Aiz n a b<0)) (Z6 m)).Pairwise (λa b=>Cc n b a=true)
 |0=>by simp[It,Z6]
 |m+1=>by
  rw[Ajy,It,xN];refine Ake n m _ (λy hy=>?_) (Adp n m);have:=(Qk _ _).mem_iff.1 hy;obtain ⟨i,hi,rfl⟩:=yS.1 this;have:=xC.1 hi;omega
def Ab0(n:Net):(Ht n).Pairwise (λa b=>Cc n a b=true):=by
 rw[Ht,X4,List.pairwise_reverse];exact Adp n _
def Alu(n:Net):(Ht n).Perm (Z6 n.devices.length):=Y0 _ _
def Aq7(n:Net){l:List Int}(hp:l.Pairwise (λa b=>Cc n a b=true))(r:Nat)(hr:r<l.length):l.countP (λk=>Cc n k l[r])=r:=by
 have iq:l=l.take r++l[r]::l.drop (r+1):=by
  rw[←yK hr,List.take_append_drop]
 have h1:(l.take r).countP (λk=>Cc n k l[r])=r:=by
  rw[List.countP_eq_length.2 (λk hk=>?_),zY]
  ·omega
  ·obtain ⟨i,hi,rfl⟩:=yZ.1 hk;simp only[zY]at hi;rw[wD];exact wG.1 hp i r q_ hr q_
 have h2:(l.drop (r+1)).countP (λk=>Cc n k l[r])=0:=by
  rw[List.countP_eq_zero];intro k hk;obtain ⟨i,hi,rfl⟩:=yZ.1 hk;simp only[yQ]at hi;rw[vQ];have:=wG.1 hp r (r+1+i) hr q_ q_;simp[Aro n this]
 calc l.countP (λk=>Cc n k l[r])=(l.take r++l[r]::l.drop (r+1)).countP (λk=>Cc n k l[r]):=zH _ iq
  _=r:=by rw[List.countP_append,List.countP_cons,h1,h2,My];simp
def Zy(L:List Int)(hn:L.Nodup)(hm:∀a∈L,0≤a∧a<L.length):∀(j:Nat),j≤L.length→∀(r:Nat) (hr:r<L.length),r<j→(Ko L j)[L[r].toNat]? = some (r:Int)
 |0,_,r,_,h=>by omega
 |j+1,hj,r,hr,h=>by
  have hmr:=hm _ (zJ hr);have hlen:=Jt L j;have fc:nth L (j:Int)=L[j]:=Af (by simp;omega);rw[Ko,fc,uY];split
  ·rename_i he;have r8:=hm _ (zJ (show j<L.length by omega));have hjr:L[j]=L[r]:=by omega
   have:j=r:=by
    have:=(List.getElem_inj (i:=j) (j:=r) (h₀:=by omega) (h₁:=hr) hn).1 hjr;exact this
   subst this;rw[zE q_]
  ·rename_i he;have af:r≠j:=λe=>he (by subst e;rfl)
   exact Zy L hn hm j q_ r hr q_
def Aty(m:Nat):(Z6 m).Nodup:=by
 rw[Z6];exact List.Pairwise.map _ (λ(a b:Nat) (h:a≠b)=>by intro e;exact h q_) List.nodup_range
def Af2(n:Net):Cv n=Lh n:=by
 have hp:=Alu n;have hlen:(Ht n).length=n.devices.length:=by rw[hp.length_eq,Lx]
 have wj:(Ht n).Nodup:=hp.nodup_iff.2 (Aty _);have hm:∀a∈Ht n,0≤a∧a<(Ht n).length:=λa ha=>by
  obtain ⟨i,hi,rfl⟩:=yS.1 (hp.mem_iff.1 ha);have:=xC.1 hi;omega
 refine List.ext_getElem? λi=>?_
 rcases vT i n.devices.length with hi|hi
 ·have ar:(i:Int)∈Ht n:=hp.mem_iff.2 (yS.2 ⟨i,xC.2 hi,rfl⟩);obtain ⟨r,hr,he⟩:=yZ.1 ar;have h1:=Zy (Ht n) wj hm n.devices.length q_ r hr q_;rw[he]at h1;have h2:=Aq7 n (Ab0 n) r hr;rw[he,hp.countP_eq]at h2;rw[Cv,Lh,vN,uD hi];simp only[zZ]at h1;rw[h1];simp only[uE];congr 2;rw[←h2,Z6,List.countP_map];rfl
 ·rw[wT,wT]
  ·simp[Lh];omega
  ·rw[Cv,Jt];omega
def G_vw{C:Cx}{k:List KI}{s:SS}(d:Nat)(x:SV)(h:Vw s [] (s.σ d) x)(hg:G C k ⟨upd s.σ d x,s.h⟩):G C k s:=λκ a w hs=>
 hg κ a w ⟨hs.defers,hs.size,hs.inv,hs.ctx,λ i=>by
  show Rd κ w (upd s.σ d x i) _;by_cases hi:i=d
  ·subst hi;rw[B1];exact Vw.rd hs.inv (λ_ hn=>by cases hn) h (hs.slot i)
  ·rw[Cy _ _ hi];exact hs.slot i,hs.obj⟩
open Go.Proofs Go.Proofs.Tryz
attribute [local irreducible] Go.Sy.G Go.Sy.DR
set_option maxRecDepth 20000
set_option maxHeartbeats 4000000
def Im(p:Port):Bool:=decide (p.cost<1)||decide (p.cost>65535)
def costs1(p:Port):Sp 244 [A7 p] (Ab (Im p)):=cT F244 ntmps244 λF hF=>by
 conv=>whnf
 (repeat' (first|(refine⟨λh=>?_,λh=>?_⟩<;>(repeat (first|simp only[zK]at h|simp only[yE]at h))<;>((refine oO ?_)))|(refine As rfl (.cons .tmp .nil) ?_ rfl)))
 all_goals (refine zH Ab ?_;clear hF;grind [Im])
def Y8(l:List Port)(p:Port→Bool)(f:FuncId)(first cap:List SV)(hc:(SV.clo (.func f) first cap).inn []=true)(hf:∀x∈l,Hb prog f (first++[A7 x]++cap) (Ab (p x)))(hl:Am l):Sp 243 [.sl 7 A7 l,.clo (.func f) first cap] (Ab (l.any p)):=cT F243 ntmps243 λF hF=>by
 have h0:B8 [] [.sl 7 A7 l,.clo (.func f) first cap]=true:=by simp only[B8,hc];rfl
 conv=>whnf
 refine Mn (Uf l p f first cap hc hf hl) F201 E E (by simp only[h0];rfl) E E ?_;refine oO ?_;exact As E (.cons .tmp .nil) (zH Ab (Jm _ _).symm) E
def Cu(n:Net):Bool:=!(n.ports.any Im)
def A5b(n:Net)(hl:Am n.ports):Sp 170 [Ao n] (Ab (Cu n)):=cT F170 ntmps170 λF hF=>by
 conv=>whnf
 refine c0 (Y8 n.ports Im 244 [] [] E (λx _=>⟨⟨_,_,F244⟩,costs1 x⟩) hl) F243 ?_;exact gF
set_option maxRecDepth 100000
def Bn{α:Type}{l:List α}{i:Nat}{d:α}(h:i<l.length):l.getD i d=l[i]:=by simp[List.getD,h]
def Tc{n:Net}(h:Ac n=true){i:Nat}(hi:i<n.ports.length):J8 n i n.ports[i]=true:=by
 simp only[Ac,zG]at h;exact allB_iff.1 h.1.1.1.1.1.2 i hi
def Yt{n:Net}(h:Ac n=true){i:Nat}(hi:i<n.links.length):Mj n i n.links[i]=true:=by
 simp only[Ac,zG]at h;exact allB_iff.1 h.1.1.1.1.2 i hi
def Ib{n:Net}(h:Ac n=true):n.devices.length≤8∧n.ports.length≤40∧n.links.length≤20:=by
 simp only[Ac,Ai8,zG,zK]at h;omega
def Wr{n:Net}(h:Ac n=true){i:Nat}(hi:i<n.ports.length):n.ports[i].link=-1∨(0≤n.ports[i].link∧n.ports[i].link<n.links.length):=by
 have:=Tc h hi;simp only[J8,Ai,zG,yO,yI,zK]at this;rcases this.2 with h1|h1
 ·exact .inl h1
 ·exact .inr h1.1
def Vg{n:Net}(h:Ac n=true){i:Nat}(hi:i<n.ports.length):0≤n.ports[i].dev∧n.ports[i].dev<n.devices.length:=by
 have:=Tc h hi;simp only[J8,Ai,zG,zK]at this;exact this.1.1.1.1.1.1.1.1
def M1{n:Net}(h:Ac n=true){i:Nat}(hi:i<n.links.length):(0≤n.links[i].a∧n.links[i].a<n.ports.length)∧0≤n.links[i].b∧n.links[i].b<n.ports.length:=by
 have:=Yt h hi;simp only[Mj,Ai,zG,zK]at this;exact⟨this.1.1.1.1,this.1.1.1.2⟩
def B7(n:Net)(i:Nat):Int:=(nth n.ports i).dev
def Lw(n:Net)(i:Nat):Int:=(nth n.ports i).cost
def Z3{n:Net}(aj:Cu n=true){i:Nat}(hi:i<n.ports.length):1≤Lw n i∧Lw n i≤65535:=by
 rw[Lw,Af (l:=n.ports) (i:=(i:Int)) (by simpa using hi)];simp only[Cu,yT,vD]at aj;have:=aj _ (zJ hi);simp only[Im,yO,zK,uL]at this;simp only[zZ];omega
def A46(d:Domain):SV:=.agg [Aa d.dev,Aa d.vlan,Aa d.vni,Aa d.irb,Aa d.row,.val (.slice none 0 0)]
def A0v{M:Nat→Prop}{w:World}(p:Domain)(hp:p.peers=[]){v:Value}(h:RdD M w (A46 p) v):RdD M w (Aq p) v:=by
 simp only[A46,Aq,RdD,RdDL,hp]at h⊢;obtain ⟨cs,h1,h2,v0,r0,h3,h4,v1,r1,h5,h6,v2,r2,h7,h8,v3,r3,h9,j7,v4,r4,h11,h12,v5,r5,h13,h14,h15⟩:=h;exact⟨cs,h1,h2,v0,r0,h3,h4,v1,r1,h5,h6,v2,r2,h7,h8,v3,r3,h9,j7,v4,r4,h11,h12,v5,r5,h13,.inl ⟨Y,none,0,h14⟩,h15⟩
def Jo(d:UInt8):List UInt8→List UInt8→List ByteArray
 |cur,[]=>[mkT cur]
 |cur,c::r=>if c=d then mkT cur::Jo d [] r else Jo d (cur++[c]) r
def S8(d:UInt8):∀(l cur:List UInt8),d∉l→Jo d cur l=[mkT (cur++l)]
 |[],cur,_=>by rw[Jo,xM]
 |c::l,cur,h=>by
  simp only[yH,uL]at h;rw[Jo,zD (Ne.symm h.1),S8 d l _ h.2];simp
def S7(d:UInt8):∀(l cur:List UInt8),d∈l→Jo d cur l=mkT (cur++l.take (L0 d l))::Jo d [] (l.drop (L0 d l+1))
 |[],cur,h=>by simp at h
 |c::l,cur,h=>by
  by_cases hc:c=d
  ·subst hc;rw[Jo,zE rfl,L0];simp[Lib.indexByte]
  ·have h2:d∈l:=by
    simp only[yH]at h;exact h.resolve_left (Ne.symm hc)
   have h3:=(Kc h2).1;have e:L0 d (c::l)=L0 d l+1:=by
    have e1:Lib.indexByte (c::l) d=Lib.indexByte l d+1:=by
     rw[Lib.indexByte.eq_def];dsimp only;rw[zD (by simpa using hc),zD (by simp;omega)]
    rw[L0,L0,e1];omega
   rw[Jo,zD hc,S7 d l _ h2,e];simp
def Va(d:UInt8)(l:List UInt8):∀j,Db d l (j+1)=Db d (l.drop (L0 d l+1)) j
 |0=>rfl
 |j+1=>by
  rw[Db,Va d l j];rfl
def Ajq(d:UInt8):∀(k:Nat) (l:List UInt8),l.length≤k→C2 d (mkT l)=Jo d [] l
 |0,l,h=>by
  rw[vE.1 (by omega:l.length=0)];simp[C2,Jo,Db,mkT]
 |k+1,l,h=>by
  by_cases hd:d∈l
  ·have h1:=T1 hd;have h2:=(Kc hd).2;have h3:(l.drop (L0 d l+1)).length≤k:=by rw[yQ];omega
   rw[S7 d l [] hd,←Ajq d k _ h3];simp only[C2,Ku];rw[←h1,List.range_succ_eq_map,xW,List.map_map,xY,wP,Va];congr 2;apply tE;intro j _;show mkT (Vj d l (j+1))=_;rw[Vj,Vj,Va]
  ·have h1:l.count d=0:=List.count_eq_zero.2 hd;rw[S8 d l [] hd];simp[C2,Ku,h1,Db]
def Ajp(d:UInt8)(s:ByteArray):C2 d s=Jo d [] s.data.toList:=by
 rw[←Ajq d _ _ (yD _),Kt]
def digI(c:UInt8):Int:=if 48≤c.toNat∧c.toNat≤57 then (c.toNat:Int)-48 else if 97≤c.toNat∧c.toNat≤102 then (c.toNat:Int)-87 else 16
def Ae0(c:UInt8):0≤digI c∧digI c≤16:=by
 unfold digI;split
 ·omega
 split
 ·omega
 ·omega
end Go.Sy.YtolnneiipmfgaaaGreatDoor
namespace Go.Sy
open Go.RowKit
def Axq{β:Type}(T:Nat→Prop)(J:β→World→Prop):Prop :=
 ∀s W W' row,J s W→W.grownBy W' row→(∀r,row=some r→T r)→J s W'
def OwnT{β:Type}(B:Nat)(T:Nat→Prop)(I:β→World→Prop):Prop :=
 ∀s W W' row,I s W→W.grownBy W' row→(∀r,row=some r→T r∨(B≤r∧∃o:Obj,W.heap[r]? = some o∧o.isCells=false))→I s W'
theorem OwnT.putObj{β:Type}{B:Nat}{T:Nat→Prop}{I:β→World→Prop}(h:OwnT B T I){s:β}{W:World}{l:Nat}{o:Obj}(o':Obj)(hs:I s W)(hB:B≤l)(hl:W.heap[l]? = some o)(ho:o.isCells=false):I s (W.putObj l o') :=
 h s W _ _ hs (grownBy_putObj' W l o') (λr e=>by cases e;exact .inr ⟨hB,o,hl,ho⟩)
theorem OwnT.alloc{β:Type}{B:Nat}{T:Nat→Prop}{I:β→World→Prop}(h:OwnT B T I){s:β}{W:World}(o:Obj)(hs:I s W):I s (W.alloc o) :=
 h s W _ none hs ⟨rfl,rfl,rfl,by simp,λk hk _=>Below.heap_alloc _ _ _ hk⟩ (λr e=>by cases e)
def Ale{α:Type}(F:Fence)(n:Nat)(P:Program)(g:Nat)(lb:Array Value)(ox:α→Array Value)(T:Nat→Prop)(Kp:World→World→Prop)(S Sp:List α→Prop)(N:Nat)(w:World):Prop :=
 ∀(l:Nat) (J Jx:List α→World→Prop) (W:World),Below w.heap.size w W→Axq T J→Axq T Jx →
  (∀ pre x W1,J pre W1→pre.length<N→YieldAt F (n-1) P l (ox x) W1 λ e W' =>
   (e=.returned (.bool true)∧J (pre++[x]) W'∧Kp W1 W')∨(e=.returned (.bool false)∧Jx (pre++[x]) W')) →
  J [] W →
  CallsIn F n P g (#[.func (.yield l) #[] #[]]++lb) W λe W'=>(∃v,e=.returned v)∧((∃xs,S xs∧J xs W')∨(∃pre,Sp pre∧Jx pre W'))
def Qm{A B:World}{T:Nat→Prop}{row:Option Nat}{k:Nat}{o:Obj}(hg:A.grownBy B row)(hr:∀r,row=some r→T r)(hk:¬T k)(h:A.heap[k]? = some o):B.heap[k]? = some o:=by
 obtain ⟨_,_,_,_,h5⟩:=hg;exact(h5 k (wW.1 h).1 (λe=>hk (hr k e.symm))).trans h
variable {F:Fence} {n:Nat} {P:Program}
theorem Xb{α:Type}{g:Operand}{ps:Array Tmp}{assign body:Code}{Q:Exit→Act→World→Prop}{a:Act}{w:World}(nq:F.round=none)(h1:1≤n){gf:Nat}{lb:Array Value}(hg:a.eval g=.func (.func gf) #[] lb)(hFg:F.fn gf)(eg:∀ args w,(callFunc gf args).run P w=.ok (.enter gf args) w){ox:α→Array Value}{T:Nat→Prop}{Kp:World→World→Prop}{S Sp:List α→Prop}{N:Nat}{w0:World}(hseq:Ale F (n-1) P gf lb ox T Kp S Sp N w0)(hT:∀ b,T b→b<w.heap.size)(hKt:∀ {A B C:World},Kp A B→Kp B C→Kp A C)(hKb:∀ (W:World) (l:Nat) (o o':Obj),w.heap.size≤l→W.heap[l]? = some o→o.isCells=false→o.isWalk=false→Kp W (W.putObj l o'))(pf:Below w0.heap.size w0 w)(oc:∀ x,(ox x).size=ps.size)(I:List α→World→Prop)(Ix:Code→List α→World→Prop)(hI:OwnT w.heap.size T I)(zg:∀ c,OwnT w.heap.size T (Ix c))(h0:I [] w)(a₁:α→Act)(te:∀ (l:Nat) (x:α) (W:World) (K:Act→World→Prop),K (a₁ x) W →
   assign.wpIn (F.inRound l) (n-1-1) P (Exit.then K (λ _ _ _=>False)) { tmps:=(ps.zip (ox x)).foldl (λ t (p,v)=>t.setIfInBounds p v) a.tmps,defers:=[] } W)(zh:∀ (l:Nat) (pre:List α) (x:α) (W:World),I pre W→pre.length<N→body.wpIn (F.inRound l) (n-1-1) P (ownPostK Kp I Ix (pre++[x]) W) (a₁ x) W)(zi:∀ (D:Nat) (xs:List α) (W:World),w.heap.size≤D→S xs→I xs W→W.heap[D]? = some (.deferred (some []))→Q .normal { a with defers:={ target:=.collected D,args:=#[] }::a.defers } W)(zj:∀ (D:Nat) (c:Code) (pre:List α) (W:World),w.heap.size≤D→Sp pre→Ix c pre W→W.heap[D]? = some (.deferred (some []))→c.wpIn F n P Q { a with defers:={ target:=.collected D,args:=#[] }::a.defers } W):(Code.rangeFunc g ps assign body).wpIn F n P Q a w:=by
 refine wpIn_rangeFunc ?_;intro fn uu;rw[nq];obtain ⟨rec,jd⟩:∃rec:LoopState→Option Code→Loop,rec=λst pe=>{state:=st,pending:=pe,fn,tmps:=a.tmps,params:=ps,assign,body,defers:=w.heap.size}:=⟨_,rfl⟩
 obtain ⟨W1,zk⟩:∃W1,(w.alloc (.deferred (some []))).alloc (.loop (rec .ready none))=W1:=⟨_,rfl⟩
 have hL1:W1.heap[w.heap.size+1]? = some (.loop (rec .ready none)):=by
  rw[←zk];have:=World.alloc_heap_new (w.alloc (.deferred (some []))) (.loop (rec .ready none));rwa [World.size_alloc]at this
 have hK1:W1.heap[w.heap.size]? = some (.deferred (some [])):=by
  rw[←zk];exact(Below.heap_alloc _ _ _ y_).trans (World.alloc_heap_new w _)
 have hI1:I [] W1:=by rw[←zk];exact hI.alloc _ (hI.alloc _ h0)
 have gv:Below w0.heap.size w0 W1:=by
  rw[←zk];exact pf.trans ((((Below.refl _ w).alloc (yD _) _).alloc y_ _).mono pf.size)
 have nT:∀k,w.heap.size≤k→¬T k:=λk hk h=>Nat.lt_irrefl _ (yW (hT k h) hk)
 refine⟨w.heap.size+1,[{ target:=.collected w.heap.size,args:=#[] }],W1,{ target:=.fn (.func gf) lb,args:=#[.func (.yield (w.heap.size+1)) #[] #[]] },W1,gf,
  #[.func (.yield (w.heap.size+1)) #[] #[]]++lb,W1,?_,?_,?_,?_,λ _=>h1,?_⟩
 ·rw[←zk,jd];exact run_enterLoop_outer _ _ _ _ _
 ·simp only[resolve,hg];simp[go_sem]
 ·intro f' hf';simp[Target.leads]at hf';subst hf';exact hFg
 ·simp[invoke,go_sem,eg]
 ·refine(hseq (w.heap.size+1)
   (λpre W=>I pre W∧W.heap[w.heap.size+1]? = some (.loop (rec .ready none))∧W.heap[w.heap.size]? = some (.deferred (some [])))
   (λpre W=>∃c,Ix c pre W∧W.heap[w.heap.size+1]? = some (.loop (rec .done (some c)))∧W.heap[w.heap.size]? = some (.deferred (some [])))
   W1 gv
   (λs A B row hs ou hr=>⟨hI s A B row hs.1 ou (λr e=>.inl (hr r e)),Qm ou hr (nT _ q_) hs.2.1,Qm ou hr (nT _ q_) hs.2.2⟩)
   (λ s A B row hs ou hr=>by
    obtain ⟨c,hc,hl,hk⟩:=hs;exact⟨c,zg c s A B row hc ou (λ r e=>.inl (hr r e)),Qm ou hr (nT _ q_) hl,Qm ou hr (nT _ q_) hk⟩)
   ?_ ⟨hI1,hL1,hK1⟩).mono ?_
  ·rintro pre x W ⟨hi,hl,hk⟩ hlen;have ab:w.heap.size+1<W.heap.size:=(wW.1 hl).1;have hy:=run_yield (P:=P) (args:=ox x) hl (by rw[jd];exact oc x);rw[jd]at hy;refine⟨fn,_,assign,body,hy,roundIn_of_wpIn uu (te _ x W _ ⟨_,run_beginRound hl (by rw[jd]),?_⟩)⟩;have js:(W.putObj (w.heap.size+1) (.loop {rec .ready none with state:=.busy})).heap[w.heap.size+1]? = some (.loop {rec .ready none with state:=.busy}):=World.putObj_heap_same ab;have cq:(W.putObj (w.heap.size+1) (.loop {rec .ready none with state:=.busy})).heap[w.heap.size]? = some (.deferred (some [])):=(World.putObj_heap_other q_).trans hk;have x3:Kp W (W.putObj (w.heap.size+1) (.loop {rec .ready none with state:=.busy})):=hKb _ _ _ _ q_ hl rfl rfl;refine wpIn_mono (zh _ pre x _ (hI.putObj _ hi (uZ _) hl E) hlen) ?_;have fin:∀(gq:Option Code) (W3:World),KeepsOthers (W.putObj (w.heap.size+1) (.loop {rec .ready none with state:=.busy})) W3 →
     (Instr.endRound (w.heap.size+1) gq).run P W3=.ok (.bool gq.isNone) (W3.putObj (w.heap.size+1) (.loop (rec (if gq.isNone then .ready else .done) gq))) ∧
     W3.heap[w.heap.size+1]? = some (.loop {rec .ready none with state:=.busy}) ∧
     (W3.putObj (w.heap.size+1) (.loop (rec (if gq.isNone then .ready else .done) gq))).heap[w.heap.size+1]? = some (.loop (rec (if gq.isNone then .ready else .done) gq)) ∧
     (W3.putObj (w.heap.size+1) (.loop (rec (if gq.isNone then .ready else .done) gq))).heap[w.heap.size]? = some (.deferred (some [])):=λgq W3 r9=>by
    have lg:=r9.same _ _ js rfl;have:=run_endRound (P:=P) gq lg;rw[jd]at this⊢;exact⟨this,by rw[jd]at lg;exact lg,World.putObj_heap_same (wW.1 lg).1,(World.putObj_heap_other q_).trans (r9.same _ _ cq E)⟩
   rintro e a3 W3 hp;cases e with
   |normal=>
    obtain ⟨r9,hkp3,vz⟩:=hp;obtain ⟨hr,lg,v7,v8⟩:=fin none W3 r9;exact⟨_,_,hr,.inl ⟨E,⟨hI.putObj _ vz (uZ _) lg E,v7,v8⟩,hKt (hKt x3 hkp3) (hKb _ _ _ _ q_ lg E E)⟩⟩
   |ret=>
    obtain ⟨r9,vz⟩:=hp;obtain ⟨hr,lg,v7,v8⟩:=fin (some .ret) W3 r9;exact⟨_,_,hr,.inr ⟨E,.ret,(zg _).putObj _ vz (uZ _) lg E,v7,v8⟩⟩
   |exit id=>
    obtain ⟨r9,vz⟩:=hp;obtain ⟨hr,lg,v7,v8⟩:=fin (some (.exit id)) W3 r9;exact⟨_,_,hr,.inr ⟨E,.exit id,(zg _).putObj _ vz (uZ _) lg E,v7,v8⟩⟩
   |goto t=>
    obtain ⟨r9,vz⟩:=hp;obtain ⟨hr,lg,v7,v8⟩:=fin (some (.goto t)) W3 r9;exact⟨_,_,hr,.inr ⟨E,.goto t,(zg _).putObj _ vz (uZ _) lg E,v7,v8⟩⟩
   |panic ch=>exact hp.elim
   |outgrown=>exact hp.elim
  ·rintro e W2 ⟨⟨v,rfl⟩,(⟨xs,hS,hi,hl,hk⟩|⟨pre,hSp,c,hi,hl,hk⟩)⟩
   ·exact⟨none,_,by have:=run_endLoop (P:=P) hl (by rw[jd];simp);rw[jd]at this;exact this,zi _ xs _ (yD _) hS (hI.putObj _ hi (uZ _) hl E) ((World.putObj_heap_other q_).trans hk)⟩
   ·exact⟨some c,_,by have:=run_endLoop (P:=P) hl (by rw[jd];simp);rw[jd]at this;exact this,zj _ c pre _ (yD _) hSp ((zg c).putObj _ hi (uZ _) hl E) ((World.putObj_heap_other q_).trans hk)⟩
end Go.Sy
namespace Go.Proofs
open Go.RowKit Go.Shelf Go.Sy Go.Sy.YtolnneiipmfgaaaGreatDoor
attribute [local go_sem] Oper.semAt_some
structure SeqBox(W:World)(bp bs bv:Nat)(t:ByteArray):Prop where
 p:W.cell? ⟨bp,0,none⟩=some (.string ⟨#[46]⟩)
 s:W.cell? ⟨bs,0,none⟩=some (.string t)
 v:W.cell? ⟨bv,0,none⟩=some (.int .i64 0)
 f:W.frozen? ⟨bs,0,none⟩=false
def A5v(bp bs bv:Nat)(W W':World):Prop:=W'.heap[bp]? = W.heap[bp]? ∧ W'.heap[bs]? = W.heap[bs]? ∧ W'.heap[bv]? = W.heap[bv]?
theorem SeqBox.keep{W W':World}{bp bs bv:Nat}{t:ByteArray}(h:SeqBox W bp bs bv t)(k:A5v bp bs bv W W'):SeqBox W' bp bs bv t :=
 ⟨(World.cell?_of_block k.1).trans h.p,(World.cell?_of_block k.2.1).trans h.s,(World.cell?_of_block k.2.2).trans h.v,by
  have:W'.frozen? ⟨bs,0,none⟩=W.frozen? ⟨bs,0,none⟩:=by unfold World.frozen?;rw[k.2.1]
  rw[this];exact h.f⟩
def Aqg:∀{l:List UInt8} {c:UInt8},c∉l→Lib.indexByte l c=-1
 |[],_,_=>rfl
 |b::l,c,h=>by
  simp only[yH,uL]at h;rw[Lib.indexByte,zD (by simpa using Ne.symm h.1),Aqg h.2];rfl
def A38(bs:Nat)(W:World):Nat:=match W.cell? ⟨bs,0,none⟩ with|some (.string t)=>t.size|_=>0
set_option maxRecDepth 100000 in
set_option maxHeartbeats 4000000 in
theorem Tryz.split_stops(s:ByteArray)(hs:s.size<100000)(n:Nat)(hn:1≤n)(bp bs bv:Nat)(hd:bp≠bs∧bv≠bs)(w:World)(hw:SeqBox w bp bs bv s)(ab:bp<w.heap.size∧bs<w.heap.size∧bv<w.heap.size):Ale Fence.wide n Tryz.prog 286 #[.pointer (some ⟨bp,0,none⟩),.pointer (some ⟨bs,0,none⟩),.pointer (some ⟨bv,0,none⟩)] (λx:ByteArray=>#[.string x]) (λb=>b=bs) (A5v bp bs bv)
   (λxs=>xs=C2 46 s) (λpre=>pre <+: C2 46 s) (C2 46 s).length w:=λl J Jx W hW hJ hJx hY h0=>by
 refine callsIn_of_wp Tryz.func286 E Y ?_ E;simp only[Tryz.ntmps286,uW,yM,xF,Nat.reduceAdd,Nat.reduceSub,Array.replicate_succ,Array.replicate_zero,List.push_toArray,List.append_toArray,wP,xY];have ng:SeqBox W bp bs bv s:=hw.keep ⟨hW.block _ ab.1,hW.block _ ab.2.1,hW.block _ ab.2.2⟩;have c1:=ng.p;have c2:=ng.s;have c3:=ng.v
 gi_wp2
 gi_loopw [] (λwr=>∃j:Nat,j≤Avm 46 s∧SeqBox wr bp bs bv (mkT (Db 46 s.data.toList j))∧J ((C2 46 s).take j) wr) (λwr=>A38 bs wr)
 case atStart=>
  exact⟨0,xQ _,by rw[Db,Kt];exact ng,h0⟩
 case round=>
  obtain ⟨j,hj,hb,hJj⟩:=hrel;have d1:=hb.p;have d2:=hb.s;have d3:=hb.v;have yg:=Aov 46 s.data.toList j;have bh:s.data.toList.length=s.size:=rfl;have sh:=Lm 46 s;have iu:=Is (Db 46 s.data.toList j);by_cases ab:j<Avm 46 s
  ·have hi:=Kc (Ate ab);obtain ⟨m,oh⟩:∃m:Nat,Lib.indexByte (Db 46 s.data.toList j) 46=m:=⟨(Lib.indexByte (Db 46 s.data.toList j) 46).toNat,by omega⟩
   have q:=Tryz.strings_Index_one (mkT (Db 46 s.data.toList j)) 46 wr;rw[Ku,oh]at q;rw[oh,zZ]at hi;have hpm:=A23 (c:=46) (s:=s) (j:=j) oh;have hqm:=A6k (c:=46) (s:=s) (j:=j) oh;have bg:(C2 46 s)[j]? = some (mkT (Vj 46 s.data.toList j)):=by
    have kv:j<s.data.toList.count 46:=ab;rw[C2,xR (by rw[xA,tW];exact kv),vN,uD kv];rfl
   have hx:(mkT (Db 46 s.data.toList j)).extract 0 m=mkT (Vj 46 s.data.toList j):=by
    rw[E4,hpm];simp
   have hx2:(mkT (Db 46 s.data.toList j)).extract (m+1) (mkT (Db 46 s.data.toList j)).size=mkT (Db 46 s.data.toList (j+1)):=by
    rw[E4,hqm,iu,yN]
   have gw:(C2 46 s).take j++[mkT ((Db 46 s.data.toList j).take m)]=(C2 46 s).take (j+1):=by
    rw[vR,bg,hpm];rfl
   obtain ⟨fn,tmps,assign,body,hy,hR⟩:=hY _ (mkT ((Db 46 s.data.toList j).take m)) wr hJj (by rw[zY];omega);rw[gw]at hR
   gi_wp2
   refine⟨Y,?_⟩;refine(callsIn_wide.2 q).mono ?_;rintro e w' ⟨rfl,rfl⟩
   gi_wp2
   refine hR.mono ?_;rintro e W' (⟨rfl,hJ',hk⟩|⟨rfl,wa⟩)
   ·have uf:=hb.keep hk;have d1:=uf.p;have d2:=uf.s;have d3:=uf.v;have d4:=uf.f;have hsm1:(mkT (Db 46 s.data.toList (j+1))).size+(m+1)=(mkT (Db 46 s.data.toList j)).size:=by
     rw[iu,Is,hqm,yQ];omega
    rw[iu]at hx2
    gi_wp2
    rw[←hqm];have e2:(W'.setCell ⟨bs,0,none⟩ (.string (mkT (Db 46 s.data.toList (j+1))))).cell? ⟨bs,0,none⟩=some (.string (mkT (Db 46 s.data.toList (j+1)))):=World.cell?_setCell_same' _ _ _ (by rw[d2];rfl);refine⟨⟨j+1,ab,⟨?_,e2,?_,?_⟩,hJ _ _ _ (some bs) hJ' (grownBy_setCell' _ _ _) (λr e=>by cases e;rfl)⟩,?_⟩
    ·rw[World.cell?_setCell_other _ _ _ _ (by intro e;cases e;exact hd.1 rfl)];exact d1
    ·rw[World.cell?_setCell_other _ _ _ _ (by intro e;cases e;exact hd.2 rfl)];exact d3
    ·rw[World.frozen?_setCell];exact d4
    ·unfold A38;rw[e2,hb.s];simp only;omega
   ·gi_wp2
    refine bodyPost_ret (results_none E _ _ _) E ?_;exact⟨⟨_,E⟩,.inr ⟨_,List.take_prefix _ _,wa⟩⟩
  ·have cm:j=Avm 46 s:=by omega
   have dp:(46:UInt8)∉Db 46 s.data.toList j:=by
    have:=Y7 46 s.data.toList j hj;have e:Avm 46 s=s.data.toList.count 46:=rfl;exact List.count_eq_zero.1 Go.Sy.q_
   have q:=Tryz.strings_Index_one (mkT (Db 46 s.data.toList j)) 46 wr;rw[Ku,Aqg dp]at q;have bg:(C2 46 s)[j]? = some (mkT (Db 46 s.data.toList j)):=by
    rw[cm,C2,wA (by simp[Avm])];simp[Avm]
   have gw:(C2 46 s).take j++[mkT (Db 46 s.data.toList j)]=C2 46 s:=by
    have:(C2 46 s).take (j+1)=C2 46 s:=xG Go.Sy.q_;rw[vR,bg]at this;exact this
   have hlen:((C2 46 s).take j).length<(C2 46 s).length:=by rw[zY];omega
   clear cm;obtain ⟨fn,tmps,assign,body,hy,hR⟩:=hY _ (mkT (Db 46 s.data.toList j)) wr hJj hlen;rw[gw]at hR
   gi_wp2
   refine⟨Y,?_⟩;refine(callsIn_wide.2 q).mono ?_;rintro e w' ⟨rfl,rfl⟩
   gi_wp2
   refine hR.mono ?_;rintro e W' (⟨rfl,hJ',hk⟩|⟨rfl,wa⟩)
   ·gi_wp2
    go_end0
    exact⟨⟨_,E⟩,.inl ⟨_,E,hJ'⟩⟩
   ·gi_wp2
    go_end0
    exact⟨⟨_,E⟩,.inr ⟨_,List.prefix_rfl,wa⟩⟩
end Go.Proofs
