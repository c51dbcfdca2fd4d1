/- Parts of a proof. -/
import Derived.Test.YticmobkdaneelaaGreatDoorYE37
set_option linter.all false
set_option linter.unusedVariables false
set_option linter.unusedSimpArgs false
set_option linter.deprecated false
namespace Go.Sy.YticmobkdaneelaaGreatDoor
open Go.Proofs Go.Proofs.Tryz
attribute [local irreducible] Go.Sy.G Go.Sy.DR
set_option maxRecDepth 100000
set_option maxHeartbeats 4000000
def Af7{α:Type}{p:α→Bool}:∀{l:List α} {j:Nat} (hj:j<l.length),(∀k (hk:k<l.length),k<j→p l[k]=false)→p l[j]=true→l.find? p=some l[j]
 |x::l,0,_,_,h2=>by
  rw[tP]at h2⊢;rw[List.find?_cons,h2]
 |x::l,j+1,hj,h1,h2=>by
  rw[tO]at h2 ⊢;have h0:=h1 0 y_ q_;rw[tP]at h0;rw[List.find?_cons,h0];exact Af7 (by simpa using hj) (λ k hk hkj=>by
   have:=h1 (k+1) (by simp;omega) q_;rwa [tO]at this) h2
def T0(n:Net)(j:Nat):List Domain:=(n.domains.take j).map (λd=>{d with peers:=peersT n d})++n.domains.drop j
def Axx(n:Net):T0 n 0=n.domains:=by simp[T0]
def A15(n:Net):T0 n n.domains.length=(By n).domains:=by simp[T0,By]
def A14(n:Net){j:Nat}(hj:j≤n.domains.length):(T0 n j).length=n.domains.length:=by simp[T0];omega
def Axy(n:Net){j:Nat}(hj:j<n.domains.length)(h:(j:Int).toNat<(T0 n j).length):(T0 n j)[(j:Int).toNat]'h=n.domains[j]∧(T0 n j).set (j:Int).toNat {n.domains[j] with peers:=peersT n n.domains[j]}=T0 n (j+1):=by
 have hl:((n.domains.take j).map (λd=>{d with peers:=peersT n d})).length=j:=by simp;omega
 have e:T0 n j=(n.domains.take j).map (λd=>{d with peers:=peersT n d})++n.domains[j]::n.domains.drop (j+1):=by
  rw[T0,yP hj]
 have e2:T0 n (j+1)=(n.domains.take j).map (λd=>{d with peers:=peersT n d})++{n.domains[j] with peers:=peersT n n.domains[j]}::n.domains.drop (j+1):=by
  rw[T0,yD hj,wU,xV,vG,xJ];rfl
 constructor
 ·simp only[zU,e];rw[xP q_];simp only[hl,tQ,tP]
 ·rw[zU,e,e2,tT _ _ q_,hl,tQ];rfl
def A3q(n:Net)(h:Ac n=true):(∀f∈n.floods,f.addrs.length≤16):=λf hf=>by
 obtain ⟨j,hj,rfl⟩:=wD hf;have:=Avu h hj;simp only[M8,zE,zJ]at this;exact this.2
def Axn{n:Net}(h:Ac n=true)(d:Domain):(peersT n d).length≤16:=by
 unfold peersT;split
 ·rename_i hc;rw[xF];have hl:=Iy (λf:Flood=>f.dev==d.dev&&f.vni==d.vni) n.floods;have h0:(I5 n d.dev d.vni).toNat<n.floods.length:=by
   have e:I5 n d.dev d.vni=Bv (λf:Flood=>f.dev==d.dev&&f.vni==d.vni) n.floods:=rfl;have:=hc.2;omega
  rw[Ai h0];exact A3q n h _ (zI h0)
 ·simp
def Afg{n:Net}(hn:n.Fin)(h:Ac n=true):(By n).Fin:=by
 have hl:(By n).domains.length=n.domains.length:=by simp[By]
 refine {hn with domains:=?_,peers:=?_}
 ·show (By n).domains.length<_;rw[hl];exact hn.domains
 ·intro p hp;have hp:p∈n.domains.map λd=>{d with peers:=peersT n d}:=hp
  obtain ⟨d,_,rfl⟩:=yS.1 hp;show (peersT n d).length<_;have:=Axn h d;omega
def meshS(n:Net)(hn:n.Fin):Sp 135 [Am n] (.tup [Am (meshNT n).1,Aa (meshNT n).2.1,Aa (meshNT n).2.2]):=cT F135 ntmps135 λF hF=>by
 have qn:=A1 n hn;have db:=Te n hn;have aa:=meshNT.eq_1 n;generalize meshNT n=res at *;cases hr:Ac n with
 |false=>
  rw[hr]at qn;rw[hr,zG rfl]at aa;subst aa;refine gD qn F22 ?_;refine Ak 2 (C6 emptyN) E vL ?_;exact gA
 |true=>
 rw[hr]at qn;rw[hr,zD y_]at aa;have hff:n.floods.length<2147483648:=hn.floods;have d7:n.domains.length<2147483648:=hn.domains;refine gD qn F22 ?_;refine Bf 1 8 (Am n) E E E ?_;refine C3 (λj:Nat=>j≤n.floods.length∧∀k (hk:k<n.floods.length),k<j→agreesB n n.floods[k]=true) (λj=>[(1,.ref 8 (Am n) 0),(2,.ptr 1001 0),(18,.sl 4 Ba n.floods),(19,Aa n.floods.length),(20,Aa j)]) (λ_=>[(1001,.box [.val (.slice none 0 0),.val (.slice none 0 0),.val (.slice none 0 0),.val (.slice none 0 0),.val (.slice none 0 0),.val (.slice none 0 0),.val (.slice none 0 0),.val (.slice none 0 0)])]) (λj=>n.floods.length-j) 0 [(1001,2)] ⟨by omega,λk hk h=>by omega⟩ U ?_;rintro j ⟨hj,hI⟩;refine T ?_;constructor<;>intro h
 ·have ab:j<n.floods.length:=qA h;have ai:(j:Int).toNat<n.floods.length:=ab;clear h;have q:=A6i n hn hr (n.floods[(j:Int).toNat]'ai) (zI ai);cases ha:agreesB n (n.floods[(j:Int).toNat]'ai) with
  |false=>
   rw[ha]at q;rw[Af7 (p:=λf=>!(agreesB n f)) ab (λk hk hkj=>by simp only[hI k hk hkj];rfl) (by show (!(agreesB n (n.floods[(j:Int).toNat]'ai)))=true;rw[ha];rfl)]at aa;dsimp only at aa;subst aa;refine gD q F191 ?_;refine Ak 1001 (C6 emptyN) E vL ?_;exact gA
  |true=>
   rw[ha]at q;refine gD q F191 ?_;refine Be (j+1) [] ⟨ab,λk hk hkj=>?_⟩ q_ U;by_cases e:k=j
   ·subst e;exact ha
   ·exact hI k hk q_
 ·have dh:j=n.floods.length:=qB h;clear h;have tp:n.floods.find? (λf=>!(agreesB n f))=none:=by
   rw[List.find?_eq_none];intro x hx;obtain ⟨k,hk,rfl⟩:=wD hx;rw[hI k hk q_];simp
  rw[tp]at aa;dsimp only at aa;clear hI hj dh tp;refine T ?_;refine X (Ad [(0,901),(1,902),(2,903),(3,904),(4,905),(5,906),(6,907),(7,908)] E F30 db E W E V) ?_;refine C3 (λj:Nat=>j≤n.domains.length) (λj=>[(1,.ref 8 (Am n) 0),(2,.ptr 1001 0),(35,.sl 6 As n.domains),(36,Aa n.domains.length),(37,Aa j)]) (λj=>[(1001,.box [.osl 901,.osl 902,.osl 903,.osl 1004,.osl 905,.osl 906,.osl 907,.osl 908]),(901,.row 5 Ax n.devices),(902,.row 7 A4 n.ports),(903,.row 3 Bz n.links),(1004,.row 6 As (T0 n j)),(905,.row 4 A0 n.statics),(906,.row 4 Ba n.floods),(907,.row 5 Ca n.vrfs),(908,.row 5 B4 n.irbs)]) (λj=>n.domains.length-j) 0 [(1004,904)] q_ ⟨⟨E,E,E,E,E,E,E,E,E,E,Y⟩,⟨.inl E,E,.inl E,E,.inl E,E,.inl E,E,.inl (zH (Ob.row 6 As) (Axx n)),E,.inl E,E,.inl E,E,.inl E,E,.inl E,E,Y⟩,E,E⟩ ?_;intro j hj;have gw:=A14 n hj;refine T ?_;constructor<;>intro h
  ·have ab:j<n.domains.length:=qA h;have ai:(j:Int).toNat<n.domains.length:=ab;clear h;have x6:(j:Int).toNat<(T0 n j).length:=by rw[gw];exact ai
   obtain ⟨m1,m2⟩:=Axy n ab x6;have hDj:n.domains[j]=(n.domains[(j:Int).toNat]'ai):=rfl;rw[hDj]at m1 m2;have ag:T0 n j≠[]:=λe=>by rw[e]at x6;cases x6
   have ql:=Ak2 n hn (n.domains[(j:Int).toNat]'ai).dev (n.domains[(j:Int).toNat]'ai).vni;have tq:=peersT.eq_1 n (n.domains[(j:Int).toNat]'ai);have w4:I5 n (n.domains[(j:Int).toNat]'ai).dev (n.domains[(j:Int).toNat]'ai).vni<0∨∃k:Nat,I5 n (n.domains[(j:Int).toNat]'ai).dev (n.domains[(j:Int).toNat]'ai).vni=k∧k<n.floods.length:=by
    by_cases h:I5 n (n.domains[(j:Int).toNat]'ai).dev (n.domains[(j:Int).toNat]'ai).vni<0
    ·exact .inl h
    ·exact .inr (K6 h)
   generalize I5 n (n.domains[(j:Int).toNat]'ai).dev (n.domains[(j:Int).toNat]'ai).vni=lv at *;generalize hpT:peersT n (n.domains[(j:Int).toNat]'ai)=ps at *;by_cases k1:(n.domains[(j:Int).toNat]'ai).vni=0
   ·have g1:((n.domains[(j:Int).toNat]'ai).vni != 0)=false:=by rw[bne_eq_false_iff_eq];exact k1
    rw[zD (λh=>h.1 k1)]at tq;subst tq;refine T ?_;refine Au 9 1 Aa E ?_;refine C ql F192 ?_;refine⟨ag,?_⟩;refine T ?_;refine⟨(⟨(n.domains[(j:Int).toNat]'ai).dev,(n.domains[(j:Int).toNat]'ai).vlan,(n.domains[(j:Int).toNat]'ai).vni,(n.domains[(j:Int).toNat]'ai).irb,(n.domains[(j:Int).toNat]'ai).row,[]⟩:Domain),by rw[m1];rfl,by rw[m1];rfl,?_⟩;refine T ?_;exact Be (j+1) [] ab q_ ⟨⟨E,E,E,E,E,E,E,E,E,E,Y⟩,⟨.inl E,E,.inl E,E,.inl E,E,.inl E,E,.inl (zH (Ob.row 6 As) m2.symm),E,.inl E,E,.inl E,E,.inl E,E,.inl E,E,Y⟩,E,E⟩
   have g1:((n.domains[(j:Int).toNat]'ai).vni != 0)=true:=by rw[xG];exact k1
   by_cases k2:lv<0
   ·have g2:decide (lv≥0)=false:=zL q_;rw[zD (λh=>by have:=h.2;omega)]at tq;subst tq;refine T ?_;refine Au 9 1 Aa E ?_;refine C ql F192 ?_;refine⟨ag,?_⟩;refine T ?_;refine⟨(⟨(n.domains[(j:Int).toNat]'ai).dev,(n.domains[(j:Int).toNat]'ai).vlan,(n.domains[(j:Int).toNat]'ai).vni,(n.domains[(j:Int).toNat]'ai).irb,(n.domains[(j:Int).toNat]'ai).row,[]⟩:Domain),by rw[m1];rfl,by rw[m1];rfl,?_⟩;refine T ?_;exact Be (j+1) [] ab q_ ⟨⟨E,E,E,E,E,E,E,E,E,E,Y⟩,⟨.inl E,E,.inl E,E,.inl E,E,.inl E,E,.inl (zH (Ob.row 6 As) m2.symm),E,.inl E,E,.inl E,E,.inl E,E,.inl E,E,Y⟩,E,E⟩
   obtain ⟨m,hm,hmf⟩:=w4.resolve_left k2;subst hm;clear w4;have g2:decide ((m:Int)≥0)=true:=zO q_;have a8:(m:Int).toNat<n.floods.length:=hmf;rw[zG ⟨k1,by omega⟩,Ai a8]at tq;have hfa:=A3q n hr _ (zI a8);refine T ?_;refine B7 9 1200 1 Aa E E ?_;refine C ql F192 ?_;refine Bf 8 6 (As (n.domains[(j:Int).toNat]'ai)) E E E ?_;refine C3 (λk:Nat=>k≤(n.floods[(m:Int).toNat]'a8).addrs.length) (λk=>[(1,.ref 8 (Am n) 0),(2,.ptr 1001 0),(7,Aa j),(8,.ref 6 (As (n.domains[(j:Int).toNat]'ai)) 0),(9,.osl 1200),(35,.sl 6 As n.domains),(36,Aa n.domains.length),(37,Aa j),(60,.sl 1 Bb (n.floods[(m:Int).toNat]'a8).addrs),(61,Aa (n.floods[(m:Int).toNat]'a8).addrs.length),(62,Aa k)]) (λk=>[(1001,.box [.osl 901,.osl 902,.osl 903,.osl 1004,.osl 905,.osl 906,.osl 907,.osl 908]),(901,.row 5 Ax n.devices),(902,.row 7 A4 n.ports),(903,.row 3 Bz n.links),(1004,.row 6 As (T0 n j)),(905,.row 4 A0 n.statics),(906,.row 4 Ba n.floods),(907,.row 5 Ca n.vrfs),(908,.row 5 B4 n.irbs),(1200,.row 1 Aa (((n.floods[(m:Int).toNat]'a8).addrs.take k).map (λa=>O4 n (D2 n a) (n.domains[(j:Int).toNat]'ai).vni)))]) (λk=>(n.floods[(m:Int).toNat]'a8).addrs.length-k) 0 [] q_ U ?_;intro k hk;refine T ?_;constructor<;>intro h
   ·have cw:k<(n.floods[(m:Int).toNat]'a8).addrs.length:=qA h;have cm:(k:Int).toNat<(n.floods[(m:Int).toNat]'a8).addrs.length:=cw;clear h;have qo:=Asl n hn ((n.floods[(m:Int).toNat]'a8).addrs[(k:Int).toNat]'cm);have qf:=Zc n hn (D2 n ((n.floods[(m:Int).toNat]'a8).addrs[(k:Int).toNat]'cm)) (n.domains[(j:Int).toNat]'ai).vni;have ff:((n.floods[(m:Int).toNat]'a8).addrs.take (k+1)).map (λa=>O4 n (D2 n a) (n.domains[(j:Int).toNat]'ai).vni)=((n.floods[(m:Int).toNat]'a8).addrs.take k).map (λa=>O4 n (D2 n a) (n.domains[(j:Int).toNat]'ai).vni)++[O4 n (D2 n ((n.floods[(m:Int).toNat]'a8).addrs[(k:Int).toNat]'cm)) (n.domains[(j:Int).toNat]'ai).vni]:=by
     rw[yD cw,wU];rfl
    have vv:(((n.floods[(m:Int).toNat]'a8).addrs.take k).map (λa=>O4 n (D2 n a) (n.domains[(j:Int).toNat]'ai).vni)).length≤16:=by rw[xF,yA];omega
    refine gB qo F194 qf F193 ?_;refine Xd (Ag Γ.toTy 75 E E E E E (.row E) (.lit (e:=Aa) (l:=[O4 n (D2 n ((n.floods[(m:Int).toNat]'a8).addrs[(k:Int).toNat]'cm)) (n.domains[(j:Int).toNat]'ai).vni]) E E) j_ (by simp only[yC];omega) (by simp only[yC];omega)) ?_;refine T ?_;exact Be (k+1) [(1200,75)] cw q_ ⟨⟨E,E,E,E,E,E,E,E,E,E,E,E,E,E,E,E,E,E,E,E,E,E,Y⟩,⟨.inl E,E,.inl E,E,.inl E,E,.inl E,E,.inl E,E,.inl E,E,.inl E,E,.inl E,E,.inl E,E,.inl (zH (Ob.row 1 Aa) ff),E,Y⟩,E,E⟩
   ·have x5:k=(n.floods[(m:Int).toNat]'a8).addrs.length:=qB h;clear h;rw[x5,yN,←tq];refine Aj 1200 E ?_;refine T ?_;refine⟨ag,?_⟩;refine T ?_;refine⟨(⟨(n.domains[(j:Int).toNat]'ai).dev,(n.domains[(j:Int).toNat]'ai).vlan,(n.domains[(j:Int).toNat]'ai).vni,(n.domains[(j:Int).toNat]'ai).irb,(n.domains[(j:Int).toNat]'ai).row,ps⟩:Domain),by rw[m1];rfl,by rw[m1];rfl,?_⟩;refine T ?_;exact Be (j+1) [] ab q_ ⟨⟨E,E,E,E,E,E,E,E,E,E,Y⟩,⟨.inl E,E,.inl E,E,.inl E,E,.inl E,E,.inl (zH (Ob.row 6 As) m2.symm),E,.inl E,E,.inl E,E,.inl E,E,.inl E,E,Y⟩,E,E⟩
  ·have dh:j=n.domains.length:=qB h;clear h;subst dh;rw[A15];have qm:=A1 (By n) (Afg hn hr);refine T ?_;refine Aj 901 E ?_;refine Aj 902 E ?_;refine Aj 903 E ?_;refine Aj 1004 E ?_;refine Aj 905 E ?_;refine Aj 906 E ?_;refine Aj 907 E ?_;refine Aj 908 E ?_;cases hb:Ac (By n) with
   |false=>
    rw[hb]at qm;rw[hb,zG rfl]at aa;subst aa;refine C qm F22 ?_;refine Ak 1001 (C6 emptyN) E vL ?_;exact gA
   |true=>
    rw[hb]at qm;rw[hb,zD y_]at aa;subst aa;refine C qm F22 ?_;exact D
end Go.Sy.YticmobkdaneelaaGreatDoor
