/- Parts of a proof. -/
import Derived.Test.YtodbnbfjhjcanaaGreatDoorXA27
set_option maxHeartbeats 4000000
set_option linter.all false
namespace Go.Sy.Zaa
open Go.Proofs Go.Proofs.Tryz
attribute [local irreducible]G DR
set_option maxRecDepth 100000
def Aa1{a:Type}{p:a->Bool}:∀{l:List a} {j:Nat} (hj:j<l.length),(∀k (hk:k<l.length),k<j->p l[k]=false)->p l[j]=true->l.find? p=some l[j]
 |x::l,0,_,_,h2=>by
  rw[tO]at h2|-;rw[List.find?_cons,h2]
 |x::l,j+1,hj,h1,h2=>by
  rw[tN]at h2 |-;have h0:=h1 0 qq z_;rw[tO]at h0;rw[List.find?_cons,h0];exact Aa1 (kS hj) (λ k hk hkj=>by
   have:=h1 (k+1) kO z_;rwa [tN]at this) h2
def Us(n:Net)(j:Nat):List Domain:=(n.domains.take j).map (λd=>{d with peers:=peersT n d})++n.domains.drop j
def Atn(n:Net):Us n 0=n.domains:=by simp[Us]
def Ax6(n:Net):Us n n.domains.length=(By n).domains:=by simp[Us,By]
def Ax5(n:Net){j:Nat}(hj:j<=n.domains.length):(Us n j).length=n.domains.length:=by simp[Us];omega
def Ato(n:Net){j:Nat}(hj:j<n.domains.length)(h:(j:Int).toNat<(Us n j).length):(Us n j)[(j:Int).toNat]'h=n.domains[j]/\(Us n j).set (j:Int).toNat {n.domains[j] with peers:=peersT n n.domains[j]}=Us n (j+1):=by
 have hl:((n.domains.take j).map (λd=>{d with peers:=peersT n d})).length=j:=by simp;omega
 have e:Us n j=(n.domains.take j).map (λd=>{d with peers:=peersT n d})++n.domains[j]::n.domains.drop (j+1):=by
  rw[Us,yO hj]
 have e2:Us n (j+1)=(n.domains.take j).map (λd=>{d with peers:=peersT n d})++{n.domains[j] with peers:=peersT n n.domains[j]}::n.domains.drop (j+1):=by
  rw[Us,yA hj,xY,xZ,vS,xF];rfl
 constructor
 .simp only[yE,e];rw[xR z_];simp only[hl,tP,tO]
 .rw[yE,e,e2,tS _ _ z_,hl,tP];rfl
def Azu(n:Net)(h:Ac n=true):(∀f∈n.floods,f.addrs.length<=16):=λf hf=>by
 obtain ⟨j,hj,rfl⟩:=wU hf;have:=Arc h hj;simp only[Oo,zG,zJ]at this;exact this.2
def Atb{n:Net}(h:Ac n=true)(d:Domain):(peersT n d).length<=16:=by
 unfold peersT;split
 .rename_i hc;rw[yZ];have hl:=Il (λf:Flood=>f.dev==d.dev&&f.vni==d.vni) n.floods;have h0:(Jd n d.dev d.vni).toNat<n.floods.length:=by
   have e:Jd n d.dev d.vni=Bs (λf:Flood=>f.dev==d.dev&&f.vni==d.vni) n.floods:=rfl;have:=hc.2;omega
  rw[Ag h0];exact Azu n h _ (zI h0)
 .simp
def Aaa{n:Net}(hn:n.Fin)(h:Ac n=true):(By n).Fin:=by
 have hl:(By n).domains.length=n.domains.length:=by simp[By]
 refine {hn with domains:=?_,peers:=?_}
 .show (By n).domains.length<_;rw[hl];exact hn.domains
 .intro p hp;have hp:p∈n.domains.map λd=>{d with peers:=peersT n d}:=hp
  obtain ⟨d,_,rfl⟩:=yS.1 hp;show (peersT n d).length<_;have:=Atb h d;omega
def meshS(n:Net)(hn:n.Fin):Sp 219 [Am n] (.tup [Am (meshNT n).1,Aa (meshNT n).2.1,Aa (meshNT n).2.2]):=cT F219 ntmps219 λF hF=>by
 have qn:=A0 n hn;have de:=Qz n hn;have aa:=meshNT.eq_1 n;generalize meshNT n=res at *;cases hr:Ac n with
 |false=>
  rw[hr]at qn;rw[hr,zE rfl]at aa;subst aa;refine gC qn F39 ?_;exact Ak 2 (C8 emptyN) E vL gA
 |true=>
 rw[hr]at qn;rw[hr,zD qq]at aa;have hff:n.floods.length<2147483648:=hn.floods;have dz:n.domains.length<2147483648:=hn.domains;refine gC qn F39 ?_;refine Ba 1 8 (Am n) E E E ?_;refine Ci (λj:Nat=>j<=n.floods.length/\∀k (hk:k<n.floods.length),k<j->agreesB n n.floods[k]=true) (λj=>[(1,.ref 8 (Am n) 0),(2,.ptr 1001 0),(18,.sl 4 Bm n.floods),(19,Aa n.floods.length),(20,Aa j)]) (λ_=>[(1001,.box [svN,svN,svN,svN,svN,svN,svN,svN])]) (λj=>n.floods.length-j) 0 [(1001,2)] ⟨by omega,λk hk h=>by omega⟩ U ?_;rintro j ⟨hj,hI⟩;refine gL ?_ ?_<;>intro h
 .have ab:j<n.floods.length:=qA h;have aj:(j:Int).toNat<n.floods.length:=ab;clear h;have q:=A2u n hn hr (n.floods[(j:Int).toNat]'aj) (zI aj);cases ha:agreesB n (n.floods[(j:Int).toNat]'aj) with
  |false=>
   rw[ha]at q;rw[Aa1 (p:=λf=>!(agreesB n f)) ab (λk hk hkj=>by simp only[hI k hk hkj];rfl) (by show (!(agreesB n (n.floods[(j:Int).toNat]'aj)))=true;rw[ha];rfl)]at aa;dsimp only at aa;subst aa;refine gC q F283 ?_;exact Ak 1001 (C8 emptyN) E vL gA
  |true=>
   rw[ha]at q;refine gC q F283 ?_;refine Ay (j+1) [] ⟨ab,λk hk hkj=>?_⟩ z_ U;by_cases e:k=j
   .subst e;exact ha
   .exact hI k hk z_
 .have cq:j=n.floods.length:=qB h;clear h;have tx:n.floods.find? (λf=>!(agreesB n f))=none:=by
   rw[List.find?_eq_none];intro x hx;obtain ⟨k,hk,rfl⟩:=wU hx;rw[hI k hk z_];simp
  rw[tx]at aa;dsimp only at aa;clear hI hj cq tx;refine T ?_;refine X (Ad [(0,901),(1,902),(2,903),(3,904),(4,905),(5,906),(6,907),(7,908)] E F102 de E W E V) ?_;refine Ci (λj:Nat=>j<=n.domains.length) (λj=>[(1,.ref 8 (Am n) 0),(2,.ptr 1001 0),(35,.sl 6 At n.domains),(36,Aa n.domains.length),(37,Aa j)]) (λj=>[(1001,.box [.osl 901,.osl 902,.osl 903,.osl 1004,.osl 905,.osl 906,.osl 907,.osl 908]),(901,.row 5 A4 n.devices),(902,.row 7 Bd n.ports),(903,.row 3 Co n.links),(1004,.row 6 At (Us n j)),(905,.row 4 Bb n.statics),(906,.row 4 Bm n.floods),(907,.row 5 Cu n.vrfs),(908,.row 5 Cr n.irbs)]) (λj=>n.domains.length-j) 0 [(1004,904)] z_ ⟨kA,⟨.inl E,E,.inl E,E,.inl E,E,.inl E,E,.inl (zH (Ob.row 6 At) (Atn n)),E,.inl E,E,.inl E,E,.inl E,E,.inl E,E,q_⟩,E,E⟩ ?_;intro j hj;have gv:=Ax5 n hj;refine gL ?_ ?_<;>intro h
  .have ab:j<n.domains.length:=qA h;have aj:(j:Int).toNat<n.domains.length:=ab;clear h;have yn:(j:Int).toNat<(Us n j).length:=by rw[gv];exact aj
   obtain ⟨m1,m2⟩:=Ato n ab yn;have hDj:n.domains[j]=(n.domains[(j:Int).toNat]'aj):=rfl;rw[hDj]at m1 m2;have ag:Us n j≠[]:=λe=>by rw[e]at yn;cases yn
   have ql:=Agi n hn (n.domains[(j:Int).toNat]'aj).dev (n.domains[(j:Int).toNat]'aj).vni;have tz:=peersT.eq_1 n (n.domains[(j:Int).toNat]'aj);have xz:Jd n (n.domains[(j:Int).toNat]'aj).dev (n.domains[(j:Int).toNat]'aj).vni<0\/∃k:Nat,Jd n (n.domains[(j:Int).toNat]'aj).dev (n.domains[(j:Int).toNat]'aj).vni=k/\k<n.floods.length:=by
    by_cases h:Jd n (n.domains[(j:Int).toNat]'aj).dev (n.domains[(j:Int).toNat]'aj).vni<0
    .exact .inl h
    .exact .inr (Kf h)
   generalize Jd n (n.domains[(j:Int).toNat]'aj).dev (n.domains[(j:Int).toNat]'aj).vni=lv at *;generalize hpT:peersT n (n.domains[(j:Int).toNat]'aj)=ps at *;by_cases k1:(n.domains[(j:Int).toNat]'aj).vni=0
   .have g1:((n.domains[(j:Int).toNat]'aj).vni != 0)=false:=by rw[bne_eq_false_iff_eq];exact k1
    rw[zD (λh=>h.1 k1)]at tz;subst tz;refine T ?_;refine Ao 9 1 Aa E (C ql F284 ?_);refine⟨ag,?_⟩;refine T ?_;refine⟨(⟨(n.domains[(j:Int).toNat]'aj).dev,(n.domains[(j:Int).toNat]'aj).vlan,(n.domains[(j:Int).toNat]'aj).vni,(n.domains[(j:Int).toNat]'aj).irb,(n.domains[(j:Int).toNat]'aj).row,[]⟩:Domain),by rw[m1];rfl,by rw[m1];rfl,?_⟩;refine T ?_;exact Ay (j+1) [] ab z_ ⟨kA,⟨.inl E,E,.inl E,E,.inl E,E,.inl E,E,.inl (zH (Ob.row 6 At) m2.symm),E,.inl E,E,.inl E,E,.inl E,E,.inl E,E,q_⟩,E,E⟩
   have g1:((n.domains[(j:Int).toNat]'aj).vni != 0)=true:=by rw[xC];exact k1
   by_cases k2:lv<0
   .have g2:decide (lv>=0)=false:=zL z_;rw[zD (λh=>by have:=h.2;omega)]at tz;subst tz;refine T ?_;refine Ao 9 1 Aa E (C ql F284 ?_);refine⟨ag,?_⟩;refine T ?_;refine⟨(⟨(n.domains[(j:Int).toNat]'aj).dev,(n.domains[(j:Int).toNat]'aj).vlan,(n.domains[(j:Int).toNat]'aj).vni,(n.domains[(j:Int).toNat]'aj).irb,(n.domains[(j:Int).toNat]'aj).row,[]⟩:Domain),by rw[m1];rfl,by rw[m1];rfl,?_⟩;refine T ?_;exact Ay (j+1) [] ab z_ ⟨kA,⟨.inl E,E,.inl E,E,.inl E,E,.inl E,E,.inl (zH (Ob.row 6 At) m2.symm),E,.inl E,E,.inl E,E,.inl E,E,.inl E,E,q_⟩,E,E⟩
   obtain ⟨m,hm,hmf⟩:=xz.resolve_left k2;subst hm;clear xz;have g2:decide ((m:Int)>=0)=true:=zK z_;have ax:(m:Int).toNat<n.floods.length:=hmf;rw[zE ⟨k1,by omega⟩,Ag ax]at tz;have hfa:=Azu n hr _ (zI ax);refine T ?_;refine B6 9 1200 1 Aa E E (C ql F284 ?_);refine Ba 8 6 (At (n.domains[(j:Int).toNat]'aj)) E E E ?_;refine Ci (λk:Nat=>k<=(n.floods[(m:Int).toNat]'ax).addrs.length) (λk=>[(1,.ref 8 (Am n) 0),(2,.ptr 1001 0),(7,Aa j),(8,.ref 6 (At (n.domains[(j:Int).toNat]'aj)) 0),(9,.osl 1200),(35,.sl 6 At n.domains),(36,Aa n.domains.length),(37,Aa j),(60,.sl 1 A9 (n.floods[(m:Int).toNat]'ax).addrs),(61,Aa (n.floods[(m:Int).toNat]'ax).addrs.length),(62,Aa k)]) (λk=>[(1001,.box [.osl 901,.osl 902,.osl 903,.osl 1004,.osl 905,.osl 906,.osl 907,.osl 908]),(901,.row 5 A4 n.devices),(902,.row 7 Bd n.ports),(903,.row 3 Co n.links),(1004,.row 6 At (Us n j)),(905,.row 4 Bb n.statics),(906,.row 4 Bm n.floods),(907,.row 5 Cu n.vrfs),(908,.row 5 Cr n.irbs),(1200,.row 1 Aa (((n.floods[(m:Int).toNat]'ax).addrs.take k).map (λa=>Ql n (D0 n a) (n.domains[(j:Int).toNat]'aj).vni)))]) (λk=>(n.floods[(m:Int).toNat]'ax).addrs.length-k) 0 [] z_ U ?_;intro k hk;refine gL ?_ ?_<;>intro h
   .have db:k<(n.floods[(m:Int).toNat]'ax).addrs.length:=qA h;have bh:(k:Int).toNat<(n.floods[(m:Int).toNat]'ax).addrs.length:=db;clear h;have qo:=An1 n hn ((n.floods[(m:Int).toNat]'ax).addrs[(k:Int).toNat]'bh);have qf:=Z7 n hn (D0 n ((n.floods[(m:Int).toNat]'ax).addrs[(k:Int).toNat]'bh)) (n.domains[(j:Int).toNat]'aj).vni;have il:((n.floods[(m:Int).toNat]'ax).addrs.take (k+1)).map (λa=>Ql n (D0 n a) (n.domains[(j:Int).toNat]'aj).vni)=((n.floods[(m:Int).toNat]'ax).addrs.take k).map (λa=>Ql n (D0 n a) (n.domains[(j:Int).toNat]'aj).vni)++[Ql n (D0 n ((n.floods[(m:Int).toNat]'ax).addrs[(k:Int).toNat]'bh)) (n.domains[(j:Int).toNat]'aj).vni]:=by
     rw[yA db,xY];rfl
    have tu:(((n.floods[(m:Int).toNat]'ax).addrs.take k).map (λa=>Ql n (D0 n a) (n.domains[(j:Int).toNat]'aj).vni)).length<=16:=by rw[yZ,zW];omega
    refine gB qo F286 qf F285 ?_;refine Xd (Ah Γ.toTy 75 E E E E E (.row E) (.lit (e:=Aa) (l:=[Ql n (D0 n ((n.floods[(m:Int).toNat]'ax).addrs[(k:Int).toNat]'bh)) (n.domains[(j:Int).toNat]'aj).vni]) E E) y_ (by simp only[yF];omega) (by simp only[yF];omega)) ?_;refine T ?_;exact Ay (k+1) [(1200,75)] db z_ ⟨kA,⟨.inl E,E,.inl E,E,.inl E,E,.inl E,E,.inl E,E,.inl E,E,.inl E,E,.inl E,E,.inl E,E,.inl (zH (Ob.row 1 Aa) il),E,q_⟩,E,E⟩
   .have u0:k=(n.floods[(m:Int).toNat]'ax).addrs.length:=qB h;clear h;rw[u0,yM,<-tz];refine Aj 1200 E (T ?_);refine⟨ag,?_⟩;refine T ?_;refine⟨(⟨(n.domains[(j:Int).toNat]'aj).dev,(n.domains[(j:Int).toNat]'aj).vlan,(n.domains[(j:Int).toNat]'aj).vni,(n.domains[(j:Int).toNat]'aj).irb,(n.domains[(j:Int).toNat]'aj).row,ps⟩:Domain),by rw[m1];rfl,by rw[m1];rfl,?_⟩;refine T ?_;exact Ay (j+1) [] ab z_ ⟨kA,⟨.inl E,E,.inl E,E,.inl E,E,.inl E,E,.inl (zH (Ob.row 6 At) m2.symm),E,.inl E,E,.inl E,E,.inl E,E,.inl E,E,q_⟩,E,E⟩
  .have cq:j=n.domains.length:=qB h;clear h;subst cq;rw[Ax6];have qm:=A0 (By n) (Aaa hn hr);refine T ?_;refine Aj 901 E (Aj 902 E ?_);refine Aj 903 E (Aj 1004 E ?_);refine Aj 905 E (Aj 906 E ?_);refine Aj 907 E (Aj 908 E ?_);cases hb:Ac (By n) with
   |false=>
    rw[hb]at qm;rw[hb,zE rfl]at aa;subst aa;refine C qm F39 ?_;exact Ak 1001 (C8 emptyN) E vL gA
   |true=>
    rw[hb]at qm;rw[hb,zD qq]at aa;subst aa;refine C qm F39 ?_;exact D
end Go.Sy.Zaa
