/- Parts of a proof. -/
import Derived.Test.YtodbnbfjhjcanaaGreatDoorXB25
import Derived.Test.YtodbnbfjhjcanaaGreatDoorXB32
import Derived.Test.YtodbnbfjhjcanaaGreatDoorXB27
import Derived.Test.YtodbnbfjhjcanaaGreatDoorXB33
set_option maxHeartbeats 4000000
set_option linter.all false
namespace Go.Sy.Zaa
open Go.Proofs Go.Proofs.Tryz
section
attribute [local irreducible]G DR
set_option maxRecDepth 100000
def A4u(n:Net)(hn:n.Fin)(ha:C7 n)(l:LineM)(hl:LineW l):Sp 218 [Am n,A5 l] (.tup [Am (putT n l).1,Aa (putT n l).2]):=cT F218 ntmps218 λF hF=>by
 have aa:=putT.eq_1 n l;generalize putT n l=res at *;by_cases h1:l.kind=1
 .have g1:(l.kind==1)=true:=by rw[yJ];exact h1
  have q:=Ase n hn l hl;rw[zE h1]at aa;rw[<-aa]at q;refine gC q F274 ?_;exact D
 have g1:(l.kind==1)=false:=by rw[zU];exact h1
 rw[zD h1]at aa;by_cases h2:l.kind=2
 .have g2:(l.kind==2)=true:=by rw[yJ];exact h2
  have q:=Az4 n hn l hl;rw[zE h2]at aa;rw[<-aa]at q;refine gC q F275 ?_;exact D
 have g2:(l.kind==2)=false:=by rw[zU];exact h2
 rw[zD h2]at aa;by_cases h3:l.kind=3
 .have g3:(l.kind==3)=true:=by rw[yJ];exact h3
  have q:=A1o n hn l hl;rw[zE h3]at aa;rw[<-aa]at q;refine gC q F276 ?_;exact D
 have g3:(l.kind==3)=false:=by rw[zU];exact h3
 rw[zD h3]at aa;by_cases h4:l.kind=4
 .have g4:(l.kind==4)=true:=by rw[yJ];exact h4
  have q:=Apk n hn l hl;rw[zE h4]at aa;rw[<-aa]at q;refine gC q F277 ?_;exact D
 have g4:(l.kind==4)=false:=by rw[zU];exact h4
 rw[zD h4]at aa;by_cases h5:l.kind=5
 .have g5:(l.kind==5)=true:=by rw[yJ];exact h5
  have q:=A4f n hn l hl;rw[zE h5]at aa;rw[<-aa]at q;refine gC q F278 ?_;exact D
 have g5:(l.kind==5)=false:=by rw[zU];exact h5
 rw[zD h5]at aa;by_cases h6:l.kind=6
 .have g6:(l.kind==6)=true:=by rw[yJ];exact h6
  have q:=ovVniS n hn l hl;rw[zE h6]at aa;rw[<-aa]at q;refine gC q F279 ?_;exact D
 have g6:(l.kind==6)=false:=by rw[zU];exact h6
 rw[zD h6]at aa;by_cases h7:l.kind=7
 .have g7:(l.kind==7)=true:=by rw[yJ];exact h7
  have q:=A0c n hn l hl;rw[zE h7]at aa;rw[<-aa]at q;refine gC q F280 ?_;exact D
 have g7:(l.kind==7)=false:=by rw[zU];exact h7
 rw[zD h7]at aa;by_cases h8:l.kind=8
 .have g8:(l.kind==8)=true:=by rw[yJ];exact h8
  have q:=A3t n hn l hl;rw[zE h8]at aa;rw[<-aa]at q;refine gC q F281 ?_;exact D
 have g8:(l.kind==8)=false:=by rw[zU];exact h8
 rw[zD h8]at aa;by_cases h9:l.kind=9
 .have g9:(l.kind==9)=true:=by rw[yJ];exact h9
  have q:=A43 n hn ha l hl;rw[zE h9]at aa;rw[<-aa]at q;refine gC q F282 ?_;exact D
 have g9:(l.kind==9)=false:=by rw[zU];exact h9
 rw[zD h9]at aa;subst aa;refine T ?_;exact Ak 4 (Dc emptyN) E vL gA
def At0{n:Net}(h:Ac n=true){i:Nat}(hi:i<n.floods.length):Qh n n.floods[i]=true:=by
 simp only[Ac,zG]at h;exact allB_iff.1 h.1.1.2 i hi
def A5q(n:Net)(hn:n.Fin)(hr:Ac n=true)(f:Flood)(hf:f∈n.floods):Sp 283 [Am n,Bn f] (Ab (agreesB n f)):=cT F283 ntmps283 λF hF=>by
 have s5:0<=f.dev/\f.dev.toNat<n.devices.length:=by
  obtain ⟨j,hj,rfl⟩:=wN hf;have:=At0 hr hj;simp only[Qh,Ag,zG,zJ]at this;omega
 have hfa:f.addrs.length<2147483648:=hn.addrs f hf;have pg:(nth n.devices f.dev).vtep=(n.devices[f.dev.toNat]'s5.2).vtep:=by rw[Ae s5.2]
 have q1:=bW n hn f.dev f.vni;have aa:=agreesB.eq_1 n f;have hag:∀a,agreeA n f a=_:=agreeA.eq_1 n f;generalize agreesB n f=res at *;generalize Jr n f.dev f.vni=v0 at *;refine T ?_;refine Bf 2 8 (Am n) E E E ?_;refine Bf 3 4 (Bn f) E E E (gC q1 F285 ?_);refine Cd (λj:Nat=>j<=f.addrs.length) (λj=>[(2,.ref 8 (Am n) 0),(3,.ref 4 (Bn f) 0),(5,Be (n.devices[f.dev.toNat]'s5.2).vtep),(6,Ab (decide (0<=v0)&&(f.addrs.take j).all (agreeA n f))),(28,.sl 1 Be f.addrs),(29,Aa f.addrs.length),(30,Aa j)]) (λ_=>[]) (λj=>f.addrs.length-j) 0 [] q_ ⟨⟨E,E,E,E,E,E,zH Ab y_,E,E,E,E,E,E,E,Y⟩,Y,E,E⟩ ?_;intro j hj;refine gN ?_ ?_<;>intro h
 .have ab:j<f.addrs.length:=qA h;have ai:(j:Int).toNat<f.addrs.length:=ab;clear h;have qo:=Aqj n hn (f.addrs[(j:Int).toNat]'ai);have hA:=hag (f.addrs[(j:Int).toNat]'ai);have gm:(f.addrs.take (j+1)).all (agreeA n f)=((f.addrs.take j).all (agreeA n f)&&agreeA n f (f.addrs[(j:Int).toNat]'ai)):=by
   rw[yD ab,List.all_append];simp only[List.all_cons,List.all_nil,uH];rfl
  have je:agreeA n f (f.addrs[(j:Int).toNat]'ai)=false->f.addrs.all (agreeA n f)=false:=λh=>by
   rw[List.all_eq_false];exact⟨_,zI ai,by rw[h];simp⟩
  have vi:(f.addrs.take j).all (agreeA n f)=false->f.addrs.all (agreeA n f)=false:=λh=>by
   rw[List.all_eq_false]at h|-;obtain ⟨x,hx,tz⟩:=h;exact⟨x,wV hx,tz⟩
  have qf:=bW n hn (C6 n (f.addrs[(j:Int).toNat]'ai)) f.vni;have ql:=Aij n hn (C6 n (f.addrs[(j:Int).toNat]'ai)) f.vni;cases ho:(decide (0<=v0)&&(f.addrs.take j).all (agreeA n f)) with
  |false=>
   have ju:res=false:=by
    rw[aa];cases hd:decide (0<=v0)
    .rfl
    .rw[hd,yG]at ho;rw[vi ho];rfl
   subst ju;generalize C6 n (f.addrs[(j:Int).toNat]'ai)=dv at *;refine gC qo F286 ?_;exact D
  |true=>
   have fh:C6 n (f.addrs[(j:Int).toNat]'ai)<0\/0<=C6 n (f.addrs[(j:Int).toNat]'ai):=by omega
   have z8:Ej n (C6 n (f.addrs[(j:Int).toNat]'ai)) f.vni<0\/∃k:Nat,Ej n (C6 n (f.addrs[(j:Int).toNat]'ai)) f.vni=k/\k<n.floods.length:=by
    by_cases h:Ej n (C6 n (f.addrs[(j:Int).toNat]'ai)) f.vni<0
    .exact .inl h
    .exact .inr (Kq h)
   generalize Jr n (C6 n (f.addrs[(j:Int).toNat]'ai)) f.vni=fv at *;generalize Ej n (C6 n (f.addrs[(j:Int).toNat]'ai)) f.vni=lv at *;generalize C6 n (f.addrs[(j:Int).toNat]'ai)=dv at *;by_cases k1:dv<0
   .have g1:decide (dv>=0)=false:=zK q_;have g1n:(!(decide (dv>=0)))=true:=by rw[g1];rfl
    have ju:res=false:=by rw[aa,je (by rw[hA,zK (by omega:¬0<=dv)];rfl),wR]
    subst ju;refine gC qo F286 ?_;exact D
   have g1:decide (dv>=0)=true:=zL q_;rw[zL (by omega:0<=dv),yG]at hA;by_cases k2:(f.addrs[(j:Int).toNat]'ai)=0
   .have g2:((f.addrs[(j:Int).toNat]'ai) != 0)=false:=by rw[bne_eq_false_iff_eq];exact k2
    have g2n:(!((f.addrs[(j:Int).toNat]'ai) != 0))=true:=by rw[g2];rfl
    have ju:res=false:=by rw[aa,je (by rw[hA,g2];rfl),wR]
    subst ju;refine gC qo F286 ?_;exact D
   have g2:((f.addrs[(j:Int).toNat]'ai) != 0)=true:=by rw[xC];exact k2
   rw[g2,yG]at hA;by_cases k3:fv<0
   .have g3:decide (fv>=0)=false:=zK q_;have g3n:(!(decide (fv>=0)))=true:=by rw[g3];rfl
    have ju:res=false:=by rw[aa,je (by rw[hA,zK (by omega:¬0<=fv)];rfl),wR]
    subst ju;refine gB qo F286 qf F285 ?_;exact D
   have g3:decide (fv>=0)=true:=zL q_;rw[zL (by omega:0<=fv),yG]at hA;by_cases k4:lv<0
   .have g4:decide (lv>=0)=false:=zK q_;have g4n:(!(decide (lv>=0)))=true:=by rw[g4];rfl
    have ju:res=false:=by rw[aa,je (by rw[hA,zK (by omega:¬0<=lv)];rfl),wR]
    subst ju;refine gB qo F286 qf F285 ?_;refine C ql F284 ?_;refine Ar E Aq (zH Ab g4.symm) E
   have g4:decide (lv>=0)=true:=zL q_;have g4n:(!(decide (lv>=0)))=false:=by rw[g4];rfl
   rw[zL (by omega:0<=lv),yG]at hA;obtain ⟨m,hm,iq⟩:=z8.resolve_left k4;subst hm;have ax:(m:Int).toNat<n.floods.length:=iq;rw[Ae ax,pg]at hA;have bx:=hn.addrs _ (zI ax);have qc:=Uz (n.floods[(m:Int).toNat]'ax).addrs (n.devices[f.dev.toNat]'s5.2).vtep bx;have qcb:=λb=>Uz (n.floods[(m:Int).toNat]'ax).addrs b bx
   have ej:(decide (0<=v0)&&(f.addrs.take (j+1)).all (agreeA n f))=(inB (n.floods[(m:Int).toNat]'ax).addrs (n.devices[f.dev.toNat]'s5.2).vtep&&f.addrs.all λb=>b==(f.addrs[(j:Int).toNat]'ai)||inB (n.floods[(m:Int).toNat]'ax).addrs b):=by
    rw[gm,<-Bool.and_assoc,ho,yG,hA]
   clear hA gm je vi ho hag;refine gB qo F286 qf F285 ?_;refine gK ql F284 ql F284 ?_;refine C qc F353 ?_;refine Cd (λk:Nat=>k<=f.addrs.length) (λk=>[(2,.ref 8 (Am n) 0),(3,.ref 4 (Bn f) 0),(5,Be (n.devices[f.dev.toNat]'s5.2).vtep),(6,Ab (inB (n.floods[(m:Int).toNat]'ax).addrs (n.devices[f.dev.toNat]'s5.2).vtep&&(f.addrs.take k).all λb=>b==(f.addrs[(j:Int).toNat]'ai)||inB (n.floods[(m:Int).toNat]'ax).addrs b)),(8,Be (f.addrs[(j:Int).toNat]'ai)),(10,.sl 1 Be (n.floods[(m:Int).toNat]'ax).addrs),(28,.sl 1 Be f.addrs),(29,Aa f.addrs.length),(30,Aa j),(78,.sl 1 Be f.addrs),(79,Aa f.addrs.length),(80,Aa k)]) (λ_=>[]) (λk=>f.addrs.length-k) 0 [] q_ ⟨⟨E,E,E,E,E,E,zH Ab y_,E,E,E,E,E,E,E,E,E,E,E,E,E,E,E,E,E,Y⟩,Y,E,E⟩ ?_;intro k hk;refine gN ?_ ?_<;>intro h
   .have de:k<f.addrs.length:=qA h;have bd:(k:Int).toNat<f.addrs.length:=de;clear h;have gm:(f.addrs.take (k+1)).all (λb=>b==(f.addrs[(j:Int).toNat]'ai)||inB (n.floods[(m:Int).toNat]'ax).addrs b)=((f.addrs.take k).all (λb=>b==(f.addrs[(j:Int).toNat]'ai)||inB (n.floods[(m:Int).toNat]'ax).addrs b)&&((f.addrs[(k:Int).toNat]'bd)==(f.addrs[(j:Int).toNat]'ai)||inB (n.floods[(m:Int).toNat]'ax).addrs (f.addrs[(k:Int).toNat]'bd))):=by
     rw[yD de,List.all_append];simp only[List.all_cons,List.all_nil,uH];rfl
    have br:(inB (n.floods[(m:Int).toNat]'ax).addrs (n.devices[f.dev.toNat]'s5.2).vtep&&(f.addrs.take (k+1)).all λb=>b==(f.addrs[(j:Int).toNat]'ai)||inB (n.floods[(m:Int).toNat]'ax).addrs b)=((inB (n.floods[(m:Int).toNat]'ax).addrs (n.devices[f.dev.toNat]'s5.2).vtep&&(f.addrs.take k).all λb=>b==(f.addrs[(j:Int).toNat]'ai)||inB (n.floods[(m:Int).toNat]'ax).addrs b)&&((f.addrs[(k:Int).toNat]'bd)==(f.addrs[(j:Int).toNat]'ai)||inB (n.floods[(m:Int).toNat]'ax).addrs (f.addrs[(k:Int).toNat]'bd))):=by
     rw[gm,Bool.and_assoc]
    have qb:=qcb (f.addrs[(k:Int).toNat]'bd);cases ho2:(inB (n.floods[(m:Int).toNat]'ax).addrs (n.devices[f.dev.toNat]'s5.2).vtep&&(f.addrs.take k).all λb=>b==(f.addrs[(j:Int).toNat]'ai)||inB (n.floods[(m:Int).toNat]'ax).addrs b) with
    |false=>
     rw[ho2,yF]at br;refine T ?_;exact Ax (k+1) [] de q_ ⟨⟨E,E,E,E,E,E,zH Ab br,E,E,E,E,E,E,E,E,E,E,E,E,E,E,E,E,E,Y⟩,Y,E,E⟩
    |true=>
     rw[ho2,yG]at br;cases he:((f.addrs[(k:Int).toNat]'bd)==(f.addrs[(j:Int).toNat]'ai)) with
     |true=>
      rw[he,vN]at br;refine T ?_;exact Ax (k+1) [] de q_ ⟨⟨E,E,E,E,E,E,zH Ab br,E,E,E,E,E,E,E,E,E,E,E,E,E,E,E,E,E,Y⟩,Y,E,E⟩
     |false=>
      rw[he,vQ]at br;refine gC qb F353 ?_;exact Ax (k+1) [] de q_ ⟨⟨E,E,E,E,E,E,zH Ab br,E,E,E,E,E,E,E,E,E,E,E,E,E,E,E,E,E,Y⟩,Y,E,E⟩
   .have wz:k=f.addrs.length:=qB h;clear h;rw[wz,yN];refine T ?_;exact Ax (j+1) [] ab q_ ⟨⟨E,E,E,E,E,E,zH Ab ej,E,E,E,E,E,E,E,Y⟩,Y,E,E⟩
 .have cu:j=f.addrs.length:=qB h;clear h;subst cu;rw[yN,<-aa];exact gA
def Ac9{a:Type}{p:a->Bool}:∀{l:List a} {j:Nat} (hj:j<l.length),(∀k (hk:k<l.length),k<j->p l[k]=false)->p l[j]=true->l.find? p=some l[j]
 |x::l,0,_,_,h2=>by
  rw[tW]at h2|-;rw[List.find?_cons,h2]
 |x::l,j+1,hj,h1,h2=>by
  rw[uI]at h2 |-;have h0:=h1 0 y_ q_;rw[tW]at h0;rw[List.find?_cons,h0];exact Ac9 (kS hj) (λ k hk hkj=>by
   have:=h1 (k+1) kO q_;rwa [uI]at this) h2
def Vi(n:Net)(j:Nat):List Domain:=(n.domains.take j).map (λd=>{d with peers:=peersT n d})++n.domains.drop j
def Awj(n:Net):Vi n 0=n.domains:=by simp[Vi]
def A02(n:Net):Vi n n.domains.length=(Bz n).domains:=by simp[Vi,Bz]
def A01(n:Net){j:Nat}(hj:j<=n.domains.length):(Vi n j).length=n.domains.length:=by simp[Vi];omega
def Awk(n:Net){j:Nat}(hj:j<n.domains.length)(h:(j:Int).toNat<(Vi n j).length):(Vi n j)[(j:Int).toNat]'h=n.domains[j]/\(Vi n j).set (j:Int).toNat {n.domains[j] with peers:=peersT n n.domains[j]}=Vi n (j+1):=by
 have hl:((n.domains.take j).map (λd=>{d with peers:=peersT n d})).length=j:=by simp;omega
 have e:Vi n j=(n.domains.take j).map (λd=>{d with peers:=peersT n d})++n.domains[j]::n.domains.drop (j+1):=by
  rw[Vi,yL hj]
 have e2:Vi n (j+1)=(n.domains.take j).map (λd=>{d with peers:=peersT n d})++{n.domains[j] with peers:=peersT n n.domains[j]}::n.domains.drop (j+1):=by
  rw[Vi,yD hj,wZ,xV,uA,xF];rfl
 constructor
 .simp only[zZ,e];rw[xQ q_];simp only[hl,tX,tW]
 .rw[zZ,e,e2,tZ _ _ q_,hl,tX];rfl
def A2r(n:Net)(h:Ac n=true):(∀f∈n.floods,f.addrs.length<=16):=λf hf=>by
 obtain ⟨j,hj,rfl⟩:=wN hf;have:=At0 h hj;simp only[Qh,zG,zJ]at this;exact this.2
def Av6{n:Net}(h:Ac n=true)(d:Domain):(peersT n d).length<=16:=by
 unfold peersT;split
 .rename_i hc;rw[yW];have hl:=Iw (λf:Flood=>f.dev==d.dev&&f.vni==d.vni) n.floods;have h0:(Ej n d.dev d.vni).toNat<n.floods.length:=by
   have e:Ej n d.dev d.vni=Bs (λf:Flood=>f.dev==d.dev&&f.vni==d.vni) n.floods:=rfl;have:=hc.2;omega
  rw[Ae h0];exact A2r n h _ (zI h0)
 .simp
def Ab7{n:Net}(hn:n.Fin)(h:Ac n=true):(Bz n).Fin:=by
 have hl:(Bz n).domains.length=n.domains.length:=by simp[Bz]
 refine {hn with domains:=?_,peers:=?_}
 .show (Bz n).domains.length<_;rw[hl];exact hn.domains
 .intro p hp;have hp:p∈n.domains.map λd=>{d with peers:=peersT n d}:=hp
  obtain ⟨d,_,rfl⟩:=yS.1 hp;show (peersT n d).length<_;have:=Av6 h d;omega
def meshS(n:Net)(hn:n.Fin):Sp 219 [Am n] (.tup [Am (meshNT n).1,Aa (meshNT n).2.1,Aa (meshNT n).2.2]):=cT F219 ntmps219 λF hF=>by
 have qn:=A2 n hn;have dh:=Ss n hn;have aa:=meshNT.eq_1 n;generalize meshNT n=res at *;cases hr:Ac n with
 |false=>
  rw[hr]at qn;rw[hr,zE rfl]at aa;subst aa;refine gC qn F39 ?_;exact Ak 2 (Dc emptyN) E vL gA
 |true=>
 rw[hr]at qn;rw[hr,zD y_]at aa;have hff:n.floods.length<2147483648:=hn.floods;have dz:n.domains.length<2147483648:=hn.domains;refine gC qn F39 ?_;refine Bf 1 8 (Am n) E E E ?_;refine Cd (λj:Nat=>j<=n.floods.length/\∀k (hk:k<n.floods.length),k<j->agreesB n n.floods[k]=true) (λj=>[(1,.ref 8 (Am n) 0),(2,.ptr 1001 0),(18,.sl 4 Bn n.floods),(19,Aa n.floods.length),(20,Aa j)]) (λ_=>[(1001,.box [svN,svN,svN,svN,svN,svN,svN,svN])]) (λj=>n.floods.length-j) 0 [(1001,2)] ⟨by omega,λk hk h=>by omega⟩ U ?_;rintro j ⟨hj,hI⟩;refine gN ?_ ?_<;>intro h
 .have ab:j<n.floods.length:=qA h;have ai:(j:Int).toNat<n.floods.length:=ab;clear h;have q:=A5q n hn hr (n.floods[(j:Int).toNat]'ai) (zI ai);cases ha:agreesB n (n.floods[(j:Int).toNat]'ai) with
  |false=>
   rw[ha]at q;rw[Ac9 (p:=λf=>!(agreesB n f)) ab (λk hk hkj=>by simp only[hI k hk hkj];rfl) (by show (!(agreesB n (n.floods[(j:Int).toNat]'ai)))=true;rw[ha];rfl)]at aa;dsimp only at aa;subst aa;refine gC q F283 ?_;exact Ak 1001 (Dc emptyN) E vL gA
  |true=>
   rw[ha]at q;refine gC q F283 ?_;refine Ax (j+1) [] ⟨ab,λk hk hkj=>?_⟩ q_ U;by_cases e:k=j
   .subst e;exact ha
   .exact hI k hk q_
 .have cu:j=n.floods.length:=qB h;clear h;have vj:n.floods.find? (λf=>!(agreesB n f))=none:=by
   rw[List.find?_eq_none];intro x hx;obtain ⟨k,hk,rfl⟩:=wN hx;rw[hI k hk q_];simp
  rw[vj]at aa;dsimp only at aa;clear hI hj cu vj;refine T ?_;refine X (Ad [(0,901),(1,902),(2,903),(3,904),(4,905),(5,906),(6,907),(7,908)] E F102 dh E W E V) ?_;refine Cd (λj:Nat=>j<=n.domains.length) (λj=>[(1,.ref 8 (Am n) 0),(2,.ptr 1001 0),(35,.sl 6 At n.domains),(36,Aa n.domains.length),(37,Aa j)]) (λj=>[(1001,.box [.osl 901,.osl 902,.osl 903,.osl 1004,.osl 905,.osl 906,.osl 907,.osl 908]),(901,.row 5 A1 n.devices),(902,.row 7 Bb n.ports),(903,.row 3 Ck n.links),(1004,.row 6 At (Vi n j)),(905,.row 4 Bc n.statics),(906,.row 4 Bn n.floods),(907,.row 5 Ct n.vrfs),(908,.row 5 Cq n.irbs)]) (λj=>n.domains.length-j) 0 [(1004,904)] q_ ⟨kA,⟨.inl E,E,.inl E,E,.inl E,E,.inl E,E,.inl (zH (Ob.row 6 At) (Awj n)),E,.inl E,E,.inl E,E,.inl E,E,.inl E,E,Y⟩,E,E⟩ ?_;intro j hj;have iq:=A01 n hj;refine gN ?_ ?_<;>intro h
  .have ab:j<n.domains.length:=qA h;have ai:(j:Int).toNat<n.domains.length:=ab;clear h;have hjm:(j:Int).toNat<(Vi n j).length:=by rw[iq];exact ai
   obtain ⟨m1,m2⟩:=Awk n ab hjm;have hDj:n.domains[j]=(n.domains[(j:Int).toNat]'ai):=rfl;rw[hDj]at m1 m2;have af:Vi n j≠[]:=λe=>by rw[e]at hjm;cases hjm
   have ql:=Aij n hn (n.domains[(j:Int).toNat]'ai).dev (n.domains[(j:Int).toNat]'ai).vni;have u9:=peersT.eq_1 n (n.domains[(j:Int).toNat]'ai);have z8:Ej n (n.domains[(j:Int).toNat]'ai).dev (n.domains[(j:Int).toNat]'ai).vni<0\/∃k:Nat,Ej n (n.domains[(j:Int).toNat]'ai).dev (n.domains[(j:Int).toNat]'ai).vni=k/\k<n.floods.length:=by
    by_cases h:Ej n (n.domains[(j:Int).toNat]'ai).dev (n.domains[(j:Int).toNat]'ai).vni<0
    .exact .inl h
    .exact .inr (Kq h)
   generalize Ej n (n.domains[(j:Int).toNat]'ai).dev (n.domains[(j:Int).toNat]'ai).vni=lv at *;generalize hpT:peersT n (n.domains[(j:Int).toNat]'ai)=ps at *;by_cases k1:(n.domains[(j:Int).toNat]'ai).vni=0
   .have g1:((n.domains[(j:Int).toNat]'ai).vni != 0)=false:=by rw[bne_eq_false_iff_eq];exact k1
    rw[zD (λh=>h.1 k1)]at u9;subst u9;refine T ?_;refine Ao 9 1 Aa E (C ql F284 ?_);refine⟨af,?_⟩;refine T ?_;refine⟨(⟨(n.domains[(j:Int).toNat]'ai).dev,(n.domains[(j:Int).toNat]'ai).vlan,(n.domains[(j:Int).toNat]'ai).vni,(n.domains[(j:Int).toNat]'ai).irb,(n.domains[(j:Int).toNat]'ai).row,[]⟩:Domain),by rw[m1];rfl,by rw[m1];rfl,?_⟩;refine T ?_;exact Ax (j+1) [] ab q_ ⟨kA,⟨.inl E,E,.inl E,E,.inl E,E,.inl E,E,.inl (zH (Ob.row 6 At) m2.symm),E,.inl E,E,.inl E,E,.inl E,E,.inl E,E,Y⟩,E,E⟩
   have g1:((n.domains[(j:Int).toNat]'ai).vni != 0)=true:=by rw[xC];exact k1
   by_cases k2:lv<0
   .have g2:decide (lv>=0)=false:=zK q_;rw[zD (λh=>by have:=h.2;omega)]at u9;subst u9;refine T ?_;refine Ao 9 1 Aa E (C ql F284 ?_);refine⟨af,?_⟩;refine T ?_;refine⟨(⟨(n.domains[(j:Int).toNat]'ai).dev,(n.domains[(j:Int).toNat]'ai).vlan,(n.domains[(j:Int).toNat]'ai).vni,(n.domains[(j:Int).toNat]'ai).irb,(n.domains[(j:Int).toNat]'ai).row,[]⟩:Domain),by rw[m1];rfl,by rw[m1];rfl,?_⟩;refine T ?_;exact Ax (j+1) [] ab q_ ⟨kA,⟨.inl E,E,.inl E,E,.inl E,E,.inl E,E,.inl (zH (Ob.row 6 At) m2.symm),E,.inl E,E,.inl E,E,.inl E,E,.inl E,E,Y⟩,E,E⟩
   obtain ⟨m,hm,hmf⟩:=z8.resolve_left k2;subst hm;clear z8;have g2:decide ((m:Int)>=0)=true:=zL q_;have ax:(m:Int).toNat<n.floods.length:=hmf;rw[zE ⟨k1,by omega⟩,Ae ax]at u9;have hfa:=A2r n hr _ (zI ax);refine T ?_;refine Ca 9 1200 1 Aa E E (C ql F284 ?_);refine Bf 8 6 (At (n.domains[(j:Int).toNat]'ai)) E E E ?_;refine Cd (λk:Nat=>k<=(n.floods[(m:Int).toNat]'ax).addrs.length) (λk=>[(1,.ref 8 (Am n) 0),(2,.ptr 1001 0),(7,Aa j),(8,.ref 6 (At (n.domains[(j:Int).toNat]'ai)) 0),(9,.osl 1200),(35,.sl 6 At n.domains),(36,Aa n.domains.length),(37,Aa j),(60,.sl 1 Be (n.floods[(m:Int).toNat]'ax).addrs),(61,Aa (n.floods[(m:Int).toNat]'ax).addrs.length),(62,Aa k)]) (λk=>[(1001,.box [.osl 901,.osl 902,.osl 903,.osl 1004,.osl 905,.osl 906,.osl 907,.osl 908]),(901,.row 5 A1 n.devices),(902,.row 7 Bb n.ports),(903,.row 3 Ck n.links),(1004,.row 6 At (Vi n j)),(905,.row 4 Bc n.statics),(906,.row 4 Bn n.floods),(907,.row 5 Ct n.vrfs),(908,.row 5 Cq n.irbs),(1200,.row 1 Aa (((n.floods[(m:Int).toNat]'ax).addrs.take k).map (λa=>Jr n (C6 n a) (n.domains[(j:Int).toNat]'ai).vni)))]) (λk=>(n.floods[(m:Int).toNat]'ax).addrs.length-k) 0 [] q_ U ?_;intro k hk;refine gN ?_ ?_<;>intro h
   .have de:k<(n.floods[(m:Int).toNat]'ax).addrs.length:=qA h;have bd:(k:Int).toNat<(n.floods[(m:Int).toNat]'ax).addrs.length:=de;clear h;have qo:=Aqj n hn ((n.floods[(m:Int).toNat]'ax).addrs[(k:Int).toNat]'bd);have qf:=bW n hn (C6 n ((n.floods[(m:Int).toNat]'ax).addrs[(k:Int).toNat]'bd)) (n.domains[(j:Int).toNat]'ai).vni;have gm:((n.floods[(m:Int).toNat]'ax).addrs.take (k+1)).map (λa=>Jr n (C6 n a) (n.domains[(j:Int).toNat]'ai).vni)=((n.floods[(m:Int).toNat]'ax).addrs.take k).map (λa=>Jr n (C6 n a) (n.domains[(j:Int).toNat]'ai).vni)++[Jr n (C6 n ((n.floods[(m:Int).toNat]'ax).addrs[(k:Int).toNat]'bd)) (n.domains[(j:Int).toNat]'ai).vni]:=by
     rw[yD de,wZ];rfl
    have v7:(((n.floods[(m:Int).toNat]'ax).addrs.take k).map (λa=>Jr n (C6 n a) (n.domains[(j:Int).toNat]'ai).vni)).length<=16:=by rw[yW,zY];omega
    refine gB qo F286 qf F285 ?_;refine Xd (Ah Γ.toTy 75 E E E E E (.row E) (.lit (e:=Aa) (l:=[Jr n (C6 n ((n.floods[(m:Int).toNat]'ax).addrs[(k:Int).toNat]'bd)) (n.domains[(j:Int).toNat]'ai).vni]) E E) j_ (by simp only[zW];omega) (by simp only[zW];omega)) ?_;refine T ?_;exact Ax (k+1) [(1200,75)] de q_ ⟨kA,⟨.inl E,E,.inl E,E,.inl E,E,.inl E,E,.inl E,E,.inl E,E,.inl E,E,.inl E,E,.inl E,E,.inl (zH (Ob.row 1 Aa) gm),E,Y⟩,E,E⟩
   .have wz:k=(n.floods[(m:Int).toNat]'ax).addrs.length:=qB h;clear h;rw[wz,yN,<-u9];refine Ai 1200 E (T ?_);refine⟨af,?_⟩;refine T ?_;refine⟨(⟨(n.domains[(j:Int).toNat]'ai).dev,(n.domains[(j:Int).toNat]'ai).vlan,(n.domains[(j:Int).toNat]'ai).vni,(n.domains[(j:Int).toNat]'ai).irb,(n.domains[(j:Int).toNat]'ai).row,ps⟩:Domain),by rw[m1];rfl,by rw[m1];rfl,?_⟩;refine T ?_;exact Ax (j+1) [] ab q_ ⟨kA,⟨.inl E,E,.inl E,E,.inl E,E,.inl E,E,.inl (zH (Ob.row 6 At) m2.symm),E,.inl E,E,.inl E,E,.inl E,E,.inl E,E,Y⟩,E,E⟩
  .have cu:j=n.domains.length:=qB h;clear h;subst cu;rw[A02];have qm:=A2 (Bz n) (Ab7 hn hr);refine T ?_;refine Ai 901 E (Ai 902 E ?_);refine Ai 903 E (Ai 1004 E ?_);refine Ai 905 E (Ai 906 E ?_);refine Ai 907 E (Ai 908 E ?_);cases hb:Ac (Bz n) with
   |false=>
    rw[hb]at qm;rw[hb,zE rfl]at aa;subst aa;refine C qm F39 ?_;exact Ak 1001 (Dc emptyN) E vL gA
   |true=>
    rw[hb]at qm;rw[hb,zD y_]at aa;subst aa;refine C qm F39 ?_;exact D
end
structure PutP(x:Net×Int):Prop where
 fin:x.1.Fin
 addrs:C7 x.1
 none:x.2≠0->x.1=emptyN
def Kr:emptyN.Fin:=by
 constructor<;>first|(show (0:Nat)<2147483648;decide)|(intro p hp;cases hp)
def Br(e:Int):PutP (emptyN,e):=⟨Kr,(λx hx=>by cases hx),λ_=>rfl⟩
def Oc{n:Net}(h:n.Fin)(a:C7 n):PutP (n,0):=⟨h,a,λh=>yA rfl h⟩
def Wx{n:Net}{l:LineM}{k:Int}(h:¬fitsB n l k=false):n.devices.length<=8/\n.ports.length<=40/\n.links.length<=20/\n.domains.length<=48/\n.statics.length<=64/\n.floods.length<=48/\n.vrfs.length<=16/\n.irbs.length<=48:=by
 have h:fitsB n l k=true:=kS h;rw[fitsB,zG,zG]at h;have h3:=h.2.2;simp only[Ac,zG]at h3;have h4:=h3.1.1.1.1.1.1.1.1;simpa [Ae9,and_assoc] using h4
def dW{n:Net}{l:LineM}{k:Int}(h:¬(begT n l k).2≠0):n.devices.length<=8/\n.ports.length<=40/\n.links.length<=20/\n.domains.length<=48/\n.statics.length<=64/\n.floods.length<=48/\n.vrfs.length<=16/\n.irbs.length<=48:=by
 apply Wx (l:=l) (k:=k);intro h2;rw[begT,zE h2]at h;exact h j_
def D5{k:Type}{l:List k}(h:l.length<=100000):An l:=by show l.length<2147483648;omega
def oJ(dev:Int):∀(l:List Int) (ds:List Domain) (d:Domain),d∈Bm dev ds l->d∈ds\/d.peers=[]
 |[],_,_,h=>.inl h
 |v::l,ds,d,h=>by
  rcases oJ dev l (C2 dev ds v) d h with h|h
  .unfold C2 at h;split at h
   .rcases yH.1 h with h|h
    .exact .inl h
    .rw[zX.1 h];exact .inr rfl
   .exact .inl h
  .exact .inr h
def Xw{k:Type}{l:List k}{i:Nat}{x y:k}(h:y∈l.set i x):y∈l\/y=x:=by
 rcases tB h with h|h
 .exact .inl h
 .exact .inr h
def Hs{k:Type}[Inhabited k]{l:List k}{i:Int}(h:i.toNat<l.length):nth l i∈l:=by rw[Ae h];exact zI h
def Aeo{n:Net}{l:LineM}(hn:n.Fin)(ha:C7 n):PutP (putDevice n l):=by
 unfold putDevice;split
 .exact Br _
 rename_i h;have:=Wx h;split
 .exact Br _
 split
 .exact Br _
 exact Oc {hn with devices:=D5 (by rw[zQ,zW];omega)} ha
def Ak7{n:Net}{l:LineM}(hn:n.Fin)(ha:C7 n)(hl:LineW l):PutP (putPort n l):=by
 unfold putPort;split
 .exact Br _
 rename_i h;have:=Wx h;split
 .exact Br _
 split
 .exact Br _
 split
 .exact Br _
 split
 .exact Br _
 refine Oc {hn with ports:=D5 (by rw[zQ,zW];omega),domains:=D5 (by dsimp only;omega),tagged:=λp hp=>?_,peers:=λd hd=>?_} ha
 .rcases yH.1 hp with hp|hp
  .exact hn.tagged p hp
  .rw[zX.1 hp];exact D5 hl.fin.t
 .rcases oJ _ _ _ _ hd with h|h
  .exact hn.peers d h
  .exact D5 (by rw[h];exact xN _)
def As1{l:List Port}{i k:Int}{p:Port}(h:p∈H2 l i k)(hT:∀p∈l,An p.tagged):An p.tagged:=by
 by_cases hi:i.toNat<l.length
 .rcases Xw h with h|h
  .exact hT p h
  .rw[h];exact show An (nth l i).tagged from hT _ (Hs hi)
 .rw[H2,tJ q_]at h;exact hT p h
def Ak8{n:Net}{l:LineM}(hn:n.Fin)(ha:C7 n):PutP (putLink n l):=by
 unfold putLink;split
 .exact Br _
 rename_i h;have:=Wx h;dsimp only;split
 .exact Br _
 split
 .exact Br _
 split
 .exact Br _
 refine Oc {hn with ports:=D5 (by simp only[H2,yQ];omega),links:=D5 (by rw[zQ,zW];omega),tagged:=λp hp=>As1 hp λq hq=>As1 hq hn.tagged} ha
def Aen{n:Net}{l:LineM}(hn:n.Fin)(ha:C7 n):PutP (putStatic n l):=by
 unfold putStatic;split
 .exact Br _
 rename_i h;have:=Wx h;dsimp only;split
 .exact Br _
 split
 .exact Br _
 split
 .exact Br _
 split
 .exact Br _
 exact Oc {hn with statics:=D5 (by rw[zQ,zW];omega)} ha
def Ak6{n:Net}{l:LineM}(hn:n.Fin)(ha:C7 n):PutP (putVtep n l):=by
 unfold putVtep;split
 .exact Br _
 rename_i h;have:=dW h;dsimp only;split
 .exact Br _
 exact Oc {hn with devices:=D5 (by simp only[Zu,yQ];omega)} ha
def At3{l:List Domain}{i:Nat}{e d:Domain}(h:d∈l.set i e)(he:i<l.length->An e.peers)(hT:∀p∈l,An p.peers):An d.peers:=by
 by_cases hi:i<l.length
 .rcases Xw h with h|h
  .exact hT d h
  .rw[h];exact he hi
 .rw[tJ q_]at h;exact hT d h
def Aqa{n:Net}{l:LineM}(hn:n.Fin)(ha:C7 n):PutP (putVni n l):=by
 unfold putVni;split
 .exact Br _
 rename_i h;have:=dW h;dsimp only;split
 .exact Br _
 split
 .exact Br _
 split
 .exact Br _
 exact Oc {hn with domains:=D5 (by simp only[yQ];omega),peers:=λd hd=>At3 hd (λhi=>show An (nth n.domains _).peers from hn.peers _ (Hs hi)) hn.peers} ha
def Aid{n:Net}{l:LineM}(hn:n.Fin)(ha:C7 n)(hl:LineW l):PutP (putFlood n l):=by
 unfold putFlood;split
 .exact Br _
 rename_i h;have:=dW h;dsimp only;split
 .exact Br _
 split
 .exact Br _
 split
 .exact Br _
 split
 .exact Br _
 refine Oc {hn with floods:=D5 (by rw[zQ,zW];omega),addrs:=λp hp=>?_} ha;rcases yH.1 hp with hp|hp
 .exact hn.addrs p hp
 .rw[zX.1 hp];exact D5 hl.fin.a
def Ap9{n:Net}{l:LineM}(hn:n.Fin)(ha:C7 n)(hl:LineW l):PutP (putVrf n l):=by
 unfold putVrf;split
 .exact Br _
 rename_i h;have:=dW h;dsimp only;split
 .exact Br _
 split
 .exact Br _
 refine Oc {hn with vrfs:=D5 (by rw[zQ,zW];omega),imports:=λp hp=>?_,exports:=λp hp=>?_} ha
 .rcases yH.1 hp with hp|hp
  .exact hn.imports p hp
  .rw[zX.1 hp];exact D5 hl.fin.i
 .rcases yH.1 hp with hp|hp
  .exact hn.exports p hp
  .rw[zX.1 hp];exact D5 hl.fin.e
def Aqb{n:Net}{l:LineM}(hn:n.Fin)(ha:C7 n)(hl:LineW l):PutP (putIrb n l):=by
 unfold putIrb;split
 .exact Br _
 rename_i h;have:=dW h;dsimp only;split
 .exact Br _
 split
 .exact Br _
 split
 .exact Br _
 refine Oc {hn with domains:=D5 (by simp only[yQ];omega),peers:=λd hd=>At3 hd (λhi=>show An (nth n.domains _).peers from hn.peers _ (Hs hi)) hn.peers,irbs:=D5 (by rw[zQ,zW];omega)} λx hx=>?_
 rcases yH.1 hx with hx|hx
 .exact ha x hx
 .rw[zX.1 hx];exact hl.ok.addr
def Ate{n:Net}{l:LineM}(hn:n.Fin)(ha:C7 n)(hl:LineW l):PutP (putT n l):=by
 unfold putT;split
 .exact Aeo hn ha
 split
 .exact Ak7 hn ha hl
 split
 .exact Ak8 hn ha
 split
 .exact Aen hn ha
 split
 .exact Ak6 hn ha
 split
 .exact Aqa hn ha
 split
 .exact Aid hn ha hl
 split
 .exact Ap9 hn ha hl
 split
 .exact Aqb hn ha hl
 exact Br _
def Af3{n:Net}(hn:n.Fin):(meshNT n).1.Fin:=by
 unfold meshNT;split
 .exact Kr
 rename_i h;have h:Ac n=true:=kS h;split
 .exact Kr
 split
 .exact Kr
 exact Ab7 hn h
def aJ:∀(l:List LineM) (n:Net),n.Fin->C7 n->(∀x∈l,LineW x)->(Bv n l).2.2=0->(Bv n l).1.Fin/\C7 (Bv n l).1
 |[],n,hn,ha,_,h=>by
  rw[Bv,finishT]at h|-;split at h
  .rename_i h1;exact yA h h1
  rename_i h1;rw[zD h1];split at h
  .simp at h
  rename_i h2;rw[zD h2];obtain ⟨e1,_⟩:=Oh (n:=n) q_;refine⟨Af3 hn,?_⟩;dsimp only;rw[e1];exact ha
 |x::l,n,hn,ha,hl,h=>by
  rw[Bv]at h|-;split at h
  .rename_i h1;exact yA h h1
  rename_i h1;rw[zD h1];have:=Ate hn ha (hl x y_);exact aJ l _ this.fin this.addrs (λy hy=>hl y (by simp[hy])) h
def empty_num:emptyN.Num:=⟨λd hd=>(by cases hd),λd hd=>(by cases hd)⟩
def Ap8{n:Net}{l:LineM}(hv:∀d∈n.devices,0<=d.vtep/\d.vtep<4294967296)(hl:LineW l):∀d∈(putT n l).1.devices,0<=d.vtep/\d.vtep<4294967296:=by
 have same:∀{m:Net},m.devices=n.devices->∀d∈m.devices,0<=d.vtep/\d.vtep<4294967296:=λ{m} h d hd=>hv d (by rw[<-h];exact hd)
 have e:=empty_num.vtep;rw[putT];split
 .rw[putDevice]
  repeat' split
  all_goals (try exact e)
  intro d hd;rcases yH.1 hd with hd|hd
  .exact hv d hd
  .rw[zX.1 hd];exact⟨xZ _,by show (0:Int)<_;decide⟩
 split
 .rw[putPort]
  repeat' split
  all_goals (first|exact e|exact same rfl)
 split
 .rw[putLink];dsimp only
  repeat' split
  all_goals (first|exact e|exact same rfl)
 split
 .rw[putStatic];dsimp only
  repeat' split
  all_goals (first|exact e|exact same rfl)
 split
 .rw[putVtep];dsimp only;split
  .exact e
  split
  .exact e
  intro d hd;have hd:d∈Zu n.devices (begT n l 5).1 l.addr:=hd;rcases Xw hd with h|h
  .exact hv d h
  .rw[h];exact hl.ok.addr
 split
 .rw[putVni];dsimp only
  repeat' split
  all_goals (first|exact e|exact same rfl)
 split
 .rw[putFlood];dsimp only
  repeat' split
  all_goals (first|exact e|exact same rfl)
 split
 .rw[putVrf];dsimp only
  repeat' split
  all_goals (first|exact e|exact same rfl)
 split
 .rw[putIrb];dsimp only
  repeat' split
  all_goals (first|exact e|exact same rfl)
 exact e
def U0:∀(l:List LineM) (n:Net),(∀d∈n.devices,0<=d.vtep/\d.vtep<4294967296)->(∀x∈l,LineW x)->(Bv n l).2.2=0->∀d∈(Bv n l).1.devices,0<=d.vtep/\d.vtep<4294967296
 |[],n,hn,_,h=>by
  rw[Bv,finishT]at h|-;split at h
  .rename_i h1;exact yA h h1
  rename_i h1;rw[zD h1];split at h
  .simp at h
  rename_i h2;rw[zD h2];obtain ⟨e1,_⟩:=Oh (n:=n) q_;dsimp only;rw[e1];exact hn
 |x::l,n,hn,hl,h=>by
  rw[Bv]at h|-;split at h
  .rename_i h1;exact yA h h1
  rename_i h1;rw[zD h1];exact U0 l _ (Ap8 hn (hl x y_)) (λy hy=>hl y (by simp[hy])) h
def Ap0{l:LineM}(hk:l.kind=2)(h:D6 l=true):1<=l.cost/\l.cost<=65535:=by
 have h1:¬l.kind=1:=by omega
 simp only[D6,By,zD h1,zE hk,zG]at h;exact within_iff.1 h.1.2.1
def aN(n:Net):Prop:=∀p∈n.ports,Iz p=false
def Wz:aN emptyN:=λp hp=>by cases hp
def A2z{n:Net}(h:aN n):Cv n=true:=by
 rw[Cv,yU,wE];intro p hp;rw[h p hp];exact tS
def Ake{l:List Port}{i k:Int}{p:Port}(h:p∈H2 l i k)(hT:∀p∈l,Iz p=false):Iz p=false:=by
 by_cases hi:i.toNat<l.length
 .rcases Xw h with h|h
  .exact hT p h
  .rw[h];exact show Iz (nth l i)=false from hT _ (Hs hi)
 .rw[H2,tJ q_]at h;exact hT p h
def Av0{n:Net}{l:LineM}(hv:aN n):aN (putT n l).1:=by
 have same:∀{m:Net},m.ports=n.ports->aN m:=λ{m} h d hd=>hv d (by rw[<-h];exact hd)
 have e:=Wz;rw[putT];split
 .rw[putDevice]
  repeat' split
  all_goals (first|exact e|exact same rfl)
 split
 .rename_i h2;rw[putPort];split
  .exact e
  rename_i hf
  repeat' split
  all_goals (try exact e)
  intro p hp;rcases yH.1 hp with hp|hp
  .exact hv p hp
  .rw[zX.1 hp];have hf:fitsB n l 2=true:=kS hf;rw[fitsB,zG,zG]at hf;have:=Ap0 h2 (kS hf.2.1);simp only[Iz];have a:decide (l.cost<1)=false:=zK q_;have b:decide (65535<l.cost)=false:=zK q_;simp[a,b]
 split
 .rw[putLink];dsimp only
  repeat' split
  all_goals (try exact e)
  intro p hp;exact Ake hp λq hq=>Ake hq hv
 split
 .rw[putStatic];dsimp only
  repeat' split
  all_goals (first|exact e|exact same rfl)
 split
 .rw[putVtep];dsimp only
  repeat' split
  all_goals (first|exact e|exact same rfl)
 split
 .rw[putVni];dsimp only
  repeat' split
  all_goals (first|exact e|exact same rfl)
 split
 .rw[putFlood];dsimp only
  repeat' split
  all_goals (first|exact e|exact same rfl)
 split
 .rw[putVrf];dsimp only
  repeat' split
  all_goals (first|exact e|exact same rfl)
 split
 .rw[putIrb];dsimp only
  repeat' split
  all_goals (first|exact e|exact same rfl)
 exact e
def Xa:∀(l:List LineM) (n:Net),aN n->(Bv n l).2.2=0->aN (Bv n l).1
 |[],n,hn,h=>by
  rw[Bv,finishT]at h|-;split at h
  .rename_i h1;exact yA h h1
  rename_i h1;rw[zD h1];split at h
  .simp at h
  rename_i h2;rw[zD h2];obtain ⟨e1,_⟩:=Oh (n:=n) q_;dsimp only;rw[e1];exact hn
 |x::l,n,hn,h=>by
  rw[Bv]at h|-;split at h
  .rename_i h1;exact yA h h1
  rename_i h1;rw[zD h1];exact Xa l _ (Av0 hn) h
end Go.Sy.Zaa
namespace Go.Sy
def A2b{P:Program}{o:Oper}{s:SS}{x y:Operand}{at_:Array TypeId}{k k':IntKind}{m n:Int}(h:o.op=.call ⟨.builtin .max,#[x,y],at_⟩)(hx:ev s x=.val (.int k m))(hy:ev s y=.val (.int k' n)):Good P o s ⟨.val (.int k (if n>m then n else m)),[],[]⟩ :=
 Good.pure λb a w _ hr ho=>by
  have h1:=hr x (by simp[h,Op.operands,Call.operands]);have h2:=hr y (by simp[h,Op.operands,Call.operands]);rw[hx]at h1;rw[hy]at h2;refine⟨.int k (if n>m then n else m),?_,by simp[Rd]⟩;simp[execOp,h,resolve,invoke,builtin,Builtin.max_,Builtin.max2,h1.val,h2.val]
end Go.Sy
namespace Go.Sy.Zaa
open Go.Proofs Go.Proofs.Tryz
attribute [local irreducible]G DR
set_option maxRecDepth 100000
def Ja{f:List Int}(hf:Dz f){i:Int}(h0:0<=i)(hi:i.toNat<f.length):0<=nth f i/\nth f i<=i:=by
 rw[Ae hi];have:=hf i.toNat hi;omega
def Qg{f:List Int}(hf:Dz f){i:Nat}(_hi:i<f.length){x:Int}(h0:0<=x)(hx:x<=i):Dz (f.set i x):=by
 intro k hk;rw[yQ]at hk;rw[vR];split
 .rename_i e;subst e;exact⟨h0,hx⟩
 .exact hf k hk
def Afj:∀(m k k':Nat) (f:List Int) (i:Int),Dz f->0<=i->i.toNat<f.length->i.toNat<=m->i.toNat+1<=k->i.toNat+1<=k'->Akd k f i=Akd k' f i
 |m,0,_,_,_,_,_,_,_,h,_=>by omega
 |m,_+1,0,_,_,_,_,_,_,_,h=>by omega
 |m,k+1,k'+1,f,i,hf,h0,hi,hm,h1,h2=>by
  rw[Akd,Akd];by_cases e:nth f i=i
  .rw[zE e,zE e]
  .rw[zD e,zD e];obtain ⟨a1,a2⟩:=Ja hf h0 hi;obtain ⟨b1,b2⟩:=Ja hf a1 (by omega:(nth f i).toNat<f.length)
   match m with
   |0=>omega
   |m+1=>
    exact Afj m k k' _ _ (Qg hf hi b1 q_) b1 (by rw[yQ];omega) q_ q_ q_
def As0{f:List Int}{i:Int}(h:nth f i=i):Mr f i=(f,i):=by rw[Mr,Akd,zE h]
def Akc{f:List Int}{i:Int}(hf:Dz f)(h0:0<=i)(hi:i.toNat<f.length)(h:nth f i≠i):Mr f i=Mr (f.set i.toNat (nth f (nth f i))) (nth f (nth f i)):=by
 obtain ⟨a1,a2⟩:=Ja hf h0 hi;obtain ⟨b1,b2⟩:=Ja hf a1 (by omega:(nth f i).toNat<f.length);rw[Mr,Akd,zD h,Mr];exact Afj i.toNat _ _ _ _ (Qg hf hi b1 q_) b1 (by rw[yQ];omega) q_ q_ q_
def Su:∀(m:Nat) (f:List Int) (i:Int),Dz f->0<=i->i.toNat<f.length->i.toNat<=m->Dz (Mr f i).1/\(Mr f i).1.length=f.length/\0<=(Mr f i).2/\(Mr f i).2<=i
 |m,f,i,hf,h0,hi,hm=>by
  by_cases e:nth f i=i
  .rw[As0 e];exact⟨hf,rfl,h0,xZ _⟩
  .obtain ⟨a1,a2⟩:=Ja hf h0 hi;obtain ⟨b1,b2⟩:=Ja hf a1 (by omega:(nth f i).toNat<f.length);rw[Akc hf h0 hi e]
   match m with
   |0=>omega
   |m+1=>
    obtain ⟨c1,c2,c3,c4⟩:=Su m _ _ (Qg hf hi b1 q_) b1 (by rw[yQ];omega:(nth f (nth f i)).toNat<(f.set i.toNat (nth f (nth f i))).length) q_;exact⟨c1,by rw[c2,yQ],c3,by omega⟩
def Acm{f:List Int}{a b:Int}(hf:Dz f)(ha:0<=a/\a.toNat<f.length)(hb:0<=b/\b.toNat<f.length):Dz (Y6 f a b).1/\(Y6 f a b).1.length=f.length:=by
 obtain ⟨a1,a2,a3,a4⟩:=Su a.toNat f a hf ha.1 ha.2 (yE _);obtain ⟨b1,b2,b3,b4⟩:=Su b.toNat (Mr f a).1 b a1 hb.1 q_ (yE _);unfold Y6;dsimp only;generalize Mr (Mr f a).1 b=y at *;generalize Mr f a=x at *;refine⟨Qg b1 q_ q_ q_,by rw[yQ];omega⟩
def Ajw(k:Nat):Dz (Qq k)/\(Qq k).length=k:=by
 refine⟨λi hi=>?_,by simp[Qq]⟩;simp[Qq]
def alJ(k j:Nat):List Int:=(List.range j).map (λi:Nat=>(i:Int))++List.replicate (k-j) 0
def A3f(k:Nat):alJ k 0=List.replicate k 0:=by simp[alJ]
def A5p(k j:Nat)(h:j<=k):(alJ k j).length=k:=by simp[alJ];omega
def A3g(k j:Nat)(h:j<k):(alJ k j).set (j:Int).toNat (j:Int)=alJ k (j+1):=by
 have hl:((List.range j).map (λi:Nat=>(i:Int))).length=j:=by simp
 rw[zZ,alJ,alJ,tZ _ _ q_,hl,tX,show k-j=(k-(j+1))+1 by omega,tM,uY,vH,wZ,xF];rfl
def aloneS(k:Nat)(hk:k<=100000):Sq 287 [Aa k] [] (.osl 900) [(900,.row 1 Aa (Qq k))]:=cT F287 ntmps287 λF hF=>by
 have lp:alJ k k=Qq k:=by simp[alJ,Qq]
 refine T ?_;refine X (B4 Γ.toTy (d:=6) (n:=k) Aa 0 E E E E E E E E q_ q_ E E E) ?_;refine T ?_;refine Cd (λj:Nat=>j<=k) (λj=>[(3,.osl 1000),(8,Aa k),(9,Aa j)]) (λj=>[(1000,.row 1 Aa (alJ k j))]) (λj=>k-j) 0 [(1000,6)] q_ ⟨⟨E,E,zH Aa (by rw[xU]),E,E,E,Y⟩,⟨.inl (zH (Ob.row 1 Aa) (A3f k)),E,Y⟩,E,E⟩ ?_;intro j hj;have hl:=A5p k j hj;refine gN ?_ ?_<;>intro h
 .have ab:j<k:=qA h;clear h;have af:alJ k j≠[]:=λe=>by rw[e]at hl;simp at hl;omega
  have ej:=A3g k j ab;refine T ?_;refine⟨(j:Int),E,E,?_⟩;refine T ?_;exact Ax (j+1) [] ab q_ ⟨kA,⟨.inl (zH (Ob.row 1 Aa) ej.symm),E,Y⟩,E,E⟩
 .have cu:j=k:=qB h;clear h;subst cu;rw[lp];refine T ?_;exact done E Aq [(900,1000)] [(900,.row 1 Aa (Qq j))] (λ_ h=>h) E E U
def Avb(l:List Int)(h0:0<l.length)(hl:l.length<2147483648):Sp 289 [.sl 1 Aa l] (Aa (Alu l)):=cT F289 ntmps289 λF hF=>by
 have f0:decide ((l.length:Int)<1)=false:=zK q_;have hz:(0:Int).toNat<l.length:=h0;have br:Alu l=Aev (l[(0:Int).toNat]'hz) (l.drop 1):=by rw[Alu,Ae hz]
 refine T ?_;refine Cd (λx:Nat×Int=>1<=x.1/\x.1<=l.length/\Alu l=Aev x.2 (l.drop x.1)) (λx=>[(0,.sl 1 Aa l),(3,Aa x.2),(4,Aa x.1)]) (λ_=>[]) (λx=>l.length-x.1) (1,l[(0:Int).toNat]'hz) [] ⟨by omega,by omega,br⟩ U ?_;rintro ⟨i,m⟩ ⟨h1,h2,hI⟩;dsimp only at h1 h2 hI|-;refine gN ?_ ?_<;>intro h
 .have ab:i<l.length:=qA h;have an:(i:Int).toNat<l.length:=ab;clear h;rw[yL ab,Aev]at hI;refine T ?_;refine X (cU E E E) ?_;exact Ax (i+1,min m l[i]) [] ⟨by dsimp only;omega,ab,hI⟩ (by dsimp only;omega) ⟨⟨E,E,zH Aa (by dsimp only;show min m l[i]=if l[i]<m then l[i] else m;omega),E,E,E,Y⟩,Y,E,E⟩
 .have tn:i=l.length:=qB h;clear h;rw[tn,wU,Aev]at hI;rw[hI];exact gA
def topS(f:List Int)(i:Int)(hf:Dz f)(h0:0<=i)(hi:i.toNat<f.length)(hl:f.length<=100000):Sq 362 [.osl 900,Aa i] [(900,.row 1 Aa f)] (Aa (Mr f i).2) [(900,.row 1 Aa (Mr f i).1)]:=cT F362 ntmps362 λF hF=>by
 refine T ?_;refine Cd (λx:List Int×Int=>Dz x.1/\x.1.length=f.length/\0<=x.2/\x.2.toNat<f.length/\Mr f i=Mr x.1 x.2) (λx=>[(0,.osl 900),(1,Aa x.2)]) (λx=>[(900,.row 1 Aa x.1)]) (λx=>x.2.toNat) (f,i) [] ⟨hf,E,h0,hi,E⟩ U ?_;rintro ⟨g,k⟩ ⟨h1,h2,h3,h4,hI⟩;dsimp only at h1 h2 h3 h4 hI|-;have bd:k.toNat<g.length:=by omega
 have hn:=Ae bd;by_cases e:nth g k=k
 .have hb:(g[k.toNat]==k)=true:=by rw[<-hn];exact beq_iff_eq.mpr e
  have u0:(!(g[k.toNat]==k))=false:=by rw[hb];rfl
  rw[hI,As0 e];refine T ?_;exact done E Aq [(900,900)] [(900,.row 1 Aa g)] (λ_ h=>h) E E U
 .obtain ⟨a1,a2⟩:=Ja h1 h3 bd;obtain ⟨b1,b2⟩:=Ja h1 a1 (by omega:(nth g k).toNat<g.length);have cy:(g[k.toNat]'bd).toNat<g.length:=by omega
  have xq:nth g (nth g k)=g[(g[k.toNat]'bd).toNat]'cy:=by rw[hn];exact Ae cy
  have hs:=Akc h1 h3 bd e;have hb:(g[k.toNat]==k)=false:=by rw[<-hn];exact beq_eq_false_iff_ne.mpr e
  have u0:(!(g[k.toNat]==k))=true:=by rw[hb];rfl
  refine T ?_;refine⟨nth g (nth g k),zH (λx=>cellsOf (Aa x)) xq,E,?_⟩;have cx:k.toNat<(g.set k.toNat (nth g (nth g k))).length:=by rw[yQ];exact bd
  have hn2:(g.set k.toNat (nth g (nth g k)))[k.toNat]'cx=nth g (nth g k):=tA _;refine T ?_;refine Ax (g.set k.toNat (nth g (nth g k)),nth g (nth g k)) [] ⟨Qg h1 bd b1 q_,by dsimp only;rw[yQ];exact h2,b1,by dsimp only;omega,by dsimp only;rw[hI,hs]⟩ (by dsimp only;omega) ⟨⟨E,E,zH Aa hn2.symm,E,Y⟩,⟨.inl E,E,Y⟩,E,E⟩
def A57(f:List Int)(a b:Int)(hf:Dz f)(ha:0<=a/\a.toNat<f.length)(hb:0<=b/\b.toNat<f.length)(hl:f.length<=100000):Sq 290 [.osl 900,Aa a,Aa b] [(900,.row 1 Aa f)] (Ab (Y6 f a b).2) [(900,.row 1 Aa (Y6 f a b).1)]:=cT F290 ntmps290 λF hF=>by
 obtain ⟨a1,a2,a3,a4⟩:=Su a.toNat f a hf ha.1 ha.2 (yE _);obtain ⟨b1,b2,b3,b4⟩:=Su b.toNat (Mr f a).1 b a1 hb.1 q_ (yE _);have F1:=topS f a hf ha.1 ha.2 hl;have F2:=topS (Mr f a).1 b a1 hb.1 q_ q_;rw[Y6];dsimp only;generalize hy:Mr (Mr f a).1 b=y at *;generalize hx:Mr f a=x at *;have hm:(if y.2>x.2 then y.2 else x.2).toNat<y.1.length:=by split<;>omega
 have ax:0<=(if y.2>x.2 then y.2 else x.2):=by split<;>omega
 have e1:(max x.2 y.2).toNat=(if y.2>x.2 then y.2 else x.2).toNat:=by rw[Int.max_def];split<;>split<;>omega
 have e2:(min x.2 y.2)=(if y.2<x.2 then y.2 else x.2):=by rw[Int.min_def];split<;>split<;>omega
 rw[e1,e2];refine T ?_;refine X (Ad [(900,900)] E F362 F1 E W E V) ?_;refine T ?_;refine X (Ad [(900,900)] E F362 F2 E W E V) ?_;refine T ?_;refine X (A2b E E E) ?_;refine T ?_;refine X (cU E E E) ?_;refine T ?_;refine⟨_,E,E,?_⟩;refine T ?_;exact done E Aq [(900,900)] [(900,.row 1 Aa (y.1.set (if y.2>x.2 then y.2 else x.2).toNat (if y.2<x.2 then y.2 else x.2)))] (λ_ h=>h) E E U
def cK{n:Net}{i:Nat}{v:Int}(h:(linkDomT n i v).2=true)(hi:i<n.ports.length):Cy n.ports[i] v=true:=by
 have e:nth n.ports ((i:Nat):Int)=n.ports[i]:=Ae (l:=n.ports) (i:=((i:Nat):Int)) hi;unfold linkDomT at h;split at h
 .rename_i h3;unfold crossT at h3;split at h3
  .rename_i h4;rw[e]at h4;exact h4.2.1
  .cases h3
 .cases h
def Y3{n:Net}(hr:Ac n=true){f:List Int}{i:Nat}(hi:i<n.ports.length){v:Int}(hf:Dz f)(hl:n.domains.length<=f.length):Dz (Ec n f i v)/\(Ec n f i v).length=f.length:=by
 unfold Ec;split
 .rename_i h;have h2:=Mg h;have hm:Cy n.ports[i] v=true:=cK h hi;have h3:=W4 hr hi hm;have e:nth n.ports ((i:Nat):Int)=n.ports[i]:=Ae (l:=n.ports) (i:=((i:Nat):Int)) hi;rw[e];exact Acm hf ⟨h3.1,by omega⟩ ⟨h2.1,by omega⟩
 .exact⟨hf,E⟩
def Mn{r:Type}{g:List Int->r->List Int}{k:Nat}:∀{l:List r} {f:List Int},(∀a∈l,∀f,Dz f->k<=f.length->Dz (g f a)/\(g f a).length=f.length)->Dz f->k<=f.length->Dz (l.foldl g f)/\(l.foldl g f).length=f.length
 |[],_,_,h,_=>⟨h,rfl⟩
 |a::l,f,hg,h,hk=>by
  obtain ⟨h1,h2⟩:=hg a y_ f h hk;obtain ⟨h3,h4⟩:=Mn (l:=l) (λb hb=>hg b (by simp[hb])) h1 (by omega:k<=(g f a).length);exact⟨h3,by rw[vP,h4,h2]⟩
def Wl{n:Net}(hr:Ac n=true){f:List Int}{i:Nat}(hi:i<n.ports.length)(hf:Dz f)(hl:n.domains.length<=f.length):Dz (Jy n f i)/\(Jy n f i).length=f.length :=
 Mn (λ_ _ _ h1 h2=>Y3 hr hi h1 h2) hf hl
def Ais{n:Net}(hr:Ac n=true){f:List Int}(hf:Dz f)(hl:n.domains.length<=f.length):Dz (Xx n f)/\(Xx n f).length=f.length :=
 Mn (λi hi _ h1 h2=>Wl hr (kS hi) h1 h2) hf hl
def Ajm:=iF Aa 1 F170 ntmps170
def A4y(n:Net)(f:List Int)(hn:n.Fin)(hr:Ac n=true)(hf:Dz f)(hl:n.domains.length<=f.length)(gz:f.length<=100000):Sq 288 [Am n,.osl 900] [(900,.row 1 Aa f)] (.tup []) [(900,.row 1 Aa (Xx n f))]:=cT F288 ntmps288 λF hF=>by
 have hp:n.ports.length<2147483648:=hn.ports;refine T ?_;refine Bf 2 8 (Am n) E E E (T ?_);refine Bg n.ports.length (λj=>[(1,.osl 900),(2,.ref 8 (Am n) 0),(11,.sl 7 Bb n.ports),(12,Aa n.ports.length),(13,Aa j)]) (λj=>[(900,.row 1 Aa ((List.range j).foldl (Jy n) f))]) [] U ?_;intro j hj;refine gN ?_ ?_<;>intro h
 .have ab:j<n.ports.length:=qA h;have ai:(j:Int).toNat<n.ports.length:=ab;clear h;have rn:n.ports[(j:Int).toNat].tagged.length<2147483648:=hn.tagged _ (zI ai);have htag2:n.ports[j].tagged.length<2147483648:=rn;have hnp:nth n.ports ((j:Nat):Int)=n.ports[(j:Int).toNat]:=Ae ai;obtain ⟨g1,g2⟩:Dz ((List.range j).foldl (Jy n) f)/\((List.range j).foldl (Jy n) f).length=f.length:=Mn (λi hi _ h1 h2=>Wl hr (by have:=yV.1 hi;omega) h1 h2) hf hl;refine T ?_;refine Xd (Ad [(0,60)] E F170 (Ajm n.ports[(j:Int).toNat].tagged rn) E Y E ⟨.inr E,Y⟩) ?_;refine T ?_;refine Xd (Ah Γ.toTy 61 rfl rfl rfl rfl rfl (.row rfl) (.lit (e:=Aa) (l:=[n.ports[(j:Int).toNat].native]) rfl rfl) (by intro k hk;cases hk;decide) kO kO) ?_;refine T ?_;refine Bf 5 7 (Bb n.ports[(j:Int).toNat]) E E E ?_;have hlen:(n.ports[(j:Int).toNat].tagged++[n.ports[(j:Int).toNat].native]).length=n.ports[(j:Int).toNat].tagged.length+1:=by simp
  refine T ?_;obtain ⟨vl,fc⟩:=kE (n.ports[(j:Int).toNat].tagged++[n.ports[(j:Int).toNat].native]);have hvlen:vl.length<2147483649:=by rw[<-fc,hlen];omega
  obtain ⟨fj,hfj⟩:=kE ((List.range j).foldl (Jy n) f);rw[hfj]at g1 g2;refine Bg vl.length (λi=>[(1,.osl 900),(2,.ref 8 (Am n) 0),(4,Aa j),(5,.ref 7 (Bb n.ports[(j:Int).toNat]) 0),(11,.sl 7 Bb n.ports),(12,Aa n.ports.length),(13,Aa j),(24,.osl 1000),(25,Aa vl.length),(26,Aa i)])
   (λi=>[(900,.row 1 Aa ((vl.take i).foldl (λf v=>Ec n f j v) fj)),(1000,.row 1 Aa vl)]) [(1000,61)] ⟨⟨rfl,rfl,rfl,rfl,rfl,rfl,rfl,rfl,rfl,rfl,rfl,rfl,rfl,rfl,rfl,rfl,zH (λl:List Int=>Aa l.length) fc.symm,rfl,rfl,rfl,trivial⟩,⟨.inl (zH (Ob.row 1 Aa) hfj.symm),rfl,.inl (zH (Ob.row 1 Aa) fc.symm),rfl,trivial⟩,rfl,rfl⟩ ?_
  intro i hi;refine gN ?_ ?_<;>intro h
  .have hit:i<vl.length:=qA h;have dt:(i:Int).toNat<vl.length:=hit;clear h;obtain ⟨e1,e2⟩:Dz ((vl.take i).foldl (λf v=>Ec n f j v) fj)/\((vl.take i).foldl (λf v=>Ec n f j v) fj).length=fj.length:=Mn (λ_ _ _ h1 h2=>Y3 hr ab h1 h2) g1 q_;have ej:(vl.take (i+1)).foldl (λf v=>Ec n f j v) fj=Ec n ((vl.take i).foldl (λf v=>Ec n f j v) fj) j (vl[(i:Int).toNat]'dt):=by
    rw[yD hit,xP];rfl
   have q:=cI n hn j (vl[(i:Int).toNat]'dt);refine gC q F256 ?_;cases hb:(linkDomT n j (vl[(i:Int).toNat]'dt)).2
   .have hz:Ec n ((vl.take i).foldl (λf v=>Ec n f j v) fj) j (vl[(i:Int).toNat]'dt)=(vl.take i).foldl (λf v=>Ec n f j v) fj:=by rw[Ec,zD (by rw[hb];decide)]
    rw[hz]at ej;refine T ?_;exact Az [] q_ ⟨kA,⟨.inl (zH (Ob.row 1 Aa) ej),E,.inl E,E,Y⟩,E,E⟩
   .have a6:=Mg hb;have hm:Cy (n.ports[(j:Int).toNat]'ai) (vl[(i:Int).toNat]'dt)=true:=cK hb ab;have ny:=W4 hr ab hm;have q2:=L6 n hn hr (n.ports[(j:Int).toNat]'ai).dev (vl[(i:Int).toNat]'dt);have hz:Ec n ((vl.take i).foldl (λf v=>Ec n f j v) fj) j (vl[(i:Int).toNat]'dt)=(Y6 ((vl.take i).foldl (λf v=>Ec n f j v) fj) (C8 n (n.ports[(j:Int).toNat]'ai).dev (vl[(i:Int).toNat]'dt)) (linkDomT n j (vl[(i:Int).toNat]'dt)).1).1:=by rw[Ec,zE hb,hnp]
    rw[hz]at ej;have q3:=A57 ((vl.take i).foldl (λf v=>Ec n f j v) fj) (C8 n (n.ports[(j:Int).toNat]'ai).dev (vl[(i:Int).toNat]'dt)) (linkDomT n j (vl[(i:Int).toNat]'dt)).1 e1 ⟨ny.1,xA ny.2 q_⟩ ⟨a6.1,by omega⟩ q_;refine gC q2 F181 ?_;refine T ?_;refine X (Ad [(900,900)] E F290 q3 E W E V) ?_;refine T ?_;exact Az [] q_ ⟨kA,⟨.inl (zH (Ob.row 1 Aa) ej),E,.inl E,E,Y⟩,E,E⟩
  .have tn:i=vl.length:=qB h;clear h;subst tn;have ej:(List.range (j+1)).foldl (Jy n) f=(vl.take vl.length).foldl (λf v=>Ec n f j v) fj:=by
    rw[vH,xP,hfj,yN,<-fc];show Jy n fj j=_;rw[Jy,hnp]
   refine T ?_;exact Az [] q_ ⟨kA,⟨.inl (zH (Ob.row 1 Aa) ej),E,Y⟩,E,E⟩
 .have cu:j=n.ports.length:=qB h;clear h;subst cu;refine T ?_;exact A6 E .nil [(900,900)] [(900,.row 1 Aa (Xx n f))] (λ_ h=>h) E E U
def Atm:∀(l:List Int) (m:Int),Aev m l=m\/Aev m l∈l
 |[],_=>.inl rfl
 |x::l,m=>by
  rw[Aev];rcases Atm l (min m x) with h|h
  .rw[h,Int.min_def];split
   .exact .inl E
   .exact .inr y_
  .exact .inr (by simp[h])
def A4v{l:List Int}(h:l≠[]):Alu l∈l:=by
 match l,h with
 |x::l,_=>
  show Aev (nth (x::l) 0) l∈x::l;rw[show nth (x::l) 0=x from rfl];rcases Atm l x with h|h
  .rw[h];simp
  .simp[h]
def loopS(n:Net)(hn:n.Fin):Sp 220 [Am n] (.tup [Aa (loopT n).1,Ab (loopT n).2]):=cT F220 ntmps220 λF hF=>by
 have qn:=A2 n hn;have hT:=loopT.eq_1 n;generalize loopT n=res at *;cases hr:Ac n with
 |false=>
  rw[hr]at qn;rw[hr,zE rfl]at hT;subst hT;refine gC qn F39 ?_;exact gA
 |true=>
 rw[hr]at qn;rw[hr,zD y_]at hT;obtain ⟨_,_,_,hmany,_⟩:=Adi hr;obtain ⟨fa1,fa2⟩:=Ajw (2*n.domains.length);have fl:=Ais hr fa1 q_;have q1:=aloneS (2*n.domains.length) q_;rw[show ((2*n.domains.length:Nat):Int)=2*(n.domains.length:Int) from by omega]at q1;have q2:=A4y n (Qq (2*n.domains.length)) hn hr fa1 q_ q_;refine gC qn F39 ?_;refine Bf 1 8 (Am n) E E E (T ?_);refine X (Ad [(900,700)] E F287 q1 E W E V) ?_;refine T ?_;refine X (Ad [(900,700)] E F288 q2 E W E V) ?_;refine T ?_;refine Cd (λx:Nat×List Int=>x.1<=n.domains.length/\Dz x.2/\x.2.length=2*n.domains.length/\res=Uj n x.2 x.1 (n.domains.drop x.1)) (λx=>[(1,.ref 8 (Am n) 0),(4,Aa n.domains.length),(5,.osl 1000),(22,.sl 6 At n.domains),(23,Aa n.domains.length),(24,Aa x.1)])
  (λx=>[(1000,.row 1 Aa x.2)]) (λx=>n.domains.length-x.1) (0,Xx n (Qq (2*n.domains.length))) [(1000,700)] ⟨by omega,fl.1,by dsimp only;rw[fl.2,fa2],hT⟩ U ?_
 rintro ⟨i,f⟩ ⟨h1,h2,h3,hI⟩;dsimp only at h1 h2 h3 hI|-;refine gN ?_ ?_<;>intro h
 .have ab:i<n.domains.length:=qA h;have dt:(i:Int).toNat<n.domains.length:=ab;clear h;rw[yL ab,Uj]at hI;have ay:n.domains[(i:Int).toNat].peers.length<2147483648:=hn.peers _ (zI dt);refine gN ?_ ?_<;>intro h
  .have fy:n.domains[i].peers=[]:=yC (by have:=eq_of_beq h;have e:(n.domains[(i:Int).toNat]'dt).peers.length=n.domains[i].peers.length:=rfl;omega);clear h;rw[zE fy]at hI;refine T ?_;exact Ax (i+1,f) [] ⟨ab,h2,h3,hI⟩ (by dsimp only;omega) kU
  have fy:n.domains[i].peers≠[]:=λe=>by
   have e2:(n.domains[(i:Int).toNat]'dt).peers=[]:=e;rw[e2]at h;cases h
  clear h;rw[zD fy]at hI;dsimp only at hI;have hpm:=Ar6 hr ab (A4v fy);have qm:=Avb (n.domains[(i:Int).toNat]'dt).peers (by have:=xS.2 fy;exact this) ay;obtain ⟨m,hm⟩:=kE (Alu (n.domains[(i:Int).toNat]'dt).peers);have po:Alu n.domains[i].peers=m:=hm;have emin:min (i:Int) m=if m<(i:Int) then m else (i:Int):=by rw[Int.min_def];split<;>split<;>omega
  rw[hm]at qm;rw[po]at hI hpm;rw[emin]at hI;have hmb:0<=(if m<(i:Int) then m else (i:Int))/\(if m<(i:Int) then m else (i:Int))<n.domains.length:=by split<;>omega
  have q3:=A57 f i ((n.domains.length:Int)+(if m<(i:Int) then m else (i:Int))) h2 ⟨by omega,by omega⟩ ⟨by omega,by omega⟩ q_;have q3f:=Acm h2 (⟨by omega,by omega⟩:0<=(i:Int)/\(i:Int).toNat<f.length) (⟨by omega,by omega⟩:0<=(n.domains.length:Int)+(if m<(i:Int) then m else (i:Int))/\((n.domains.length:Int)+(if m<(i:Int) then m else (i:Int))).toNat<f.length);have hb48:(n.domains.length:Int)+(if m<(i:Int) then m else (i:Int))<100:=by omega
  generalize (Y6 f i ((n.domains.length:Int)+(if m<(i:Int) then m else (i:Int))))=r at *;obtain ⟨g,ok⟩:=r;dsimp only at hI q3f;refine gC qm F289 ?_;refine T ?_;refine X (cU E E E) ?_;refine T ?_;refine X (Ad [(900,1000)] E F290 q3 E W E V) ?_;cases ok with
  |false=>
   rw[zE rfl]at hI;rw[hI];exact gA
  |true=>
   rw[zD j_]at hI;refine T ?_;exact Ax (i+1,g) [] ⟨ab,q3f.1,by dsimp only;omega,hI⟩ (by dsimp only;omega) kU
 .have tn:i=n.domains.length:=qB h;clear h;rw[tn,wU,Uj]at hI;rw[hI];exact gA
def bC(dn lk:Int)(M:List LineM)(n:Net)(row e:Int):List SV:=[.val (.int .u32 dn),.val (.int .i32 lk),.val (.int .u32 0),.sl 17 A5 M]++Dc n++[Aa row,Aa e]
def Iv(dn lk:Int)(M:List LineM)(x:Net×Int×Int):Obs:=[(0,.box (bC dn lk M x.1 x.2.1 x.2.2))]
def A05{n:Net}(h:(meshNT n).2.2=0):(meshNT n).2.1=0:=by
 unfold meshNT at h|-;split
 .rfl
 rename_i h1;rw[zD h1]at h;split at h
 .cases h
 .rename_i h2;split at h
  .cases h
  .rename_i h3;rw[zD h3]
def Apq(M:List LineM)(hM:∀l∈M,LineW l)(hl:M.length<2147483648)(dn lk:Int):Sq 138 [.ptr 0 0] (Iv dn lk M (emptyN,0,0)) (.tup []) (Iv dn lk M (Do M)):=cT F138 ntmps138 λF hF=>by
 refine T ?_;refine Cd (λx:Nat×Net=>x.1<=M.length/\x.2.Fin/\C7 x.2/\Do M=Bv x.2 (M.drop x.1)) (λx=>[(0,.ptr 0 0),(9,.sl 17 A5 M),(10,Aa M.length),(11,Aa x.1)]) (λx=>Iv dn lk M (x.2,0,0)) (λx=>M.length-x.1) (0,emptyN) [] ⟨by omega,Kr,(λx hx=>by cases hx),rfl⟩ U ?_;rintro ⟨j,n⟩ ⟨hj,hn,ha,hI⟩;dsimp only at hj hn ha hI|-;refine gN ?_ ?_<;>intro h
 .have ab:j<M.length:=qA h;have ai:(j:Int).toNat<M.length:=ab;clear h;have hw:=hM _ (zI ai);have q:=A4u n hn ha _ hw;have hp:=Ate hn ha hw;rw[yL ab,Bv]at hI;refine T ?_;refine cD q F218 ?_;refine gN ?_ ?_<;>intro h
  .have af:(putT n (M[(j:Int).toNat]'ai)).2≠0:=by intro e;rw[e]at h;cases h
   have he:=hp.none af;have zr:Do M=(emptyN,(M[(j:Int).toNat]'ai).row,(putT n (M[(j:Int).toNat]'ai)).2):=hI.trans (zE af);rw[zr,<-he];clear h;refine T ?_;exact done E .nil [] (Iv dn lk M ((putT n (M[(j:Int).toNat]'ai)).1,(M[(j:Int).toNat]'ai).row,(putT n (M[(j:Int).toNat]'ai)).2)) (λ_ h=>h) E E U
  .have he:(putT n (M[(j:Int).toNat]'ai)).2=0:=by simpa using h
   have zr:Do M=Bv (putT n (M[(j:Int).toNat]'ai)).1 (M.drop (j+1)):=hI.trans (zD (λhh=>hh he));clear h;refine T ?_;exact Ax (j+1,(putT n (M[(j:Int).toNat]'ai)).1) [] ⟨ab,hp.fin,hp.addrs,zr⟩ (by dsimp only;omega) ⟨kA,⟨.inl (zH (λe:Int=>Ob.box (bC dn lk M (putT n (M[(j:Int).toNat]'ai)).1 0 e)) he.symm),E,Y⟩,E,E⟩
 .have cu:j=M.length:=qB h;clear h;rw[cu,wU,Bv]at hI;rw[hI];have qm:=meshS n hn;have hf:=finishT.eq_1 n;refine gC qm F219 ?_;refine gN ?_ ?_<;>intro h
  .have af:(meshNT n).2.2≠0:=by intro e;rw[e]at h;cases h
   rw[zE af]at hf;rw[hf];clear h;refine T ?_;exact done E .nil [] (Iv dn lk M (meshNT n)) (λ_ h=>h) E E U
  have he:(meshNT n).2.2=0:=kS h;clear h;have gx:(meshNT n).2.1=0:=A05 he;rw[zD (by rw[he];decide)]at hf;have ql:=loopS (meshNT n).1 (Af3 hn);refine gC ql F220 ?_;refine gN ?_ ?_<;>intro h
  .rw[zE h]at hf;rw[hf];clear h;refine T ?_;refine Ak 0 (bC dn lk M emptyN (loopT (meshNT n).1).1 38) E vL ?_;exact A6 E .nil [] (Iv dn lk M (emptyN,(loopT (meshNT n).1).1,38)) (λ_ h=>h) E E U
  .rw[zD (by rw[h];decide)]at hf;rw[hf];clear h;refine T ?_;exact A6 E .nil [] (Iv dn lk M ((meshNT n).1,0,0)) (λ_ h=>h) E E ⟨Y,⟨.inl (zH (λa:Int×Int=>Ob.box (bC dn lk M (meshNT n).1 a.1 a.2)) (Prod.ext gx.symm he.symm:((0:Int),(0:Int))=(meshNT n).2)),E,Y⟩,E,E⟩
end Go.Sy.Zaa
