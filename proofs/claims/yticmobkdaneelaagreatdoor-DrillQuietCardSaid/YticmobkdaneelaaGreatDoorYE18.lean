/- Parts of a proof. -/
import Derived.Test.YticmobkdaneelaaGreatDoorYE17
set_option linter.all false
set_option linter.unusedVariables false
set_option linter.unusedSimpArgs false
set_option linter.deprecated false
namespace Go.Sy.YticmobkdaneelaaGreatDoor
open Go.Proofs Go.Proofs.Tryz
attribute [local irreducible] Go.Sy.G Go.Sy.DR
set_option maxRecDepth 100000
set_option maxHeartbeats 4000000
def L0(l m:List Int)(hl:l.length≤1000000)(dt:m.length≤1000000):Sp 376 [.sl 1 Aa l,.sl 1 Aa m] (Ab (l==m)):=cT F376 ntmps376 λF hF=>by
 by_cases hlen:l.length=m.length;rotate_left
 ·have hr:(l==m)=false:=by
   rw[zR];intro e;exact hlen (by rw[e])
  have f0:((l.length:Int) != (m.length:Int))=true:=by rw[xG];omega
  rw[hr];exact gA
 have f0:((l.length:Int) != (m.length:Int))=false:=by rw[bne_eq_false_iff_eq];omega
 refine T ?_;refine A9 l.length (λj=>l.take j=m.take j) (λj=>[(0,.sl 1 Aa l),(1,.sl 1 Aa m),(12,Aa l.length),(13,Aa j)]) (λ_=>[]) [] E U ?_;intro j hj hI;refine T ?_;constructor<;>intro h
 ·have ab:j<l.length:=qA h;have xg:j<m.length:=by omega
  have aq:(j:Int).toNat<l.length:=ab;have o9:(j:Int).toNat<m.length:=xg;clear h;by_cases he:l[j]=m[j]
  ·have f1:(l[(j:Int).toNat]'aq != m[(j:Int).toNat]'o9)=false:=by rw[bne_eq_false_iff_eq];exact he
   refine T ?_;refine A8 [] hI q_ ?_ U;rw[yD ab,yD xg,hI,he]
  ·have f1:(l[(j:Int).toNat]'aq != m[(j:Int).toNat]'o9)=true:=by rw[xG];exact he
   have hr:(l==m)=false:=by
    rw[zR];intro e;subst e;exact he rfl
   rw[hr];exact gA
 ·have dh:j=l.length:=qB h;subst dh;have hr:(l==m)=true:=by
   rw[yJ];rw[yN,hlen,yN]at hI;exact hI
  rw[hr];clear h;exact gA
def Adi(l m:List Int)(hl:l.length≤1000000)(dt:m.length≤1000000):Sp 377 [.sl 1 Bb l,.sl 1 Bb m] (Ab (l==m)):=cT F377 ntmps377 λF hF=>by
 by_cases hlen:l.length=m.length;rotate_left
 ·have hr:(l==m)=false:=by
   rw[zR];intro e;exact hlen (by rw[e])
  have f0:((l.length:Int) != (m.length:Int))=true:=by rw[xG];omega
  rw[hr];exact gA
 have f0:((l.length:Int) != (m.length:Int))=false:=by rw[bne_eq_false_iff_eq];omega
 refine T ?_;refine A9 l.length (λj=>l.take j=m.take j) (λj=>[(0,.sl 1 Bb l),(1,.sl 1 Bb m),(12,Aa l.length),(13,Aa j)]) (λ_=>[]) [] E U ?_;intro j hj hI;refine T ?_;constructor<;>intro h
 ·have ab:j<l.length:=qA h;have xg:j<m.length:=by omega
  have aq:(j:Int).toNat<l.length:=ab;have o9:(j:Int).toNat<m.length:=xg;clear h;by_cases he:l[j]=m[j]
  ·have f1:(l[(j:Int).toNat]'aq != m[(j:Int).toNat]'o9)=false:=by rw[bne_eq_false_iff_eq];exact he
   refine T ?_;refine A8 [] hI q_ ?_ U;rw[yD ab,yD xg,hI,he]
  ·have f1:(l[(j:Int).toNat]'aq != m[(j:Int).toNat]'o9)=true:=by rw[xG];exact he
   have hr:(l==m)=false:=by
    rw[zR];intro e;subst e;exact he rfl
   rw[hr];exact gA
 ·have dh:j=l.length:=qB h;subst dh;have hr:(l==m)=true:=by
   rw[yJ];rw[yN,hlen,yN]at hI;exact hI
  rw[hr];clear h;exact gA
def Awt(a b:LineM)(ha:LineFin a)(hb:LineFin b):Sp 331 [A3 a,A3 b] (Ab (Mr a b)):=cT F331 ntmps331 λF hF=>by
 have ht:=ha.t;have hi:=ha.i;have he:=ha.e;have haa:=ha.a
 have y1:=hb.t;have jo:=hb.i;have dr:=hb.e;have haa2:=hb.a
 have q0:=L0 a.tagged b.tagged q_ q_;have q1:=L0 a.imports b.imports q_ q_;have q2:=L0 a.exports b.exports q_ q_;have q3:=Adi a.addrs b.addrs q_ q_;rw[Mr];cases h_row:(a.row==b.row)
 ·rw[yE];exact gA
 rw[yF];cases h_kind:(a.kind==b.kind)
 ·rw[yE];exact gA
 rw[yF];cases h_dev:(a.dev==b.dev)
 ·rw[yE];exact gA
 rw[yF];cases h_port:(a.port==b.port)
 ·rw[yE];exact gA
 rw[yF];cases h_peer:(a.peer==b.peer)
 ·rw[yE];exact gA
 rw[yF];cases h_far:(a.far==b.far)
 ·rw[yE];exact gA
 rw[yF];cases h_name:(a.name==b.name)
 ·rw[yE];exact gA
 rw[yF];cases h_mac:(a.mac==b.mac)
 ·rw[yE];exact gA
 rw[yF];cases h_addr:(a.addr==b.addr)
 ·rw[yE];exact gA
 rw[yF];cases h_bits:(a.bits==b.bits)
 ·rw[yE];exact gA
 rw[yF];cases h_vlan:(a.vlan==b.vlan)
 ·rw[yE];exact gA
 rw[yF];cases h_num:(a.num==b.num)
 ·rw[yE];exact gA
 rw[yF];cases h_cost:(a.cost==b.cost)
 ·rw[yE];exact gA
 rw[yF];cases j7:(a.tagged==b.tagged)
 ·rw[j7]at q0;rw[yE];refine gD q0 F376 ?_;exact D
 rw[j7]at q0;rw[yF];cases iz:(a.imports==b.imports)
 ·rw[iz]at q1;rw[yE];refine gB q0 F376 q1 F376 ?_;exact D
 rw[iz]at q1;rw[yF];cases i7:(a.exports==b.exports)
 ·rw[i7]at q2;rw[yE];refine gB q0 F376 q1 F376 ?_;refine C q2 F376 ?_;exact D
 rw[i7]at q2;rw[yF];cases lz:(a.addrs==b.addrs)
 ·rw[lz]at q3
  skip
  refine gB q0 F376 q1 F376 ?_;refine gJ q2 F376 q3 F377 ?_;exact D
 rw[lz]at q3;refine gB q0 F376 q1 F376 ?_;refine gJ q2 F376 q3 F377 ?_;exact D
def Hg(n lo hi:Int):Sp 373 [Aa n,Aa lo,Aa hi] (Ab (Cm n lo hi)):=cT F373 ntmps373 λF hF=>by
 rw[Cm];by_cases h1:lo≤n
 ·have f1:decide (n≥lo)=true:=zO h1;rw[zO h1,yF];exact gA
 ·have f1:decide (n≥lo)=false:=zL h1;rw[zL h1,yE];exact gA
def Aas(l:List Int)(bd:Int)(hl:l.length≤100000):Sp 374 [.sl 1 Aa l,Aa bd] (Ab (Ep l bd)):=cT F374 ntmps374 λF hF=>by
 have q:=Afd l 1 bd (by simp only[An];omega);rw[Ep,Ug];by_cases h0:l.length=0
 ·rw[zO h0,vD];have f0:((l.length:Int)==0)=true:=by rw[h0];rfl
  exact gA
 ·rw[zL h0,uH];have f0:((l.length:Int)==0)=false:=by rw[zR];omega
  refine gD q F117 ?_;exact D
def Vo(l:List Int)(i:Nat)(x:Int):Bool:=decide (x≠0)&&(i==0||decide (l.getD (i-1) 0<x))
def Aum(l:List Int):Kt l=(Ik (Vo l) l&&(decide (0<l.length)&&decide (l.length≤16))):=by
 have e:(List.range l.length).all (λi=>decide (l.getD i 0≠0)&&(i==0||decide (l.getD (i-1) 0<l.getD i 0)))=Ik (Vo l) l:=by
  rw[wN,yZ,allB_iff];constructor
  ·intro h i hi;have:=h i (xA.2 hi);rw[show l.getD i 0=l[i] by rw[wH,zT hi];rfl]at this;exact this
  ·intro h i hi;have hi:=xA.1 hi;rw[show l.getD i 0=l[i] by rw[wH,zT hi];rfl];exact h i hi
 rw[Kt,e]
def Arn(l:List Int)(hl:l.length≤100000):Sp 375 [.sl 1 Bb l] (Ab (Kt l)):=cT F375 ntmps375 λF hF=>by
 have aa:=Aum l;generalize Kt l=r at *;refine T ?_;refine A9 l.length (λj=>En (Vo l) l j) (λj=>[(0,.sl 1 Bb l),(5,.sl 1 Bb l),(6,Aa l.length),(7,Aa j)]) (λ_=>[]) [] (Bl _ _) U ?_;intro j hj hI;refine T ?_;constructor<;>intro h
 ·have ab:j<l.length:=qA h;have aq:(j:Int).toNat<l.length:=ab;have cu:=λh=>C8 (p:=Vo l) ab h
  have d9:=λh=>Bi (p:=Vo l) hI ab h
  clear h;by_cases h1:l[j]=0
  ·have f1:(l[(j:Int).toNat]'aq==0)=true:=yJ.2 h1;rw[cu (by simp[Vo,h1]),yE]at aa;subst aa;exact gA
  ·have f1:(l[(j:Int).toNat]'aq==0)=false:=zR.2 h1;by_cases h2:j=0
   ·subst h2;refine T ?_;exact A8 [] hI q_ (d9 (by simp[Vo,h1])) U
   ·have f2:decide ((j:Int)>0)=true:=zO q_;have hk:((j:Int)-1).toNat<l.length:=by omega
    have hg:l.getD (j-1) 0=l[((j:Int)-1).toNat]'hk:=by
     rw[wH,zT (by omega:j-1<l.length)];have:((j:Int)-1).toNat=j-1:=by omega
     simp only[this];rfl
    have hx:Vo l j l[j]=(decide (l[j]≠0)&&(j==0||decide (l.getD (j-1) 0<l[j]))):=rfl;rw[hg]at hx;by_cases h3:l[((j:Int)-1).toNat]'hk<l[j]
    ·have f3:decide (l[((j:Int)-1).toNat]'hk≥l[(j:Int).toNat]'aq)=false:=zL (by show ¬_≥l[j];omega);refine T ?_;exact A8 [] hI q_ (d9 (by rw[hx,zO h1,zO h3,Bool.or_true];rfl)) U
    ·have f3:decide (l[((j:Int)-1).toNat]'hk≥l[(j:Int).toNat]'aq)=true:=zO (by show _≥l[j];omega);rw[cu (by rw[hx,zL h3,zR.2 h2];simp),yE]at aa;subst aa;exact gA
 ·have dh:j=l.length:=qB h;subst dh;rw[E5 hI (yG _),yF]at aa;subst aa;clear h;by_cases h0:0<l.length
  ·rw[zO h0,yF];have f0:decide ((l.length:Int)>0)=true:=zO q_;refine T ?_;refine At E (.cons .tmp .nil) (zH Ab ?_) E;exact decide_eq_decide.2 q_
  ·rw[zL h0,yE];have f0:decide ((l.length:Int)>0)=false:=zL q_;exact gA
end Go.Sy.YticmobkdaneelaaGreatDoor
