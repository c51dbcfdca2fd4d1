/- Parts of a proof. -/
import Derived.Test.YtodbnbfjhjcanaaGreatDoorXA5
set_option maxHeartbeats 4000000
set_option linter.all false
namespace Go.Sy.Zaa
open Go.Proofs Go.Proofs.Tryz
attribute [local irreducible]G DR
set_option maxRecDepth 20000
theorem iI{f0 m0:Nat}{g0:Func}(F0:fT f0 g0)(n0:g0.ntmps=m0)(h:fT f0 g0->g0.ntmps=m0->∀ ⦃k:Type⦄ (sz:Nat) (e:k->SV) (l:List k) (i:Int),Sp f0 [.sl sz e l,Aa i] (Ab (Af i l.length)):=by
 intro F0 n0 k sz e l i
 refine cT F0 n0 λF hF=>?_
 conv=>whnf
 (repeat' (first|(refine⟨λh=>?_,λh=>?_⟩<;>(repeat (first|simp only[zJ]at h|simp only[zY]at h))<;>((refine oO ?_)))|(refine Aq rfl Ap ?_ rfl)))
 all_goals (refine zH Ab ?_)
 all_goals grind [Af]):∀ ⦃k:Type⦄ (sz:Nat) (e:k->SV) (l:List k) (i:Int),Sp f0 [.sl sz e l,Aa i] (Ab (Af i l.length)):=h F0 n0
def Jk:=iI F85 ntmps85
def Anw:=iI F141 ntmps141
def Ai7:=iI F147 ntmps147
def Vg:=iI F148 ntmps148
def Lo:=iI F149 ntmps149
def Anv:=iI F152 ntmps152
def Ay3(l:List Int)(x:Int)(hl:An l):Sp 146 [.sl 1 Aa l,Aa x] (Aa (Bs (·==x) l)):=cT F146 ntmps146 λF hF=>by
 unfold An at hl
 conv=>whnf
 refine A7 l.length (λj=>∀i (h:i<l.length),i<j->(l[i]==x)=false) (λj=>[(0,.sl 1 Aa l),(1,Aa x),(7,Aa l.length),(8,Aa j)]) (λ_=>[]) [] (λi h hj=>zX hj z_) kU ?_;intro j hj hI;refine oO ?_
 (repeat' (first|(refine⟨λh=>?_,λh=>?_⟩<;>(repeat (first|simp only[zJ]at h|simp only[zY]at h|simp only[yJ]at h|simp only[zT]at h))<;>((refine oO ?_)))|(refine Aq rfl Ap ?_ rfl)|(refine⟨j_,?_⟩;((conv=>whnf)))|(refine⟨by (omega),by (omega),?_⟩;((conv=>whnf)))|(refine⟨by (unfold I64;omega),?_⟩;((conv=>whnf)))|refine A6 [] hI z_ ?_ kU))
 all_goals try (refine zH Aa ?_)
 .exact Ct z_ hI (kS h.symm)
 .intro i hi cy;rcases vR i j with h1|h1
  .exact hI i hi h1
  .have:i=j:=by omega
   subst this;simpa using Ne.symm h
 .exact Df (λi hi=>hI i hi z_)
def D3(l:List Int)(x:Int)(hl:An l):Sp 115 [.sl 1 Aa l,Aa x] (Ab (inB l x)):=cT F115 ntmps115 λF hF=>by
 conv=>whnf
 (repeat' (first|(refine Aq rfl Ap ?_ rfl)|(refine c0 (Ay3 _ _ hl) F146 ?_;((refine oO ?_)))))
 exact zH Ab (Iz _ _).symm
def Cz(p:Port)(v:Int):Bool:=v != 0&&(v==p.native||inB p.tagged v)
def aD(p:Port)(v:Int)(hl:An p.tagged):Sp 150 [Bd p,Aa v] (Ab (Cz p v)):=cT F150 ntmps150 λF hF=>by
 conv=>whnf
 (repeat' (first|(refine⟨λh=>?_,λh=>?_⟩<;>(repeat (first|simp only[yJ]at h|simp only[zT]at h|simp only[xC]at h|simp only[bne_eq_false_iff_eq]at h))<;>((refine oO ?_)))|(refine Aq rfl Ap ?_ rfl)|(refine c0 (D3 _ _ hl) F115 ?_;((refine oO ?_)))))
 all_goals (refine zH Ab ?_)
 all_goals grind [Cz]
def Xr(l:List Int)(fy a7:Int)(i:Nat)(x:Int):Bool:=decide (fy<=x)&&decide (x<=a7)&&(i==0||decide (nth l ((i:Int)-1)<x))
def Jv(l:List Int)(fy a7:Int):Bool:=decide (0<l.length)&&decide (l.length<=16)&&H9 (Xr l fy a7) l
def oW(l:List Int)(fy a7:Int)(hl:An l):Sp 151 [.sl 1 Aa l,Aa fy,Aa a7] (Ab (Jv l fy a7)):=cT F151 ntmps151 λF hF=>by
 unfold An at hl
 conv=>whnf
 refine A7 l.length (λj=>Ek (Xr l fy a7) l j) (λj=>[(0,.sl 1 Aa l),(1,Aa fy),(2,Aa a7),(9,.sl 1 Aa l),(10,Aa l.length),(11,Aa j)]) (λ_=>[]) [] (Bh _ _) kU ?_;intro j hj hI;refine oO ?_
 (repeat' (first|(refine⟨λh=>?_,λh=>?_⟩<;>(repeat (first|simp only[zJ]at h|simp only[zY]at h))<;>((refine oO ?_);repeat((first|refine aF ?_|refine aT ?_);(refine oO ?_))))|(refine Aq rfl Ap ?_ rfl)|(refine⟨j_,?_⟩;((conv=>whnf)))|(refine⟨by (first|(unfold I64;omega)|omega),by (omega),?_⟩;((conv=>whnf)))|(refine⟨by (unfold I64;omega),?_⟩;((conv=>whnf)))|refine A6 [] hI z_ ?_ kU))
 all_goals try (refine zH Ab ?_)
 all_goals try simp only[yE,Int.pred_toNat]at *
 .rw[Jv,Dd (i:=j) z_ (by simp[Xr];omega)];simp
 .rw[Jv,Dd (i:=j) z_ (by simp[Xr];omega)];simp
 .rw[Jv,Dd (i:=j) z_ (by simp only[Xr,Ag (show ((j:Int)-1).toNat<l.length by omega),Int.pred_toNat,yE];simp;omega)];simp
 .exact Bc hI z_ (by simp only[Xr,Ag (show ((j:Int)-1).toNat<l.length by omega),Int.pred_toNat,yE];simp;omega)
 .exact Bc hI z_ (by simp[Xr];omega)
 .rw[Jv,Hc hI z_,wO];simp;omega
 .rw[Jv];simp;omega
def Af7(l:List Int)(a7:Int)(hl:An l):Sp 88 [.sl 1 Aa l,Aa a7] (Ab (decide (l.length=0)||Jv l 1 a7)):=cT F88 ntmps88 λF hF=>by
 conv=>whnf
 (repeat' (first|(refine⟨λh=>?_,λh=>?_⟩<;>(repeat (first|simp only[yJ]at h|simp only[zT]at h))<;>((refine oO ?_)))|(refine Aq rfl Ap ?_ rfl)|(refine c0 (oW l 1 a7 hl) F151 ?_;((refine oO ?_)))))
 all_goals (refine zH Ab ?_)
 all_goals grind
def Iw{K:List Nat}:∀(a b:List SV),B7 K (a++b)=(B7 K a&&B7 K b)
 |[],b=>by simp[B7]
 |x::a,b=>by simp[B7,Iw a b,Bool.and_assoc]
def C6{f:FuncId}{first cap xs:List SV}(hc:(SV.clo (.func f) first cap).inn []=true)(hx:B7 [] xs=true):B7 [] (first++xs++cap)=true:=by
 simp only[SV.inn,zG]at hc;rw[Iw,Iw,hc.1,hc.2,hx];rfl
theorem iD{A0:Type}(v0:A0->SV)(z0:Nat){f0 m0:Nat}{g0:Func}(F0:fT f0 g0)(n0:g0.ntmps=m0)(h:let A0:Type:=A0;let v0:A0->SV:=v0;let z0:=z0;fT f0 g0->g0.ntmps=m0->∀ (l:List A0) (p:A0->Bool) (f:FuncId) (first cap:List SV) (hc:(SV.clo (.func f) first cap).inn []=true) (hf:∀ x∈l,E4 prog f (first++[v0 x]++cap) (Ab (p x))) (hl:An l),Sp f0 [.sl z0 v0 l,.clo (.func f) first cap] (Aa (Bs p l)):=by
 intro A0 v0 z0 F0 n0 l p f first cap hc hf hl
 refine cT F0 n0 λF hF=>?_
 unfold An at hl;have az:∀x:A0,B7 [] (first++[v0 x]++cap)=true:=λx=>C6 hc rfl
 conv=>whnf
 refine A7 l.length (λj=>Ek (λ_ x=>!(p x)) l j) (λj=>[(0,.sl z0 v0 l),(1,.clo (.func f) first cap),(7,Aa l.length),(8,Aa j)]) (λ_=>[]) [] (Bh _ _) ⟨⟨E,E,Be _,hc,E,E,E,E,q_⟩,q_,E,E⟩ ?_;intro j hj hI;refine gH ?_ ?_<;>intro h
 .have h:=zO h;have cn:j<l.length:=by omega
  refine oO ?_;refine⟨E,by omega,by omega,?_⟩
  conv=>whnf
  refine D4 (hf l[j] (zI cn)) E E E (by simp only[az];rfl) E E ?_;refine oO ?_;constructor<;>intro h2
  .refine oO ?_;refine Aq E Ap (zH Aa ?_) E;exact Ct cn (λi hi cy=>kS (hI i hi cy)) h2
  .refine gF ?_;exact A6 [] hI cn (Bc hI cn (by simp[h2])) ⟨⟨E,E,Be _,hc,E,E,E,E,q_⟩,q_,E,E⟩
 .have h:=zQ h;refine oO ?_;refine Aq E Ap (zH Aa ?_) E;exact Df (λ i hi=>kS (hI i hi z_))):∀ (l:List A0) (p:A0->Bool) (f:FuncId) (first cap:List SV) (hc:(SV.clo (.func f) first cap).inn []=true) (hf:∀ x∈l,E4 prog f (first++[v0 x]++cap) (Ab (p x))) (hl:An l),Sp f0 [.sl z0 v0 l,.clo (.func f) first cap] (Aa (Bs p l)):=h F0 n0
def Ey:=iD At 6 F222 ntmps222
def Uj:=iD Bd 7 F225 ntmps225
theorem iB{A0:Type}(v0:A0->SV)(z0:Nat){f0 m0:Nat}{g0:Func}(F0:fT f0 g0)(n0:g0.ntmps=m0)(h:let A0:Type:=A0;let v0:A0->SV:=v0;let z0:=z0;fT f0 g0->g0.ntmps=m0->∀ (l:List A0) (p:Nat->A0->Bool) (f:FuncId) (first cap:List SV) (hc:(SV.clo (.func f) first cap).inn []=true) (hf:∀ i (h:i<l.length),E4 prog f (first++[Aa i,v0 l[i]]++cap) (Ab (p i l[i]))) (hl:An l),Sp f0 [.sl z0 v0 l,.clo (.func f) first cap] (Ab (H9 p l)):=by
 intro A0 v0 z0 F0 n0 l p f first cap hc hf hl
 refine cT F0 n0 λF hF=>?_
 unfold An at hl;have az:∀(i:Nat) (x:A0),B7 [] (first++[Aa i,v0 x]++cap)=true:=λi x=>C6 hc rfl
 conv=>whnf
 refine A7 l.length (λj=>Ek p l j) (λj=>[(0,.sl z0 v0 l),(1,.clo (.func f) first cap),(7,.sl z0 v0 l),(8,Aa l.length),(9,Aa j)]) (λ_=>[]) [] (Bh _ _) ⟨⟨E,E,Be _,hc,E,E,E,E,E,E,q_⟩,q_,E,E⟩ ?_;intro j hj hI;refine gH ?_ ?_<;>intro h
 .have h:=zO h;have cn:j<l.length:=by omega
  refine oO ?_;refine⟨E,by omega,by omega,?_⟩
  conv=>whnf
  refine D4 (hf j cn) E E E (by simp only[az];rfl) E E ?_;refine oO ?_;constructor<;>intro h2
  .refine oO ?_;refine Aq E Ap (zH Ab ?_) E;exact Dd cn (kS h2)
  .refine gF ?_;exact A6 [] hI cn (Bc hI cn (kS h2)) ⟨⟨E,E,Be _,hc,E,E,E,E,E,E,q_⟩,q_,E,E⟩
 .have h:=zQ h;refine oO ?_;refine Aq E Ap (zH Ab ?_) E;exact Hc hI z_):∀ (l:List A0) (p:Nat->A0->Bool) (f:FuncId) (first cap:List SV) (hc:(SV.clo (.func f) first cap).inn []=true) (hf:∀ i (h:i<l.length),E4 prog f (first++[Aa i,v0 l[i]]++cap) (Ab (p i l[i]))) (hl:An l),Sp f0 [.sl z0 v0 l,.clo (.func f) first cap] (Ab (H9 p l)):=h F0 n0
def Avb:=iB Bd 7 F77 ntmps77
def Avc:=iB Co 3 F79 ntmps79
def fK:=iB At 6 F74 ntmps74
def Alv:=iB Bb 4 F81 ntmps81
def Ap6:=iB Bm 4 F83 ntmps83
def A0g:=iB Cu 5 F86 ntmps86
def A0h:=iB Cr 5 F89 ntmps89
def A0f:=iB Aa 1 F143 ntmps143
structure Net.Fin(n:Net):Prop where
 devices:An n.devices
 ports:An n.ports
 links:An n.links
 domains:An n.domains
 statics:An n.statics
 floods:An n.floods
 vrfs:An n.vrfs
 irbs:An n.irbs
 tagged:∀p∈n.ports,An p.tagged
 peers:∀d∈n.domains,An d.peers
 addrs:∀f∈n.floods,An f.addrs
 imports:∀v∈n.vrfs,An v.imports
 exports:∀v∈n.vrfs,An v.exports
def Da(n:Net)(dev vlan:Int):Int:=Bs (λd=>d.dev==dev&&d.vlan==vlan) n.domains
def A2h(dev vlan:Int)(d:Domain):Sp 223 [At d,.ref 1 (Aa dev) 0,.ref 1 (Aa vlan) 0] (Ab (d.dev==dev&&d.vlan==vlan)):=cT F223 ntmps223 λF hF=>by
 conv=>whnf
 (repeat' (first|(refine⟨λh=>?_,λh=>?_⟩<;>(repeat (first|simp only[yJ]at h|simp only[zT]at h))<;>((refine oO ?_)))|(refine Aq rfl Ap ?_ rfl)))
 all_goals (refine zH Ab ?_)
 all_goals simp_all
def Tx(n:Net)(dev vlan:Int)(hl:An n.domains):Sp 142 [Am n,Aa dev,Aa vlan] (Aa (Da n dev vlan)):=cT F142 ntmps142 λF hF=>by
 conv=>whnf
 refine Ba 4 1 (Aa dev) E E E (Ba 5 1 (Aa vlan) E E E ?_);refine gE (Ey n.domains (λd=>d.dev==dev&&d.vlan==vlan) 223 [] [.ref 1 (Aa dev) 0,.ref 1 (Aa vlan) 0] E (λd _=>⟨⟨_,_,F223⟩,A2h dev vlan d⟩) hl) F222 ?_;exact dN
def Ac4(n:Net):Bool:=decide (n.devices.length<=8)&&decide (n.ports.length<=40)&&decide (n.links.length<=20)&&decide (n.domains.length<=48)&&decide (n.statics.length<=64)&&decide (n.floods.length<=48)&&decide (n.vrfs.length<=16)&&decide (n.irbs.length<=48)
def fewS(n:Net):Sp 73 [Am n] (Ab (Ac4 n)):=cT F73 ntmps73 λF hF=>by
 conv=>whnf
 (repeat' (first|(refine⟨λh=>?_,λh=>?_⟩<;>(repeat (first|simp only[zJ]at h|simp only[zY]at h))<;>((refine oO ?_);repeat((refine aF ?_);(refine oO ?_))))|(refine Aq rfl Ap ?_ rfl)))
 all_goals (refine zH Ab ?_)
 all_goals (unfold Ac4;rw[wO];simp;omega)
def Ov(n:Net)(i:Nat)(d:Domain):Bool :=
 Af d.dev n.devices.length&&decide (1<=d.vlan)&&decide (d.vlan<=4094)&&decide (0<=d.vni)&&decide (d.vni<=16777215)&&(d.irb == -1||Af d.irb n.irbs.length&&(nth n.irbs d.irb).domain==i)&&Da n d.dev d.vlan==i
def bareS(n:Net)(i:Nat)(d:Domain)(hl:An n.domains):Sp 75 [Am n,Aa i,At d] (Ab (Ov n i d)):=cT F75 ntmps75 λF hF=>by
 conv=>whnf
 (repeat' (first|(refine⟨λh=>?_,λh=>?_⟩<;>(repeat (first|simp only[Af]at h|simp only[zJ]at h|simp only[zY]at h|simp only[yJ]at h|simp only[zT]at h|simp only[zG]at h|simp only[yW]at h))<;>((refine oO ?_);repeat((first|refine aF ?_|refine aT ?_);(refine oO ?_))))|(refine Aq rfl Ap ?_ rfl)|(refine⟨j_,?_⟩;((conv=>whnf)))|(refine⟨by (omega),by (omega),?_⟩;((conv=>whnf)))|(refine c0 (Jk 5 A4 n.devices d.dev) F85 ?_;((refine oO ?_)))|(refine c0 (Anw 5 Cr n.irbs d.irb) F141 ?_;((refine oO ?_)))|(refine c0 (Tx n d.dev d.vlan hl) F142 ?_;((refine oO ?_)))))
 all_goals (refine zH Ab ?_)
 all_goals (clear hF;grind [Ov,Af,Ag])
def Md(n:Net)(d:Domain):Bool:=(nth n.devices d.dev).vtep != 0
def A23(n:Net)(d:Domain)(hd:Af d.dev n.devices.length=true):Sp 224 [Am n,At d] (Ab (Md n d)):=cT F224 ntmps224 λF hF=>by
 simp only[Af,zG,zJ]at hd
 conv=>whnf
 (repeat' (first|(refine Aq rfl Ap ?_ rfl)|(refine⟨j_,?_⟩;((conv=>whnf)))|(refine⟨by (omega),by (omega),?_⟩;((conv=>whnf)))))
 all_goals (refine zH Ab ?_)
 all_goals (clear hF;grind [Md,Ag])
def Sc(n:Net)(i:Nat)(d:Domain)(k:Int):Bool :=
 Af k n.domains.length&&k != i&&Af (nth n.domains k).dev n.devices.length&&(nth n.domains k).dev != d.dev&&(nth n.domains k).vni==d.vni&&d.vni != 0&&Md n (nth n.domains k)&&Md n d&&inB (nth n.domains k).peers i
def peerS(n:Net)(i:Nat)(d:Domain)(k:Int)(hn:n.Fin)(hd:Af d.dev n.devices.length=true):Sp 145 [Am n,Aa i,At d,Aa k] (Ab (Sc n i d k)):=cT F145 ntmps145 λF hF=>by
 conv=>whnf
 (repeat' (first|(refine⟨λh=>?_,λh=>?_⟩<;>(repeat (first|simp only[Af]at h|simp only[zJ]at h|simp only[zY]at h|simp only[yJ]at h|simp only[zT]at h|simp only[xC]at h|simp only[bne_eq_false_iff_eq]at h|simp only[zG]at h|simp only[yW]at h|simp only[xB]at h|simp only[wZ]at h))<;>((refine oO ?_);repeat((first|refine aF ?_|refine aT ?_);(refine oO ?_))))|(refine Aq rfl Ap ?_ rfl)|(refine⟨j_,?_⟩;((conv=>whnf)))|(refine⟨by (omega),by (omega),?_⟩;((conv=>whnf)))|(refine c0 (Lo 6 At n.domains k) F149 ?_;((refine oO ?_)))|(refine c0 (Jk 5 A4 n.devices (n.domains[k.toNat]'z_).dev) F85 ?_;((refine oO ?_)))|(refine c0 (A23 n (n.domains[k.toNat]'z_) (by simp only[Af,zG,zJ];omega)) F224 ?_;((refine oO ?_)))|(refine c0 (A23 n d hd) F224 ?_;((refine oO ?_)))|(refine c0 (D3 (n.domains[k.toNat]'z_).peers i (hn.peers _ (zI _))) F115 ?_;((refine oO ?_)))))
 all_goals (refine zH Ab ?_;clear hF;grind [Sc,Af,Ag])
def Qs(n:Net)(i:Nat)(d:Domain):Bool:=H9 (λat_ k=>Sc n i d k&&Bs (·==k) d.peers==at_) d.peers
def peers1(n:Net)(i:Nat)(d:Domain)(at_:Nat)(k:Int)(hn:n.Fin)(hp:An d.peers)(hd:Af d.dev n.devices.length=true):Sp 144 [Aa at_,Aa k,.ref 8 (Am n) 0,.ref 1 (Aa i) 0,.ref 6 (At d) 0] (Ab (Sc n i d k&&Bs (·==k) d.peers==at_)):=cT F144 ntmps144 λF hF=>by
 conv=>whnf
 (repeat' (first|(refine⟨λh=>?_,λh=>?_⟩<;>((refine oO ?_)))|(refine Aq rfl Ap ?_ rfl)|(refine c0 (peerS n i d k hn hd) F145 ?_;((refine oO ?_)))|(refine c0 (Ay3 d.peers k hp) F146 ?_;((refine oO ?_)))))
 all_goals (refine zH Ab ?_;clear hF;grind)
def peersS(n:Net)(i:Nat)(d:Domain)(hn:n.Fin)(hp:An d.peers)(hd:Af d.dev n.devices.length=true):Sp 76 [Am n,Aa i,At d] (Ab (Qs n i d)):=cT F76 ntmps76 λF hF=>by
 conv=>whnf
 refine Ba 3 8 (Am n) E E E ?_;refine Ba 4 1 (Aa i) E E E (Ba 5 6 (At d) E E E ?_);refine gE (A0f d.peers (λat_ k=>Sc n i d k&&Bs (·==k) d.peers==at_) 144 [] [.ref 8 (Am n) 0,.ref 1 (Aa i) 0,.ref 6 (At d) 0] E (λa ha=>⟨⟨_,_,F144⟩,peers1 n i d a d.peers[a] hn hp hd⟩) hp) F143 ?_;exact dN
def Ec(n:Net)(dev vlan:Int):Bool:=decide (0<=Da n dev vlan)
def J7(n:Net)(i:Nat)(p:Port):Bool :=
 Af p.dev n.devices.length&&decide (0<=p.native)&&decide (p.native<=4094)&&(decide (p.tagged.length=0)||Jv p.tagged 1 4094)&&!inB p.tagged p.native&&!(p.native==0&&decide (p.tagged.length=0)) &&
  H9 (λ_ v=>Ec n p.dev v) p.tagged&&!(decide (0<p.native)&&!Ec n p.dev p.native) &&
  (p.link == -1||Af p.link n.links.length&&((nth n.links p.link).a==i||(nth n.links p.link).b==i))
def Aox(n:Net)(i:Nat)(p:Port)(hn:n.Fin)(hp:An p.tagged):Sp 78 [Am n,Aa i,Bd p] (Ab (J7 n i p)):=cT F78 ntmps78 λF hF=>by
 conv=>whnf
 (repeat' (first|(refine⟨λh=>?_,λh=>?_⟩<;>(repeat (first|simp only[Af]at h|simp only[zJ]at h|simp only[zY]at h|simp only[yJ]at h|simp only[zT]at h|simp only[zG]at h|simp only[yQ]at h|simp only[yW]at h|simp only[wG]at h|simp only[xB]at h|simp only[wZ]at h))<;>((refine oO ?_);repeat((first|refine aF ?_|refine aT ?_);(refine oO ?_))))|(refine Aq rfl Ap ?_ rfl)|(refine c0 (Jk 5 A4 n.devices p.dev) F85 ?_;((refine oO ?_)))|(refine c0 (Af7 p.tagged 4094 hp) F88 ?_;((refine oO ?_)))|(refine c0 (D3 p.tagged p.native hp) F115 ?_;((refine oO ?_)))))
 all_goals first|(refine zH Ab ?_;clear hF;grind [J7,Af])|skip
 all_goals (
  refine Ba 3 8 (Am n) E E E (Ba 5 7 (Bd p) E E E ?_);refine A7 p.tagged.length (λj=>Ek (λ_ v=>Ec n p.dev v) p.tagged j) (λj=>[(1,Aa i),(3,.ref 8 (Am n) 0),(5,.ref 7 (Bd p) 0),(51,.sl 1 Aa p.tagged),(52,Aa p.tagged.length),(53,Aa j)]) (λ_=>[]) [] (Bh _ _) kU ?_;intro j hj hI;have ky:=hp;unfold An at ky
  (refine fU ?_))
 all_goals (
  (repeat' (first | (refine⟨λ h=>?_,λ h=>?_⟩<;>(repeat (first | simp only[Af]at h | simp only[zJ]at h | simp only[zY]at h | simp only[yJ]at h | simp only[zT]at h | simp only[zG]at h | simp only[yW]at h))<;>((refine oO ?_);repeat((refine aF ?_);(refine oO ?_)))) | (refine Aq rfl Ap ?_ rfl) | (refine⟨j_,?_⟩;((conv=>whnf))) | (refine⟨by (omega),by (omega),?_⟩;((conv=>whnf))) | (refine⟨by (unfold I64;omega),?_⟩;((conv=>whnf))) | (refine c0 (Tx n p.dev (p.tagged[j]'z_) hn.domains) F142 ?_;((refine oO ?_))) | (refine c0 (Tx n p.dev p.native hn.domains) F142 ?_;((refine oO ?_))) | (refine c0 (Ai7 3 Co n.links p.link) F147 ?_;((refine oO ?_))) | refine A6 [] hI z_ ?_ kU)))
 all_goals first
  |exact Bc hI z_ (by simp only[Ec,zJ];omega)
  | (refine zH Ab ?_
     have h0:H9 (λ _ v=>Ec n p.dev v) p.tagged=false:=Dd (i:=j) z_ (by simp only[Ec,zY];omega);clear hF hI;grind [J7])
  | (refine zH Ab ?_
     have h0:H9 (λ _ v=>Ec n p.dev v) p.tagged=true:=Hc hI z_;clear hF hI;grind [J7,Af,Ec,Ag])
def Qb(n:Net)(i:Nat)(l:Link):Bool :=
 Af l.a n.ports.length&&Af l.b n.ports.length&&(nth n.ports l.a).dev != (nth n.ports l.b).dev&&(nth n.ports l.a).link==i&&(nth n.ports l.b).link==i
def Aoy(n:Net)(i:Nat)(l:Link):Sp 80 [Am n,Aa i,Co l] (Ab (Qb n i l)):=cT F80 ntmps80 λF hF=>by
 conv=>whnf
 (repeat' (first|(refine⟨λh=>?_,λh=>?_⟩<;>(repeat (first|simp only[Af]at h|simp only[zJ]at h|simp only[zY]at h|simp only[yJ]at h|simp only[zT]at h|simp only[xC]at h|simp only[bne_eq_false_iff_eq]at h|simp only[zG]at h|simp only[yW]at h|simp only[xB]at h|simp only[wZ]at h))<;>((refine oO ?_);repeat((first|refine aF ?_|refine aT ?_);(refine oO ?_))))|(refine Aq rfl Ap ?_ rfl)|(refine⟨j_,?_⟩;((conv=>whnf)))|(refine⟨by (omega),by (omega),?_⟩;((conv=>whnf)))|(refine c0 (Vg 7 Bd n.ports l.a) F148 ?_;((refine oO ?_)))|(refine c0 (Vg 7 Bd n.ports l.b) F148 ?_;((refine oO ?_)))))
 all_goals (refine zH Ab ?_;clear hF;grind [Qb,Af,Ag])
def Ll(n:Net)(s:Static):Bool :=
 Af s.domain n.domains.length&&Af s.port n.ports.length&&(nth n.ports s.port).dev==(nth n.domains s.domain).dev&&Cz (nth n.ports s.port) (nth n.domains s.domain).vlan
def Ags(n:Net)(i:Nat)(s:Static)(hn:n.Fin):Sp 82 [Am n,Aa i,Bb s] (Ab (Ll n s)):=cT F82 ntmps82 λF hF=>by
 conv=>whnf
 (repeat' (first|(refine⟨λh=>?_,λh=>?_⟩<;>(repeat (first|simp only[Af]at h|simp only[zJ]at h|simp only[zY]at h|simp only[yJ]at h|simp only[zT]at h|simp only[zG]at h|simp only[yW]at h|simp only[xB]at h|simp only[wZ]at h))<;>((refine oO ?_);repeat((refine aT ?_);(refine oO ?_))))|(refine Aq rfl Ap ?_ rfl)|(refine⟨j_,?_⟩;((conv=>whnf)))|(refine⟨by (omega),by (omega),?_⟩;((conv=>whnf)))|(refine c0 (Lo 6 At n.domains s.domain) F149 ?_;((refine oO ?_)))|(refine c0 (Vg 7 Bd n.ports s.port) F148 ?_;((refine oO ?_)))|(refine c0 (aD (n.ports[s.port.toNat]'z_) (n.domains[s.domain.toNat]'z_).vlan (hn.tagged _ (zI _))) F150 ?_;((refine oO ?_)))))
 all_goals (refine zH Ab ?_;clear hF;grind [Ll,Af,Ag])
def Aao(n:Net)(i:Nat)(x:Irb):Bool :=
 Af x.domain n.domains.length&&Af x.vrf n.vrfs.length&&(nth n.domains x.domain).dev==(nth n.vrfs x.vrf).dev&&(nth n.domains x.domain).irb==i&&decide (1<=x.bits)&&decide (x.bits<=30)
def Auf(n:Net)(i:Nat)(x:Irb):Sp 90 [Am n,Aa i,Cr x] (Ab (Aao n i x)):=cT F90 ntmps90 λF hF=>by
 conv=>whnf
 (repeat' (first|(refine⟨λh=>?_,λh=>?_⟩<;>(repeat (first|simp only[Af]at h|simp only[zJ]at h|simp only[zY]at h|simp only[yJ]at h|simp only[zT]at h|simp only[zG]at h|simp only[yW]at h))<;>((refine rd j_ ?_);(conv=>whnf);repeat((refine aF ?_);(refine rd j_ ?_);(conv=>whnf))))|(refine Aq rfl Ap ?_ rfl)|(refine⟨j_,?_⟩;((conv=>whnf)))|(refine⟨by (omega),by (omega),?_⟩;((conv=>whnf)))|(refine cD (Lo 6 At n.domains x.domain) F149 ?_;((refine rd j_ ?_);(conv=>whnf)))|(refine cD (Anv 5 Cu n.vrfs x.vrf) F152 ?_;((refine rd j_ ?_);(conv=>whnf)))))
 all_goals (refine zH Ab ?_;clear hF;grind [Aao,Af,Ag])
def Oo(n:Net)(f:Flood):Bool:=Af f.dev n.devices.length&&decide (f.addrs.length<=16)
def right1(n:Net)(i:Nat)(f:Flood):Sp 84 [Aa i,Bm f,.ref 8 (Am n) 0] (Ab (Oo n f)):=cT F84 ntmps84 λF hF=>by
 conv=>whnf
 (repeat' (first|(refine⟨λh=>?_,λh=>?_⟩<;>(repeat (first|simp only[Af]at h|simp only[zJ]at h|simp only[zY]at h|simp only[zG]at h|simp only[yW]at h))<;>((refine oO ?_)))|(refine Aq rfl Ap ?_ rfl)|(refine c0 (Jk 5 A4 n.devices f.dev) F85 ?_;((refine oO ?_)))))
 all_goals (refine zH Ab ?_;clear hF;grind [Oo,Af])
def U3(l:List Int)(a7:Int):Bool:=decide (l.length=0)||Jv l 1 a7
def Ahv(n:Net)(v:Vrf):Bool:=Af v.dev n.devices.length&&U3 v.imports 65535&&U3 v.exports 65535
def right2(n:Net)(i:Nat)(v:Vrf)(h1:An v.imports)(h2:An v.exports):Sp 87 [Aa i,Cu v,.ref 8 (Am n) 0] (Ab (Ahv n v)):=cT F87 ntmps87 λF hF=>by
 conv=>whnf
 (repeat' (first|(refine⟨λh=>?_,λh=>?_⟩<;>(repeat (first|simp only[Af]at h|simp only[zJ]at h|simp only[zY]at h|simp only[zG]at h|simp only[yQ]at h|simp only[yW]at h|simp only[wG]at h))<;>((refine oO ?_);repeat((refine aF ?_);(refine oO ?_))))|(refine Aq rfl Ap ?_ rfl)|(refine c0 (Jk 5 A4 n.devices v.dev) F85 ?_;((refine oO ?_)))|(refine c0 (Af7 v.imports 65535 h1) F88 ?_;((refine oO ?_)))|(refine c0 (Af7 v.exports 65535 h2) F88 ?_;((refine oO ?_)))))
 all_goals (refine zH Ab ?_;clear hF;grind [Ahv,U3,Af])
def Ac(n:Net):Bool :=
 Ac4 n&&H9 (Ov n) n.domains&&H9 (Qs n) n.domains&&H9 (J7 n) n.ports&&H9 (Qb n) n.links&&H9 (λ_=>Ll n) n.statics&&H9 (λ_=>Oo n) n.floods&&H9 (λ_=>Ahv n) n.vrfs&&H9 (Aao n) n.irbs
def Alr{n:Net}(h:H9 (Ov n) n.domains=true){i:Nat}(hi:i<n.domains.length):Af n.domains[i].dev n.devices.length=true:=by
 have:=allB_iff.1 h i hi;simp only[Ov,zG]at this;exact this.1.1.1.1.1.1
def A0(n:Net)(hn:n.Fin):Sp 39 [Am n] (Ab (Ac n)):=cT F39 ntmps39 λF hF=>by
 conv=>whnf
 refine Ba 1 8 (Am n) E E E ?_
 (repeat' (first|(refine⟨λh=>?_,λh=>?_⟩<;>((refine oO ?_);repeat((refine aF ?_);(refine oO ?_))))|(refine Aq rfl Ap ?_ rfl)|(refine c0 (fewS n) F73 ?_;((refine oO ?_)))|(refine c0 (fK n.domains (Ov n) 75 [Am n] [] rfl (λi h=>⟨⟨_,_,F75⟩,bareS n i n.domains[i] hn.domains⟩) hn.domains) F74 ?_;((refine oO ?_)))|(refine Mh (fK n.domains (Qs n) 76 [Am n] [] rfl (λi h=>⟨⟨_,_,F76⟩,peersS n i n.domains[i] hn (hn.peers _ (zI _)) (Alr ‹_› h)⟩) hn.domains) F74 rfl rfl rfl rfl rfl ?_;((refine oO ?_)))|(refine Mh (Avb n.ports (J7 n) 78 [Am n] [] rfl (λi h=>⟨⟨_,_,F78⟩,Aox n i n.ports[i] hn (hn.tagged _ (zI _))⟩) hn.ports) F77 rfl rfl rfl rfl rfl ?_;((refine oO ?_)))|(refine c0 (Avc n.links (Qb n) 80 [Am n] [] rfl (λi h=>⟨⟨_,_,F80⟩,Aoy n i n.links[i]⟩) hn.links) F79 ?_;((refine oO ?_)))|(refine c0 (Alv n.statics (λ_=>Ll n) 82 [Am n] [] rfl (λi h=>⟨⟨_,_,F82⟩,Ags n i n.statics[i] hn⟩) hn.statics) F81 ?_;((refine oO ?_)))|(refine c0 (Ap6 n.floods (λ_=>Oo n) 84 [] [.ref 8 (Am n) 0] rfl (λi h=>⟨⟨_,_,F84⟩,right1 n i n.floods[i]⟩) hn.floods) F83 ?_;((refine oO ?_)))|(refine Mh (A0g n.vrfs (λ_=>Ahv n) 87 [] [.ref 8 (Am n) 0] rfl (λi h=>⟨⟨_,_,F87⟩,right2 n i n.vrfs[i] (hn.imports _ (zI _)) (hn.exports _ (zI _))⟩) hn.vrfs) F86 rfl rfl rfl rfl rfl ?_;((refine oO ?_)))|(refine c0 (A0h n.irbs (Aao n) 90 [Am n] [] rfl (λi h=>⟨⟨_,_,F90⟩,Auf n i n.irbs[i]⟩) hn.irbs) F89 ?_;((refine oO ?_)))))
 all_goals (refine zH Ab ?_)
 all_goals (clear hF;simp_all[Ac])
end Go.Sy.Zaa
namespace Go.Sy
def Al0(C:Cx){b:Type}(I:b->Prop)(L:b->List (Nat×SV))(O:b->Obs)(r:b->Nat)(x:b)(a:Act)(w:World):Prop :=
 ∃x':{y:b // I y},∃k,r x'.1<r x/\St C.F C.n (mkS (L x'.1) (O x'.1)) k a w
def Ci{C:Cx}{k:List KI}{s:SS}{body:Code}{r:Type}(I:r->Prop)(L:r->List (Nat×SV))(O:r->Obs)(m:r->Nat)(x₀:r)(a:List (Nat×Nat))(h0:I x₀)(a6:Sub C s a (L x₀) (O x₀))(h:∀x,I x->G C (.code body::.inv (Al0 C I L O m x)::k) (mkS (L x) (O x))):G C (.code (.loop body)::k) s :=
 Wj (α:={y:r // I y}) (λx=>L x.1) (λx=>O x.1) (λx=>m x.1) ⟨x₀,h0⟩ a a6 (λx=>h x.1 x.2)
def Ay{C:Cx}{k:List KI}{s:SS}{b:Type}{I:b->Prop}{L:b->List (Nat×SV)}{O:b->Obs}{r:b->Nat}{x:b}(x':b)(a:List (Nat×Nat))(h':I x')(hμ:r x'<r x)(a6:Sub C s a (L x') (O x')):G C (.inv (Al0 C I L O r x)::k) s:=λ_ _ _ hs=>⟨⟨x',h'⟩,_,hμ,a6.st hs⟩
def S3{C:Cx}{kk:List KI}{s:SS}(k d:Nat){sz:Nat}{c:Type}{e:c->SV}{l:List c}(h:s.h k=.row sz e l)(hd:s.h d=.fresh)(cm:k≠d)(hg:G C kk ⟨λi=>frz k (.osl d) (s.σ i),upd (λj=>bif Nat.beq j k then .non else Aun k (.osl d) (s.h j)) d (.row sz e l)⟩):G C kk s:=λr a w hs=>by
 have ck:=hs.obj k;rw[h]at ck;have ay:r d=.new:=by have:=hs.obj d;rwa [hd]at this
 have fin:∀r':Ka,(∀j,j≠k->j≠d->r' j=r j)->Step (λj=>j=k\/j=d) r w r' w->Inv r' w->(∀v,Rd r w (.osl k) v->Rd r' w (.osl d) v)->ObOK r' w d (.row sz e l)->den C.P C.B kk .normal a w:=by
  intro r' ag st inv hv ho;refine hg r' a w ⟨hs.defers,hs.size,inv,hs.ctx.step inv st,λj=>Agx st hv _ _ (hs.slot j),λj=>?_⟩;show ObOK r' w j (upd (λj=>bif Nat.beq j k then .non else Aun k (.osl d) (s.h j)) d (.row sz e l) j);by_cases hj:j=d
  .subst hj;rw[B1];exact ho
  .rw[Cv _ _ hj];by_cases cn:j=k
   .subst cn;rw[show Nat.beq j j=true from tK j];trivial
   .rw[show Nat.beq j k=false from by cases hb:Nat.beq j k with|false=>rfl|true=>exact zX (yK hb) cn];have hb:=ObOK.step st (λe=>e.elim cn hj) _ (hs.obj j);have h0:=hs.obj j;show ObOK r' w j (Aun k (.osl d) (s.h j));cases hh:s.h j with
    |box m=>
     rw[hh]at h0 hb;obtain ⟨b,cs,T,fr,e1,e2,e3,e4,e5⟩:=h0;exact⟨b,cs,T,fr,(ag j cn hj).trans e1,e2,e3,e4,K4 st hv m cs e5⟩
    |tbox T m=>
     rw[hh]at h0 hb;obtain ⟨b,cs,fr,e1,e2,e3,e4,e5⟩:=h0;exact⟨b,cs,fr,(ag j cn hj).trans e1,e2,e3,e4,K4 st hv m cs e5⟩
    |fresh=>rw[hh]at hb;exact hb
    |non=>rw[hh]at hb;exact hb
    |row d8 e' l'=>rw[hh]at hb;exact hb
    |lit d8 svs=>rw[hh]at hb;exact hb
    |glob d8 x' g'=>rw[hh]at hb;exact hb
    |pin b' n' d5 d8 e' l'=>rw[hh]at hb;exact hb
    |dat v' d8 e' l'=>rw[hh]at hb;exact hb
    |trow T' m'=>rw[hh]at hb;exact hb
    |rown d8 e' l' i' yc=>
     rw[hh]at h0;obtain ⟨b2,sq,w4,T2,ya,f1,f2,f3,f4,f5,f6,f7,zf,v1,v2,v3,v4⟩:=h0;refine⟨b2,sq,w4,T2,ya,(ag j cn hj).trans f1,f2,f3,f4,f5,λm y hm hy=>?_,f7,zf,v1,v2,K4 st hv yc zf v3,v4⟩;obtain ⟨g0,u,g1,g2⟩:=f6 m y hm hy;exact⟨g0,u,RdD.keep st.keeps _ _ g1,g2⟩
 rcases ck with ⟨h1,rfl⟩|⟨b,cap,cs,T,fr,e1,e2,e3,e4,e5,e6⟩
 .have st:=Ko (Lx hs.inv (some k)) (by show D8 r k .dead d=.new;rw[Cb _ _ (Ne.symm cm)];exact ay) (e:=.nil) (Grew.refl w) (λb hb=>by cases hb);refine fin _ (λj h1 h2=>by rw[Cb _ _ h2];exact Cb _ _ h1) (((J4 (some k)).weaken (λj hj=>.inl (Option.some.inj hj).symm)).trans (st.1.weaken (λj hj=>.inr hj))) st.2 (λv hv=>?_) (.inl ⟨Az _ _ _,E⟩);simp only[Rd,h1]at hv;simp[Rd,Az,hv]
 .obtain ⟨st,inv⟩:=Q4 (n':=l.length) (w':=w) hs.inv e1 ay rfl rfl rfl rfl (λ_ _=>rfl);refine fin _ (λj h1 h2=>by rw[Cb _ _ h2];exact Cb _ _ h1) st inv (λv hv=>?_) (.inr ⟨b,cap,cs,T,fr,Az _ _ _,e2,e3,e4,e5,λi x hx=>?_⟩)
  .simp only[Rd,e1]at hv;simp[Rd,Az,hv]
  .obtain ⟨q1,u,q2,q3⟩:=e6 i x hx;exact⟨q1,u,RdD.keep st.keeps _ _ q2,q3⟩
def O0{C:Cx}{k:List KI}{s:SS}(d:Nat){sz:Nat}{m:Type}(e:m->SV)(l:List m){svs:List SV}(h:s.h d=.lit sz svs)(hl:l.map e=svs)(hg:G C k ⟨s.σ,upd s.h d (.row sz e l)⟩):G C k s:=λr a w hs=>by
 refine hg r a w ⟨hs.defers,hs.size,hs.inv,hs.ctx,hs.slot,λj=>?_⟩;show ObOK r w j (upd s.h d (.row sz e l) j);by_cases hj:j=d
 .subst hj;rw[B1];have ck:=hs.obj j;rw[h]at ck;have hlen:l.length=svs.length:=by rw[<-hl,yZ]
  obtain ⟨b,cap,cs,T,fr,e1,e2,e3,e4,e5,e6⟩:=ck;exact .inr ⟨b,cap,cs,T,fr,by rw[hlen];exact e1,e2,e3,e4,by omega,λi x hx=>by rw[hlen];exact e6 i x (Q6 hl i x hx)⟩
 .rw[Cv _ _ hj];exact hs.obj j
end Go.Sy
