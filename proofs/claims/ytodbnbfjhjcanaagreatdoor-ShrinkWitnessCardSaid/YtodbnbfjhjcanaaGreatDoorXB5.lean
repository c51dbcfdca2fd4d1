/- Parts of a proof. -/
import Derived.Test.YtodbnbfjhjcanaaGreatDoorXB4
set_option maxHeartbeats 4000000
set_option linter.all false
namespace Go.Sy.Zaa
open Go.Proofs Go.Proofs.Tryz
attribute [local irreducible]G DR
set_option maxRecDepth 20000
theorem iI{f0 m0:Nat}{g0:Func}(F0:fT f0 g0)(n0:g0.ntmps=m0)(h:fT f0 g0->g0.ntmps=m0->∀ ⦃k:Type⦄ (sz:Nat) (e:k->SV) (l:List k) (i:Int),Sp f0 [.sl sz e l,Aa i] (Ab (Ag i l.length)):=by
 intro F0 n0 k sz e l i
 refine cT F0 n0 λF hF=>?_
 conv=>whnf
 (repeat' (first|(refine⟨λh=>?_,λh=>?_⟩<;>(repeat (first|simp only[zJ]at h|simp only[yB]at h))<;>((refine oO ?_)))|(refine Ar rfl Aq ?_ rfl)))
 all_goals (refine zH Ab ?_)
 all_goals grind [Ag]):∀ ⦃k:Type⦄ (sz:Nat) (e:k->SV) (l:List k) (i:Int),Sp f0 [.sl sz e l,Aa i] (Ab (Ag i l.length)):=h F0 n0
def Jv:=iI F85 ntmps85
def Aqf:=iI F141 ntmps141
def Alb:=iI F147 ntmps147
def Wa:=iI F148 ntmps148
def L5:=iI F149 ntmps149
def Aqe:=iI F152 ntmps152
def A1x(l:List Int)(x:Int)(hl:An l):Sp 146 [.sl 1 Aa l,Aa x] (Aa (Bs (·==x) l)):=cT F146 ntmps146 λF hF=>by
 unfold An at hl
 conv=>whnf
 refine Ba l.length (λj=>∀i (h:i<l.length),i<j->(l[i]==x)=false) (λj=>[(0,.sl 1 Aa l),(1,Aa x),(7,Aa l.length),(8,Aa j)]) (λ_=>[]) [] (λi h hj=>yA hj q_) kU ?_;intro j hj hI;refine oO ?_
 (repeat' (first|(refine⟨λh=>?_,λh=>?_⟩<;>(repeat (first|simp only[zJ]at h|simp only[yB]at h|simp only[yJ]at h|simp only[zU]at h))<;>((refine oO ?_)))|(refine Ar rfl Aq ?_ rfl)|(refine⟨z_,?_⟩;((conv=>whnf)))|(refine⟨by (omega),by (omega),?_⟩;((conv=>whnf)))|(refine⟨by (unfold I64;omega),?_⟩;((conv=>whnf)))|refine A8 [] hI q_ ?_ kU))
 all_goals try (refine zH Aa ?_)
 .exact Co q_ hI (kS h.symm)
 .intro i hi bu;rcases vZ i j with h1|h1
  .exact hI i hi h1
  .have:i=j:=by omega
   subst this;simpa using Ne.symm h
 .exact Dk (λi hi=>hI i hi q_)
def Ed(l:List Int)(x:Int)(hl:An l):Sp 115 [.sl 1 Aa l,Aa x] (Ab (inB l x)):=cT F115 ntmps115 λF hF=>by
 conv=>whnf
 (repeat' (first|(refine Ar rfl Aq ?_ rfl)|(refine c0 (A1x _ _ hl) F146 ?_;((refine oO ?_)))))
 exact zH Ab (I8 _ _).symm
def Cy(p:Port)(v:Int):Bool:=v != 0&&(v==p.native||inB p.tagged v)
def cE(p:Port)(v:Int)(hl:An p.tagged):Sp 150 [Bb p,Aa v] (Ab (Cy p v)):=cT F150 ntmps150 λF hF=>by
 conv=>whnf
 (repeat' (first|(refine⟨λh=>?_,λh=>?_⟩<;>(repeat (first|simp only[yJ]at h|simp only[zU]at h|simp only[xC]at h|simp only[bne_eq_false_iff_eq]at h))<;>((refine oO ?_)))|(refine Ar rfl Aq ?_ rfl)|(refine c0 (Ed _ _ hl) F115 ?_;((refine oO ?_)))))
 all_goals (refine zH Ab ?_)
 all_goals grind [Cy]
def Yv(l:List Int)(gw a8:Int)(i:Nat)(x:Int):Bool:=decide (gw<=x)&&decide (x<=a8)&&(i==0||decide (nth l ((i:Int)-1)<x))
def J4(l:List Int)(gw a8:Int):Bool:=decide (0<l.length)&&decide (l.length<=16)&&Ik (Yv l gw a8) l
def Ab3(l:List Int)(gw a8:Int)(hl:An l):Sp 151 [.sl 1 Aa l,Aa gw,Aa a8] (Ab (J4 l gw a8)):=cT F151 ntmps151 λF hF=>by
 unfold An at hl
 conv=>whnf
 refine Ba l.length (λj=>El (Yv l gw a8) l j) (λj=>[(0,.sl 1 Aa l),(1,Aa gw),(2,Aa a8),(9,.sl 1 Aa l),(10,Aa l.length),(11,Aa j)]) (λ_=>[]) [] (Bi _ _) kU ?_;intro j hj hI;refine oO ?_
 (repeat' (first|(refine⟨λh=>?_,λh=>?_⟩<;>(repeat (first|simp only[zJ]at h|simp only[yB]at h))<;>((refine oO ?_);repeat((first|refine aF ?_|refine aT ?_);(refine oO ?_))))|(refine Ar rfl Aq ?_ rfl)|(refine⟨z_,?_⟩;((conv=>whnf)))|(refine⟨by (first|(unfold I64;omega)|omega),by (omega),?_⟩;((conv=>whnf)))|(refine⟨by (unfold I64;omega),?_⟩;((conv=>whnf)))|refine A8 [] hI q_ ?_ kU))
 all_goals try (refine zH Ab ?_)
 all_goals try simp only[zZ,Int.pred_toNat]at *
 .rw[J4,Di (i:=j) q_ (by simp[Yv];omega)];simp
 .rw[J4,Di (i:=j) q_ (by simp[Yv];omega)];simp
 .rw[J4,Di (i:=j) q_ (by simp only[Yv,Ae (show ((j:Int)-1).toNat<l.length by omega),Int.pred_toNat,zZ];simp;omega)];simp
 .exact Bd hI q_ (by simp only[Yv,Ae (show ((j:Int)-1).toNat<l.length by omega),Int.pred_toNat,zZ];simp;omega)
 .exact Bd hI q_ (by simp[Yv];omega)
 .rw[J4,Hn hI q_,wP];simp;omega
 .rw[J4];simp;omega
def Ah7(l:List Int)(a8:Int)(hl:An l):Sp 88 [.sl 1 Aa l,Aa a8] (Ab (decide (l.length=0)||J4 l 1 a8)):=cT F88 ntmps88 λF hF=>by
 conv=>whnf
 (repeat' (first|(refine⟨λh=>?_,λh=>?_⟩<;>(repeat (first|simp only[yJ]at h|simp only[zU]at h))<;>((refine oO ?_)))|(refine Ar rfl Aq ?_ rfl)|(refine c0 (Ab3 l 1 a8 hl) F151 ?_;((refine oO ?_)))))
 all_goals (refine zH Ab ?_)
 all_goals grind
def I7{K:List Nat}:∀(a b:List SV),B7 K (a++b)=(B7 K a&&B7 K b)
 |[],b=>by simp[B7]
 |x::a,b=>by simp[B7,I7 a b,Bool.and_assoc]
def Db{f:FuncId}{first cap xs:List SV}(hc:(SV.clo (.func f) first cap).inn []=true)(hx:B7 [] xs=true):B7 [] (first++xs++cap)=true:=by
 simp only[SV.inn,zG]at hc;rw[I7,I7,hc.1,hc.2,hx];rfl
theorem iD{A0:Type}(v0:A0->SV)(z0:Nat){f0 m0:Nat}{g0:Func}(F0:fT f0 g0)(n0:g0.ntmps=m0)(h:let A0:Type:=A0;let v0:A0->SV:=v0;let z0:=z0;fT f0 g0->g0.ntmps=m0->∀ (l:List A0) (p:A0->Bool) (f:FuncId) (first cap:List SV) (hc:(SV.clo (.func f) first cap).inn []=true) (hf:∀ x∈l,Hg prog f (first++[v0 x]++cap) (Ab (p x))) (hl:An l),Sp f0 [.sl z0 v0 l,.clo (.func f) first cap] (Aa (Bs p l)):=by
 intro A0 v0 z0 F0 n0 l p f first cap hc hf hl
 refine cT F0 n0 λF hF=>?_
 unfold An at hl;have a6:∀x:A0,B7 [] (first++[v0 x]++cap)=true:=λx=>Db hc rfl
 conv=>whnf
 refine Ba l.length (λj=>El (λ_ x=>!(p x)) l j) (λj=>[(0,.sl z0 v0 l),(1,.clo (.func f) first cap),(7,Aa l.length),(8,Aa j)]) (λ_=>[]) [] (Bi _ _) ⟨⟨E,E,Bh _,hc,E,E,E,E,Y⟩,Y,E,E⟩ ?_;intro j hj hI;refine gH ?_ ?_<;>intro h
 .have h:=zO h;have cn:j<l.length:=by omega
  refine oO ?_;refine⟨E,by omega,by omega,?_⟩
  conv=>whnf
  refine Ek (hf l[j] (zI cn)) E E E (by simp only[a6];rfl) E E ?_;refine oO ?_;constructor<;>intro h2
  .refine oO ?_;refine Ar E Aq (zH Aa ?_) E;exact Co cn (λi hi bu=>kS (hI i hi bu)) h2
  .refine gF ?_;exact A8 [] hI cn (Bd hI cn (by simp[h2])) ⟨⟨E,E,Bh _,hc,E,E,E,E,Y⟩,Y,E,E⟩
 .have h:=zT h;refine oO ?_;refine Ar E Aq (zH Aa ?_) E;exact Dk (λ i hi=>kS (hI i hi q_))):∀ (l:List A0) (p:A0->Bool) (f:FuncId) (first cap:List SV) (hc:(SV.clo (.func f) first cap).inn []=true) (hf:∀ x∈l,Hg prog f (first++[v0 x]++cap) (Ab (p x))) (hl:An l),Sp f0 [.sl z0 v0 l,.clo (.func f) first cap] (Aa (Bs p l)):=h F0 n0
def E9:=iD At 6 F222 ntmps222
def U8:=iD Bb 7 F225 ntmps225
theorem iB{A0:Type}(v0:A0->SV)(z0:Nat){f0 m0:Nat}{g0:Func}(F0:fT f0 g0)(n0:g0.ntmps=m0)(h:let A0:Type:=A0;let v0:A0->SV:=v0;let z0:=z0;fT f0 g0->g0.ntmps=m0->∀ (l:List A0) (p:Nat->A0->Bool) (f:FuncId) (first cap:List SV) (hc:(SV.clo (.func f) first cap).inn []=true) (hf:∀ i (h:i<l.length),Hg prog f (first++[Aa i,v0 l[i]]++cap) (Ab (p i l[i]))) (hl:An l),Sp f0 [.sl z0 v0 l,.clo (.func f) first cap] (Ab (Ik p l)):=by
 intro A0 v0 z0 F0 n0 l p f first cap hc hf hl
 refine cT F0 n0 λF hF=>?_
 unfold An at hl;have a6:∀(i:Nat) (x:A0),B7 [] (first++[Aa i,v0 x]++cap)=true:=λi x=>Db hc rfl
 conv=>whnf
 refine Ba l.length (λj=>El p l j) (λj=>[(0,.sl z0 v0 l),(1,.clo (.func f) first cap),(7,.sl z0 v0 l),(8,Aa l.length),(9,Aa j)]) (λ_=>[]) [] (Bi _ _) ⟨⟨E,E,Bh _,hc,E,E,E,E,E,E,Y⟩,Y,E,E⟩ ?_;intro j hj hI;refine gH ?_ ?_<;>intro h
 .have h:=zO h;have cn:j<l.length:=by omega
  refine oO ?_;refine⟨E,by omega,by omega,?_⟩
  conv=>whnf
  refine Ek (hf j cn) E E E (by simp only[a6];rfl) E E ?_;refine oO ?_;constructor<;>intro h2
  .refine oO ?_;refine Ar E Aq (zH Ab ?_) E;exact Di cn (kS h2)
  .refine gF ?_;exact A8 [] hI cn (Bd hI cn (kS h2)) ⟨⟨E,E,Bh _,hc,E,E,E,E,E,E,Y⟩,Y,E,E⟩
 .have h:=zT h;refine oO ?_;refine Ar E Aq (zH Ab ?_) E;exact Hn hI q_):∀ (l:List A0) (p:Nat->A0->Bool) (f:FuncId) (first cap:List SV) (hc:(SV.clo (.func f) first cap).inn []=true) (hf:∀ i (h:i<l.length),Hg prog f (first++[Aa i,v0 l[i]]++cap) (Ab (p i l[i]))) (hl:An l),Sp f0 [.sl z0 v0 l,.clo (.func f) first cap] (Ab (Ik p l)):=h F0 n0
def Aya:=iB Bb 7 F77 ntmps77
def Ayb:=iB Ck 3 F79 ntmps79
def oE:=iB At 6 F74 ntmps74
def An9:=iB Bc 4 F81 ntmps81
def Asr:=iB Bn 4 F83 ntmps83
def A3d:=iB Ct 5 F86 ntmps86
def A3e:=iB Cq 5 F89 ntmps89
def A3c:=iB Aa 1 F143 ntmps143
structure Net.Fin(n:Net):Prop where
 devices:An n.devices
 ports:An n.ports
 links:An n.links
 domains:An n.domains
 statics:An n.statics
 floods:An n.floods
 vrfs:An n.vrfs
 irbs:An n.irbs
 tagged:∀p∈n.ports,An p.tagged
 peers:∀d∈n.domains,An d.peers
 addrs:∀f∈n.floods,An f.addrs
 imports:∀v∈n.vrfs,An v.imports
 exports:∀v∈n.vrfs,An v.exports
def C8(n:Net)(dev vlan:Int):Int:=Bs (λd=>d.dev==dev&&d.vlan==vlan) n.domains
def A5d(dev vlan:Int)(d:Domain):Sp 223 [At d,.ref 1 (Aa dev) 0,.ref 1 (Aa vlan) 0] (Ab (d.dev==dev&&d.vlan==vlan)):=cT F223 ntmps223 λF hF=>by
 conv=>whnf
 (repeat' (first|(refine⟨λh=>?_,λh=>?_⟩<;>(repeat (first|simp only[yJ]at h|simp only[zU]at h))<;>((refine oO ?_)))|(refine Ar rfl Aq ?_ rfl)))
 all_goals (refine zH Ab ?_)
 all_goals simp_all
def Um(n:Net)(dev vlan:Int)(hl:An n.domains):Sp 142 [Am n,Aa dev,Aa vlan] (Aa (C8 n dev vlan)):=cT F142 ntmps142 λF hF=>by
 conv=>whnf
 refine Bf 4 1 (Aa dev) E E E (Bf 5 1 (Aa vlan) E E E ?_);refine gE (E9 n.domains (λd=>d.dev==dev&&d.vlan==vlan) 223 [] [.ref 1 (Aa dev) 0,.ref 1 (Aa vlan) 0] E (λd _=>⟨⟨_,_,F223⟩,A5d dev vlan d⟩) hl) F222 ?_;exact dN
def Ae9(n:Net):Bool:=decide (n.devices.length<=8)&&decide (n.ports.length<=40)&&decide (n.links.length<=20)&&decide (n.domains.length<=48)&&decide (n.statics.length<=64)&&decide (n.floods.length<=48)&&decide (n.vrfs.length<=16)&&decide (n.irbs.length<=48)
def fewS(n:Net):Sp 73 [Am n] (Ab (Ae9 n)):=cT F73 ntmps73 λF hF=>by
 conv=>whnf
 (repeat' (first|(refine⟨λh=>?_,λh=>?_⟩<;>(repeat (first|simp only[zJ]at h|simp only[yB]at h))<;>((refine oO ?_);repeat((refine aF ?_);(refine oO ?_))))|(refine Ar rfl Aq ?_ rfl)))
 all_goals (refine zH Ab ?_)
 all_goals (unfold Ae9;rw[wP];simp;omega)
def Qo(n:Net)(i:Nat)(d:Domain):Bool :=
 Ag d.dev n.devices.length&&decide (1<=d.vlan)&&decide (d.vlan<=4094)&&decide (0<=d.vni)&&decide (d.vni<=16777215)&&(d.irb == -1||Ag d.irb n.irbs.length&&(nth n.irbs d.irb).domain==i)&&C8 n d.dev d.vlan==i
def bareS(n:Net)(i:Nat)(d:Domain)(hl:An n.domains):Sp 75 [Am n,Aa i,At d] (Ab (Qo n i d)):=cT F75 ntmps75 λF hF=>by
 conv=>whnf
 (repeat' (first|(refine⟨λh=>?_,λh=>?_⟩<;>(repeat (first|simp only[Ag]at h|simp only[zJ]at h|simp only[yB]at h|simp only[yJ]at h|simp only[zU]at h|simp only[zG]at h|simp only[yX]at h))<;>((refine oO ?_);repeat((first|refine aF ?_|refine aT ?_);(refine oO ?_))))|(refine Ar rfl Aq ?_ rfl)|(refine⟨z_,?_⟩;((conv=>whnf)))|(refine⟨by (omega),by (omega),?_⟩;((conv=>whnf)))|(refine c0 (Jv 5 A1 n.devices d.dev) F85 ?_;((refine oO ?_)))|(refine c0 (Aqf 5 Cq n.irbs d.irb) F141 ?_;((refine oO ?_)))|(refine c0 (Um n d.dev d.vlan hl) F142 ?_;((refine oO ?_)))))
 all_goals (refine zH Ab ?_)
 all_goals (clear hF;grind [Qo,Ag,Ae])
def M0(n:Net)(d:Domain):Bool:=(nth n.devices d.dev).vtep != 0
def A51(n:Net)(d:Domain)(hd:Ag d.dev n.devices.length=true):Sp 224 [Am n,At d] (Ab (M0 n d)):=cT F224 ntmps224 λF hF=>by
 simp only[Ag,zG,zJ]at hd
 conv=>whnf
 (repeat' (first|(refine Ar rfl Aq ?_ rfl)|(refine⟨z_,?_⟩;((conv=>whnf)))|(refine⟨by (omega),by (omega),?_⟩;((conv=>whnf)))))
 all_goals (refine zH Ab ?_)
 all_goals (clear hF;grind [M0,Ae])
def S4(n:Net)(i:Nat)(d:Domain)(k:Int):Bool :=
 Ag k n.domains.length&&k != i&&Ag (nth n.domains k).dev n.devices.length&&(nth n.domains k).dev != d.dev&&(nth n.domains k).vni==d.vni&&d.vni != 0&&M0 n (nth n.domains k)&&M0 n d&&inB (nth n.domains k).peers i
def peerS(n:Net)(i:Nat)(d:Domain)(k:Int)(hn:n.Fin)(hd:Ag d.dev n.devices.length=true):Sp 145 [Am n,Aa i,At d,Aa k] (Ab (S4 n i d k)):=cT F145 ntmps145 λF hF=>by
 conv=>whnf
 (repeat' (first|(refine⟨λh=>?_,λh=>?_⟩<;>(repeat (first|simp only[Ag]at h|simp only[zJ]at h|simp only[yB]at h|simp only[yJ]at h|simp only[zU]at h|simp only[xC]at h|simp only[bne_eq_false_iff_eq]at h|simp only[zG]at h|simp only[yX]at h|simp only[yU]at h|simp only[wW]at h))<;>((refine oO ?_);repeat((first|refine aF ?_|refine aT ?_);(refine oO ?_))))|(refine Ar rfl Aq ?_ rfl)|(refine⟨z_,?_⟩;((conv=>whnf)))|(refine⟨by (omega),by (omega),?_⟩;((conv=>whnf)))|(refine c0 (L5 6 At n.domains k) F149 ?_;((refine oO ?_)))|(refine c0 (Jv 5 A1 n.devices (n.domains[k.toNat]'q_).dev) F85 ?_;((refine oO ?_)))|(refine c0 (A51 n (n.domains[k.toNat]'q_) (by simp only[Ag,zG,zJ];omega)) F224 ?_;((refine oO ?_)))|(refine c0 (A51 n d hd) F224 ?_;((refine oO ?_)))|(refine c0 (Ed (n.domains[k.toNat]'q_).peers i (hn.peers _ (zI _))) F115 ?_;((refine oO ?_)))))
 all_goals (refine zH Ab ?_;clear hF;grind [S4,Ag,Ae])
def O3(n:Net)(i:Nat)(d:Domain):Bool:=Ik (λat_ k=>S4 n i d k&&Bs (·==k) d.peers==at_) d.peers
def peers1(n:Net)(i:Nat)(d:Domain)(at_:Nat)(k:Int)(hn:n.Fin)(hp:An d.peers)(hd:Ag d.dev n.devices.length=true):Sp 144 [Aa at_,Aa k,.ref 8 (Am n) 0,.ref 1 (Aa i) 0,.ref 6 (At d) 0] (Ab (S4 n i d k&&Bs (·==k) d.peers==at_)):=cT F144 ntmps144 λF hF=>by
 conv=>whnf
 (repeat' (first|(refine⟨λh=>?_,λh=>?_⟩<;>((refine oO ?_)))|(refine Ar rfl Aq ?_ rfl)|(refine c0 (peerS n i d k hn hd) F145 ?_;((refine oO ?_)))|(refine c0 (A1x d.peers k hp) F146 ?_;((refine oO ?_)))))
 all_goals (refine zH Ab ?_;clear hF;grind)
def peersS(n:Net)(i:Nat)(d:Domain)(hn:n.Fin)(hp:An d.peers)(hd:Ag d.dev n.devices.length=true):Sp 76 [Am n,Aa i,At d] (Ab (O3 n i d)):=cT F76 ntmps76 λF hF=>by
 conv=>whnf
 refine Bf 3 8 (Am n) E E E ?_;refine Bf 4 1 (Aa i) E E E (Bf 5 6 (At d) E E E ?_);refine gE (A3c d.peers (λat_ k=>S4 n i d k&&Bs (·==k) d.peers==at_) 144 [] [.ref 8 (Am n) 0,.ref 1 (Aa i) 0,.ref 6 (At d) 0] E (λa ha=>⟨⟨_,_,F144⟩,peers1 n i d a d.peers[a] hn hp hd⟩) hp) F143 ?_;exact dN
def Es(n:Net)(dev vlan:Int):Bool:=decide (0<=C8 n dev vlan)
def Kj(n:Net)(i:Nat)(p:Port):Bool :=
 Ag p.dev n.devices.length&&decide (0<=p.native)&&decide (p.native<=4094)&&(decide (p.tagged.length=0)||J4 p.tagged 1 4094)&&!inB p.tagged p.native&&!(p.native==0&&decide (p.tagged.length=0)) &&
  Ik (λ_ v=>Es n p.dev v) p.tagged&&!(decide (0<p.native)&&!Es n p.dev p.native) &&
  (p.link == -1||Ag p.link n.links.length&&((nth n.links p.link).a==i||(nth n.links p.link).b==i))
def Arg(n:Net)(i:Nat)(p:Port)(hn:n.Fin)(hp:An p.tagged):Sp 78 [Am n,Aa i,Bb p] (Ab (Kj n i p)):=cT F78 ntmps78 λF hF=>by
 conv=>whnf
 (repeat' (first|(refine⟨λh=>?_,λh=>?_⟩<;>(repeat (first|simp only[Ag]at h|simp only[zJ]at h|simp only[yB]at h|simp only[yJ]at h|simp only[zU]at h|simp only[zG]at h|simp only[yO]at h|simp only[yX]at h|simp only[xX]at h|simp only[yU]at h|simp only[wW]at h))<;>((refine oO ?_);repeat((first|refine aF ?_|refine aT ?_);(refine oO ?_))))|(refine Ar rfl Aq ?_ rfl)|(refine c0 (Jv 5 A1 n.devices p.dev) F85 ?_;((refine oO ?_)))|(refine c0 (Ah7 p.tagged 4094 hp) F88 ?_;((refine oO ?_)))|(refine c0 (Ed p.tagged p.native hp) F115 ?_;((refine oO ?_)))))
 all_goals first|(refine zH Ab ?_;clear hF;grind [Kj,Ag])|skip
 all_goals (
  refine Bf 3 8 (Am n) E E E (Bf 5 7 (Bb p) E E E ?_);refine Ba p.tagged.length (λj=>El (λ_ v=>Es n p.dev v) p.tagged j) (λj=>[(1,Aa i),(3,.ref 8 (Am n) 0),(5,.ref 7 (Bb p) 0),(51,.sl 1 Aa p.tagged),(52,Aa p.tagged.length),(53,Aa j)]) (λ_=>[]) [] (Bi _ _) kU ?_;intro j hj hI;have lz:=hp;unfold An at lz
  (refine fU ?_))
 all_goals (
  (repeat' (first | (refine⟨λ h=>?_,λ h=>?_⟩<;>(repeat (first | simp only[Ag]at h | simp only[zJ]at h | simp only[yB]at h | simp only[yJ]at h | simp only[zU]at h | simp only[zG]at h | simp only[yX]at h))<;>((refine oO ?_);repeat((refine aF ?_);(refine oO ?_)))) | (refine Ar rfl Aq ?_ rfl) | (refine⟨z_,?_⟩;((conv=>whnf))) | (refine⟨by (omega),by (omega),?_⟩;((conv=>whnf))) | (refine⟨by (unfold I64;omega),?_⟩;((conv=>whnf))) | (refine c0 (Um n p.dev (p.tagged[j]'q_) hn.domains) F142 ?_;((refine oO ?_))) | (refine c0 (Um n p.dev p.native hn.domains) F142 ?_;((refine oO ?_))) | (refine c0 (Alb 3 Ck n.links p.link) F147 ?_;((refine oO ?_))) | refine A8 [] hI q_ ?_ kU)))
 all_goals first
  |exact Bd hI q_ (by simp only[Es,zJ];omega)
  | (refine zH Ab ?_
     have h0:Ik (λ _ v=>Es n p.dev v) p.tagged=false:=Di (i:=j) q_ (by simp only[Es,yB];omega);clear hF hI;grind [Kj])
  | (refine zH Ab ?_
     have h0:Ik (λ _ v=>Es n p.dev v) p.tagged=true:=Hn hI q_;clear hF hI;grind [Kj,Ag,Es,Ae])
def M2(n:Net)(i:Nat)(l:Link):Bool :=
 Ag l.a n.ports.length&&Ag l.b n.ports.length&&(nth n.ports l.a).dev != (nth n.ports l.b).dev&&(nth n.ports l.a).link==i&&(nth n.ports l.b).link==i
def Arh(n:Net)(i:Nat)(l:Link):Sp 80 [Am n,Aa i,Ck l] (Ab (M2 n i l)):=cT F80 ntmps80 λF hF=>by
 conv=>whnf
 (repeat' (first|(refine⟨λh=>?_,λh=>?_⟩<;>(repeat (first|simp only[Ag]at h|simp only[zJ]at h|simp only[yB]at h|simp only[yJ]at h|simp only[zU]at h|simp only[xC]at h|simp only[bne_eq_false_iff_eq]at h|simp only[zG]at h|simp only[yX]at h|simp only[yU]at h|simp only[wW]at h))<;>((refine oO ?_);repeat((first|refine aF ?_|refine aT ?_);(refine oO ?_))))|(refine Ar rfl Aq ?_ rfl)|(refine⟨z_,?_⟩;((conv=>whnf)))|(refine⟨by (omega),by (omega),?_⟩;((conv=>whnf)))|(refine c0 (Wa 7 Bb n.ports l.a) F148 ?_;((refine oO ?_)))|(refine c0 (Wa 7 Bb n.ports l.b) F148 ?_;((refine oO ?_)))))
 all_goals (refine zH Ab ?_;clear hF;grind [M2,Ag,Ae])
def L3(n:Net)(s:Static):Bool :=
 Ag s.domain n.domains.length&&Ag s.port n.ports.length&&(nth n.ports s.port).dev==(nth n.domains s.domain).dev&&Cy (nth n.ports s.port) (nth n.domains s.domain).vlan
def Aiw(n:Net)(i:Nat)(s:Static)(hn:n.Fin):Sp 82 [Am n,Aa i,Bc s] (Ab (L3 n s)):=cT F82 ntmps82 λF hF=>by
 conv=>whnf
 (repeat' (first|(refine⟨λh=>?_,λh=>?_⟩<;>(repeat (first|simp only[Ag]at h|simp only[zJ]at h|simp only[yB]at h|simp only[yJ]at h|simp only[zU]at h|simp only[zG]at h|simp only[yX]at h|simp only[yU]at h|simp only[wW]at h))<;>((refine oO ?_);repeat((refine aT ?_);(refine oO ?_))))|(refine Ar rfl Aq ?_ rfl)|(refine⟨z_,?_⟩;((conv=>whnf)))|(refine⟨by (omega),by (omega),?_⟩;((conv=>whnf)))|(refine c0 (L5 6 At n.domains s.domain) F149 ?_;((refine oO ?_)))|(refine c0 (Wa 7 Bb n.ports s.port) F148 ?_;((refine oO ?_)))|(refine c0 (cE (n.ports[s.port.toNat]'q_) (n.domains[s.domain.toNat]'q_).vlan (hn.tagged _ (zI _))) F150 ?_;((refine oO ?_)))))
 all_goals (refine zH Ab ?_;clear hF;grind [L3,Ag,Ae])
def Aco(n:Net)(i:Nat)(x:Irb):Bool :=
 Ag x.domain n.domains.length&&Ag x.vrf n.vrfs.length&&(nth n.domains x.domain).dev==(nth n.vrfs x.vrf).dev&&(nth n.domains x.domain).irb==i&&decide (1<=x.bits)&&decide (x.bits<=30)
def Aw9(n:Net)(i:Nat)(x:Irb):Sp 90 [Am n,Aa i,Cq x] (Ab (Aco n i x)):=cT F90 ntmps90 λF hF=>by
 conv=>whnf
 (repeat' (first|(refine⟨λh=>?_,λh=>?_⟩<;>(repeat (first|simp only[Ag]at h|simp only[zJ]at h|simp only[yB]at h|simp only[yJ]at h|simp only[zU]at h|simp only[zG]at h|simp only[yX]at h))<;>((refine rd z_ ?_);(conv=>whnf);repeat((refine aF ?_);(refine rd z_ ?_);(conv=>whnf))))|(refine Ar rfl Aq ?_ rfl)|(refine⟨z_,?_⟩;((conv=>whnf)))|(refine⟨by (omega),by (omega),?_⟩;((conv=>whnf)))|(refine cD (L5 6 At n.domains x.domain) F149 ?_;((refine rd z_ ?_);(conv=>whnf)))|(refine cD (Aqe 5 Ct n.vrfs x.vrf) F152 ?_;((refine rd z_ ?_);(conv=>whnf)))))
 all_goals (refine zH Ab ?_;clear hF;grind [Aco,Ag,Ae])
def Qh(n:Net)(f:Flood):Bool:=Ag f.dev n.devices.length&&decide (f.addrs.length<=16)
def right1(n:Net)(i:Nat)(f:Flood):Sp 84 [Aa i,Bn f,.ref 8 (Am n) 0] (Ab (Qh n f)):=cT F84 ntmps84 λF hF=>by
 conv=>whnf
 (repeat' (first|(refine⟨λh=>?_,λh=>?_⟩<;>(repeat (first|simp only[Ag]at h|simp only[zJ]at h|simp only[yB]at h|simp only[zG]at h|simp only[yX]at h))<;>((refine oO ?_)))|(refine Ar rfl Aq ?_ rfl)|(refine c0 (Jv 5 A1 n.devices f.dev) F85 ?_;((refine oO ?_)))))
 all_goals (refine zH Ab ?_;clear hF;grind [Qh,Ag])
def Vy(l:List Int)(a8:Int):Bool:=decide (l.length=0)||J4 l 1 a8
def Aj2(n:Net)(v:Vrf):Bool:=Ag v.dev n.devices.length&&Vy v.imports 65535&&Vy v.exports 65535
def right2(n:Net)(i:Nat)(v:Vrf)(h1:An v.imports)(h2:An v.exports):Sp 87 [Aa i,Ct v,.ref 8 (Am n) 0] (Ab (Aj2 n v)):=cT F87 ntmps87 λF hF=>by
 conv=>whnf
 (repeat' (first|(refine⟨λh=>?_,λh=>?_⟩<;>(repeat (first|simp only[Ag]at h|simp only[zJ]at h|simp only[yB]at h|simp only[zG]at h|simp only[yO]at h|simp only[yX]at h|simp only[xX]at h))<;>((refine oO ?_);repeat((refine aF ?_);(refine oO ?_))))|(refine Ar rfl Aq ?_ rfl)|(refine c0 (Jv 5 A1 n.devices v.dev) F85 ?_;((refine oO ?_)))|(refine c0 (Ah7 v.imports 65535 h1) F88 ?_;((refine oO ?_)))|(refine c0 (Ah7 v.exports 65535 h2) F88 ?_;((refine oO ?_)))))
 all_goals (refine zH Ab ?_;clear hF;grind [Aj2,Vy,Ag])
def Ac(n:Net):Bool :=
 Ae9 n&&Ik (Qo n) n.domains&&Ik (O3 n) n.domains&&Ik (Kj n) n.ports&&Ik (M2 n) n.links&&Ik (λ_=>L3 n) n.statics&&Ik (λ_=>Qh n) n.floods&&Ik (λ_=>Aj2 n) n.vrfs&&Ik (Aco n) n.irbs
def An5{n:Net}(h:Ik (Qo n) n.domains=true){i:Nat}(hi:i<n.domains.length):Ag n.domains[i].dev n.devices.length=true:=by
 have:=allB_iff.1 h i hi;simp only[Qo,zG]at this;exact this.1.1.1.1.1.1
def A2(n:Net)(hn:n.Fin):Sp 39 [Am n] (Ab (Ac n)):=cT F39 ntmps39 λF hF=>by
 conv=>whnf
 refine Bf 1 8 (Am n) E E E ?_
 (repeat' (first|(refine⟨λh=>?_,λh=>?_⟩<;>((refine oO ?_);repeat((refine aF ?_);(refine oO ?_))))|(refine Ar rfl Aq ?_ rfl)|(refine c0 (fewS n) F73 ?_;((refine oO ?_)))|(refine c0 (oE n.domains (Qo n) 75 [Am n] [] rfl (λi h=>⟨⟨_,_,F75⟩,bareS n i n.domains[i] hn.domains⟩) hn.domains) F74 ?_;((refine oO ?_)))|(refine M4 (oE n.domains (O3 n) 76 [Am n] [] rfl (λi h=>⟨⟨_,_,F76⟩,peersS n i n.domains[i] hn (hn.peers _ (zI _)) (An5 ‹_› h)⟩) hn.domains) F74 rfl rfl rfl rfl rfl ?_;((refine oO ?_)))|(refine M4 (Aya n.ports (Kj n) 78 [Am n] [] rfl (λi h=>⟨⟨_,_,F78⟩,Arg n i n.ports[i] hn (hn.tagged _ (zI _))⟩) hn.ports) F77 rfl rfl rfl rfl rfl ?_;((refine oO ?_)))|(refine c0 (Ayb n.links (M2 n) 80 [Am n] [] rfl (λi h=>⟨⟨_,_,F80⟩,Arh n i n.links[i]⟩) hn.links) F79 ?_;((refine oO ?_)))|(refine c0 (An9 n.statics (λ_=>L3 n) 82 [Am n] [] rfl (λi h=>⟨⟨_,_,F82⟩,Aiw n i n.statics[i] hn⟩) hn.statics) F81 ?_;((refine oO ?_)))|(refine c0 (Asr n.floods (λ_=>Qh n) 84 [] [.ref 8 (Am n) 0] rfl (λi h=>⟨⟨_,_,F84⟩,right1 n i n.floods[i]⟩) hn.floods) F83 ?_;((refine oO ?_)))|(refine M4 (A3d n.vrfs (λ_=>Aj2 n) 87 [] [.ref 8 (Am n) 0] rfl (λi h=>⟨⟨_,_,F87⟩,right2 n i n.vrfs[i] (hn.imports _ (zI _)) (hn.exports _ (zI _))⟩) hn.vrfs) F86 rfl rfl rfl rfl rfl ?_;((refine oO ?_)))|(refine c0 (A3e n.irbs (Aco n) 90 [Am n] [] rfl (λi h=>⟨⟨_,_,F90⟩,Aw9 n i n.irbs[i]⟩) hn.irbs) F89 ?_;((refine oO ?_)))))
 all_goals (refine zH Ab ?_)
 all_goals (clear hF;simp_all[Ac])
end Go.Sy.Zaa
namespace Go.Sy
def Aog(C:Cx){b:Type}(I:b->Prop)(L:b->List (Nat×SV))(O:b->Obs)(r:b->Nat)(x:b)(a:Act)(w:World):Prop :=
 ∃x':{y:b // I y},∃k,r x'.1<r x/\St C.F C.n (mkS (L x'.1) (O x'.1)) k a w
def Cd{C:Cx}{k:List KI}{s:SS}{body:Code}{r:Type}(I:r->Prop)(L:r->List (Nat×SV))(O:r->Obs)(m:r->Nat)(x₀:r)(a:List (Nat×Nat))(h0:I x₀)(ar:Sub C s a (L x₀) (O x₀))(h:∀x,I x->G C (.code body::.inv (Aog C I L O m x)::k) (mkS (L x) (O x))):G C (.code (.loop body)::k) s :=
 Xk (α:={y:r // I y}) (λx=>L x.1) (λx=>O x.1) (λx=>m x.1) ⟨x₀,h0⟩ a ar (λx=>h x.1 x.2)
def Ax{C:Cx}{k:List KI}{s:SS}{b:Type}{I:b->Prop}{L:b->List (Nat×SV)}{O:b->Obs}{r:b->Nat}{x:b}(x':b)(a:List (Nat×Nat))(h':I x')(hμ:r x'<r x)(ar:Sub C s a (L x') (O x')):G C (.inv (Aog C I L O r x)::k) s:=λ_ _ _ hs=>⟨⟨x',h'⟩,_,hμ,ar.st hs⟩
def Xj{C:Cx}{kk:List KI}{s:SS}(k d:Nat){sz:Nat}{c:Type}{e:c->SV}{l:List c}(h:s.h k=.row sz e l)(hd:s.h d=.fresh)(ck:k≠d)(hg:G C kk ⟨λi=>frz k (.osl d) (s.σ i),upd (λj=>bif Nat.beq j k then .non else Axl k (.osl d) (s.h j)) d (.row sz e l)⟩):G C kk s:=λr a w hs=>by
 have cq:=hs.obj k;rw[h]at cq;have az:r d=.new:=by have:=hs.obj d;rwa [hd]at this
 have fin:∀r':Ka,(∀j,j≠k->j≠d->r' j=r j)->Step (λj=>j=k\/j=d) r w r' w->Inv r' w->(∀v,Rd r w (.osl k) v->Rd r' w (.osl d) v)->ObOK r' w d (.row sz e l)->den C.P C.B kk .normal a w:=by
  intro r' af st inv hv ho;refine hg r' a w ⟨hs.defers,hs.size,inv,hs.ctx.step inv st,λj=>Ai5 st hv _ _ (hs.slot j),λj=>?_⟩;show ObOK r' w j (upd (λj=>bif Nat.beq j k then .non else Axl k (.osl d) (s.h j)) d (.row sz e l) j);by_cases hj:j=d
  .subst hj;rw[B1];exact ho
  .rw[Cz _ _ hj];by_cases cn:j=k
   .subst cn;rw[show Nat.beq j j=true from tT j];trivial
   .rw[show Nat.beq j k=false from by cases hb:Nat.beq j k with|false=>rfl|true=>exact yA (yK hb) cn];have hb:=ObOK.step st (λe=>e.elim cn hj) _ (hs.obj j);have h0:=hs.obj j;show ObOK r' w j (Axl k (.osl d) (s.h j));cases hh:s.h j with
    |box m=>
     rw[hh]at h0 hb;obtain ⟨b,cs,T,fr,e1,e2,e3,e4,e5⟩:=h0;exact⟨b,cs,T,fr,(af j cn hj).trans e1,e2,e3,e4,Lk st hv m cs e5⟩
    |tbox T m=>
     rw[hh]at h0 hb;obtain ⟨b,cs,fr,e1,e2,e3,e4,e5⟩:=h0;exact⟨b,cs,fr,(af j cn hj).trans e1,e2,e3,e4,Lk st hv m cs e5⟩
    |fresh=>rw[hh]at hb;exact hb
    |non=>rw[hh]at hb;exact hb
    |row d7 e' l'=>rw[hh]at hb;exact hb
    |lit d7 svs=>rw[hh]at hb;exact hb
    |glob d7 x' g'=>rw[hh]at hb;exact hb
    |pin b' n' d6 d7 e' l'=>rw[hh]at hb;exact hb
    |dat v' d7 e' l'=>rw[hh]at hb;exact hb
    |trow T' m'=>rw[hh]at hb;exact hb
    |rown d7 e' l' i' yu=>
     rw[hh]at h0;obtain ⟨b2,ta,xw,T2,yr,f1,f2,f3,f4,f5,f6,f7,us2,v1,v2,v3,v4⟩:=h0;refine⟨b2,ta,xw,T2,yr,(af j cn hj).trans f1,f2,f3,f4,f5,λm y hm hy=>?_,f7,us2,v1,v2,Lk st hv yu us2 v3,v4⟩;obtain ⟨g0,u,g1,g2⟩:=f6 m y hm hy;exact⟨g0,u,RdD.keep st.keeps _ _ g1,g2⟩
 rcases cq with ⟨h1,rfl⟩|⟨b,cap,cs,T,fr,e1,e2,e3,e4,e5,e6⟩
 .have st:=Ky (Mh hs.inv (some k)) (by show Em r k .dead d=.new;rw[Cc _ _ (Ne.symm ck)];exact az) (e:=.nil) (Grew.refl w) (λb hb=>by cases hb);refine fin _ (λj h1 h2=>by rw[Cc _ _ h2];exact Cc _ _ h1) (((Kg (some k)).weaken (λj hj=>.inl (Option.some.inj hj).symm)).trans (st.1.weaken (λj hj=>.inr hj))) st.2 (λv hv=>?_) (.inl ⟨Ay _ _ _,E⟩);simp only[Rd,h1]at hv;simp[Rd,Ay,hv]
 .obtain ⟨st,inv⟩:=Sw (n':=l.length) (w':=w) hs.inv e1 az rfl rfl rfl rfl (λ_ _=>rfl);refine fin _ (λj h1 h2=>by rw[Cc _ _ h2];exact Cc _ _ h1) st inv (λv hv=>?_) (.inr ⟨b,cap,cs,T,fr,Ay _ _ _,e2,e3,e4,e5,λi x hx=>?_⟩)
  .simp only[Rd,e1]at hv;simp[Rd,Ay,hv]
  .obtain ⟨q1,u,q2,q3⟩:=e6 i x hx;exact⟨q1,u,RdD.keep st.keeps _ _ q2,q3⟩
def Jb{C:Cx}{k:List KI}{s:SS}(d:Nat){sz:Nat}{m:Type}(e:m->SV)(l:List m){svs:List SV}(h:s.h d=.lit sz svs)(hl:l.map e=svs)(hg:G C k ⟨s.σ,upd s.h d (.row sz e l)⟩):G C k s:=λr a w hs=>by
 refine hg r a w ⟨hs.defers,hs.size,hs.inv,hs.ctx,hs.slot,λj=>?_⟩;show ObOK r w j (upd s.h d (.row sz e l) j);by_cases hj:j=d
 .subst hj;rw[B1];have cq:=hs.obj j;rw[h]at cq;have hlen:l.length=svs.length:=by rw[<-hl,yW]
  obtain ⟨b,cap,cs,T,fr,e1,e2,e3,e4,e5,e6⟩:=cq;exact .inr ⟨b,cap,cs,T,fr,by rw[hlen];exact e1,e2,e3,e4,by omega,λi x hx=>by rw[hlen];exact e6 i x (Sx hl i x hx)⟩
 .rw[Cz _ _ hj];exact hs.obj j
end Go.Sy
