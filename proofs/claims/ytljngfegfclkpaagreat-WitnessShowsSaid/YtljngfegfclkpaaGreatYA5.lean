/-
  N5 N6 N7 N8 N9 N10 N11 V1 I5 Sy25 Sy26 Sy27 Sy28 Sh E1 E2 A2 E3 E4 Sy29 B0 D1 E36 E37 E5 E6 M12 M13 M14 V2 V3 V4 V5 X1 D2 M1 M2 M15 A1 A3 Sy20 Sy21 A4 R1 R2 A5 R3 R5 R6 A6 R7: parts of a proof, joined by program.
-/
import Derived.Test.YtljngfegfclkpaaGreatYA4
import Derived.Test.YtljngfegfclkpaaGreatYA1
import Derived.ChangeKeysEq
import Derived.Below
import Derived.Lib.Join
import Derived.Lib.Strings
import Derived.Lib.Bytealg
import Derived.RangeFuncNested
import Derived.RangeFuncCalls
import Derived.RangeFuncLeaves
import Derived.Shelf.Abstract
import Derived.Shelf.RegionOpen
import Derived.WalkKit
import Derived.OwnWalkIn
import Derived.TacticsInMore
import Derived.LoopNIn
import Derived.LoopIn
import Derived.Test.YtljngfegfclkpaaGreatProg
import Derived.ProofKit
import Derived.OpenShut
import Derived.Scope
import Derived.Laws.Bits64b
set_option linter.all false
set_option linter.unusedVariables false
set_option linter.unusedSimpArgs false
set_option linter.deprecated false
namespace Go.Sy.YtljngfegfclkpaaGreat
open Go.Proofs
attribute [local irreducible] Go.Sy.G Go.Sy.DR
set_option maxRecDepth 20000
set_option maxHeartbeats 4000000
def D1 (n:Net) (dev vlan:Int):Bool:=decide (0≤Cq n dev vlan)
def Iw (n:Net) (i:Nat) (p:Port):Bool :=
 Af p.dev n.devices.length && decide (0≤p.native) && decide (p.native≤4094) && (decide (p.tagged.length=0) || If p.tagged 1 4094) && !inB p.tagged p.native && !(p.native == 0 && decide (p.tagged.length=0)) &&
  Ha (λ _ v=>D1 n p.dev v) p.tagged && !(decide (0<p.native) && !D1 n p.dev p.native) &&
  (p.link == -1 || Af p.link n.links.length && ((nth n.links p.link).a == i || (nth n.links p.link).b == i))
theorem Ao1 (n:Net) (i:Nat) (p:Port) (hn:n.Fin) (hp:Ak p.tagged):Sp 49 [Aj n,Aa i,Aw p] (Ac (Iw n i p)):=cT F49 Tryz.ntmps49 λ F hF=>by
 conv=>whnf
 (repeat' (first | (refine⟨λ h=>?_,λ h=>?_⟩<;>(repeat (first | simp only[Af]at h | simp only[zG]at h | simp only[zV]at h | simp only[yA]at h | simp only[zO]at h | simp only[zB]at h | simp only[yD]at h | simp only[yT]at h | simp only[xU]at h | simp only[yK]at h | simp only[wC]at h))<;>((refine oO ?_);repeat((first|refine aF ?_|refine aT ?_);(refine oO ?_)))) | (refine Ap rfl (.cons .tmp .nil) ?_ rfl) | (refine c0 (H9 5 Aq n.devices p.dev) F56 ?_;((refine oO ?_))) | (refine c0 (Ahb p.tagged 4094 hp) F59 ?_;((refine oO ?_))) | (refine c0 (Dp p.tagged p.native hp) F21 ?_;((refine oO ?_)))))
 all_goals first | (refine zD Ac ?_;clear hF;grind [Iw,Af]) | skip
 all_goals (
  refine Az 3 8 (Aj n) E E E ?_
  refine Az 5 7 (Aw p) E E E ?_
  refine Bi p.tagged.length (λ j=>Ir (λ _ v=>D1 n p.dev v) p.tagged j) (λ j=>[(1,Aa i),(3,.ref 8 (Aj n) 0),(5,.ref 7 (Aw p) 0),(51,.sl 1 Aa p.tagged),(52,Aa p.tagged.length),(53,Aa j)]) (λ _=>[]) [] (Bp _ _) ⟨⟨E,E,E,E,E,E,E,E,E,E,E,E,Y⟩,Y,E,E⟩ ?_
  intro j hj hI
  have hsh:=hp
  unfold Ak at hsh
  (refine fU ?_))
 all_goals (
  (repeat' (first | (refine⟨λ h=>?_,λ h=>?_⟩<;>(repeat (first | simp only[Af]at h | simp only[zG]at h | simp only[zV]at h | simp only[yA]at h | simp only[zO]at h | simp only[zB]at h | simp only[yT]at h))<;>((refine oO ?_);repeat((refine aF ?_);(refine oO ?_)))) | (refine Ap rfl (.cons .tmp .nil) ?_ rfl) | (refine⟨z_,?_⟩;((conv=>whnf))) | (refine⟨by (omega),by (omega),?_⟩;((conv=>whnf))) | (refine⟨by (unfold I64;omega),?_⟩;((conv=>whnf))) | (refine c0 (O7 n p.dev (p.tagged[j]'q_) hn.domains) F104 ?_;((refine oO ?_))) | (refine c0 (O7 n p.dev p.native hn.domains) F104 ?_;((refine oO ?_))) | (refine c0 (Ake 3 Br n.links p.link) F108 ?_;((refine oO ?_))) | refine Be [] hI q_ ?_ ⟨⟨rfl,rfl,rfl,rfl,rfl,rfl,rfl,rfl,rfl,rfl,rfl,rfl,trivial⟩,trivial,rfl,rfl⟩)))
 all_goals first
  | exact Bj hI q_ (by simp only[D1,zG];omega)
  | (refine zD Ac ?_
     have h0:Ha (λ _ v=>D1 n p.dev v) p.tagged=false:=Cz (i:=j) q_ (by simp only[D1,zV];omega)
     clear hF hI;grind [Iw])
  | (refine zD Ac ?_
     have h0:Ha (λ _ v=>D1 n p.dev v) p.tagged=true:=Eo hI q_
     clear hF hI;grind [Iw,Af,D1,Ae])
def Kx (n:Net) (i:Nat) (l:Link):Bool :=
 Af l.a n.ports.length && Af l.b n.ports.length && (nth n.ports l.a).dev != (nth n.ports l.b).dev && (nth n.ports l.a).link == i && (nth n.ports l.b).link == i
theorem Ao2 (n:Net) (i:Nat) (l:Link):Sp 51 [Aj n,Aa i,Br l] (Ac (Kx n i l)):=cT F51 Tryz.ntmps51 λ F hF=>by
 conv=>whnf
 (repeat' (first | (refine⟨λ h=>?_,λ h=>?_⟩<;>(repeat (first | simp only[Af]at h | simp only[zG]at h | simp only[zV]at h | simp only[yA]at h | simp only[zO]at h | simp only[yV]at h | simp only[bne_eq_false_iff_eq]at h | simp only[zB]at h | simp only[yT]at h | simp only[yK]at h | simp only[wC]at h))<;>((refine oO ?_);repeat((first|refine aF ?_|refine aT ?_);(refine oO ?_)))) | (refine Ap rfl (.cons .tmp .nil) ?_ rfl) | (refine⟨z_,?_⟩;((conv=>whnf))) | (refine⟨by (omega),by (omega),?_⟩;((conv=>whnf))) | (refine c0 (Sd 7 Aw n.ports l.a) F109 ?_;((refine oO ?_))) | (refine c0 (Sd 7 Aw n.ports l.b) F109 ?_;((refine oO ?_)))))
 all_goals (refine zD Ac ?_;clear hF;grind [Kx,Af,Ae])
def J1 (n:Net) (s:Static):Bool :=
 Af s.domain n.domains.length && Af s.port n.ports.length && (nth n.ports s.port).dev == (nth n.domains s.domain).dev && Ce (nth n.ports s.port) (nth n.domains s.domain).vlan
theorem Ahz (n:Net) (i:Nat) (s:Static) (hn:n.Fin):Sp 53 [Aj n,Aa i,As s] (Ac (J1 n s)):=cT F53 Tryz.ntmps53 λ F hF=>by
 conv=>whnf
 (repeat' (first | (refine⟨λ h=>?_,λ h=>?_⟩<;>(repeat (first | simp only[Af]at h | simp only[zG]at h | simp only[zV]at h | simp only[yA]at h | simp only[zO]at h | simp only[zB]at h | simp only[yT]at h | simp only[yK]at h | simp only[wC]at h))<;>((refine oO ?_);repeat((refine aT ?_);(refine oO ?_)))) | (refine Ap rfl (.cons .tmp .nil) ?_ rfl) | (refine⟨z_,?_⟩;((conv=>whnf))) | (refine⟨by (omega),by (omega),?_⟩;((conv=>whnf))) | (refine c0 (J3 6 An n.domains s.domain) F65 ?_;((refine oO ?_))) | (refine c0 (Sd 7 Aw n.ports s.port) F109 ?_;((refine oO ?_))) | (refine c0 (Wt (n.ports[s.port.toNat]'q_) (n.domains[s.domain.toNat]'q_).vlan (hn.tagged _ (zE _))) F66 ?_;((refine oO ?_)))))
 all_goals (refine zD Ac ?_;clear hF;grind [J1,Af,Ae])
def Aen (n:Net) (i:Nat) (x:Irb):Bool :=
 Af x.domain n.domains.length && Af x.vrf n.vrfs.length && (nth n.domains x.domain).dev == (nth n.vrfs x.vrf).dev && (nth n.domains x.domain).irb == i && decide (1≤x.bits) && decide (x.bits≤30)
theorem Aub (n:Net) (i:Nat) (x:Irb):Sp 61 [Aj n,Aa i,By x] (Ac (Aen n i x)):=cT F61 Tryz.ntmps61 λ F hF=>by
 conv=>whnf
 (repeat' (first | (refine⟨λ h=>?_,λ h=>?_⟩<;>(repeat (first | simp only[Af]at h | simp only[zG]at h | simp only[zV]at h | simp only[yA]at h | simp only[zO]at h | simp only[zB]at h | simp only[yT]at h))<;>((refine rd z_ ?_);(conv=>whnf);repeat((refine aF ?_);(refine rd z_ ?_);(conv=>whnf)))) | (refine Ap rfl (.cons .tmp .nil) ?_ rfl) | (refine⟨z_,?_⟩;((conv=>whnf))) | (refine⟨by (omega),by (omega),?_⟩;((conv=>whnf))) | (refine cD (J3 6 An n.domains x.domain) F65 ?_;((refine rd z_ ?_);(conv=>whnf))) | (refine cD (Aob 5 B5 n.vrfs x.vrf) F111 ?_;((refine rd z_ ?_);(conv=>whnf)))))
 all_goals (refine zD Ac ?_;clear hF;grind [Aen,Af,Ae])
def L0 (n:Net) (f:Flood):Bool:=Af f.dev n.devices.length && decide (f.addrs.length≤16)
theorem right1 (n:Net) (i:Nat) (f:Flood):Sp 55 [Aa i,A3 f,.ref 8 (Aj n) 0] (Ac (L0 n f)):=cT F55 Tryz.ntmps55 λ F hF=>by
 conv=>whnf
 (repeat' (first | (refine⟨λ h=>?_,λ h=>?_⟩<;>(repeat (first | simp only[Af]at h | simp only[zG]at h | simp only[zV]at h | simp only[zB]at h | simp only[yT]at h))<;>((refine oO ?_))) | (refine Ap rfl (.cons .tmp .nil) ?_ rfl) | (refine c0 (H9 5 Aq n.devices f.dev) F56 ?_;((refine oO ?_)))))
 all_goals (refine zD Ac ?_;clear hF;grind [L0,Af])
def Uh (l:List Int) (most:Int):Bool:=decide (l.length=0) || If l 1 most
def Ai5 (n:Net) (v:Vrf):Bool:=Af v.dev n.devices.length && Uh v.imports 65535 && Uh v.exports 65535
theorem right2 (n:Net) (i:Nat) (v:Vrf) (h1:Ak v.imports) (h2:Ak v.exports):Sp 58 [Aa i,B5 v,.ref 8 (Aj n) 0] (Ac (Ai5 n v)):=cT F58 Tryz.ntmps58 λ F hF=>by
 conv=>whnf
 (repeat' (first | (refine⟨λ h=>?_,λ h=>?_⟩<;>(repeat (first | simp only[Af]at h | simp only[zG]at h | simp only[zV]at h | simp only[zB]at h | simp only[yD]at h | simp only[yT]at h | simp only[xU]at h))<;>((refine oO ?_);repeat((refine aF ?_);(refine oO ?_)))) | (refine Ap rfl (.cons .tmp .nil) ?_ rfl) | (refine c0 (H9 5 Aq n.devices v.dev) F56 ?_;((refine oO ?_))) | (refine c0 (Ahb v.imports 65535 h1) F59 ?_;((refine oO ?_))) | (refine c0 (Ahb v.exports 65535 h2) F59 ?_;((refine oO ?_)))))
 all_goals (refine zD Ac ?_;clear hF;grind [Ai5,Uh,Af])
def Ab (n:Net):Bool :=
 Aew n && Ha (L4 n) n.domains && Ha (Lp n) n.domains && Ha (Iw n) n.ports && Ha (Kx n) n.links && Ha (λ _=>J1 n) n.statics && Ha (λ _=>L0 n) n.floods && Ha (λ _=>Ai5 n) n.vrfs && Ha (Aen n) n.irbs
theorem Amj {n:Net} (h:Ha (L4 n) n.domains=true) {i:Nat} (hi:i<n.domains.length):Af n.domains[i].dev n.devices.length=true:=by
 have:=allB_iff.1 h i hi
 simp only[L4,zB]at this
 exact this.1.1.1.1.1.1
theorem Av (n:Net) (hn:n.Fin):Sp 19 [Aj n] (Ac (Ab n)):=cT F19 Tryz.ntmps19 λ F hF=>by
 conv=>whnf
 refine Az 1 8 (Aj n) E E E ?_
 (repeat' (first | (refine⟨λ h=>?_,λ h=>?_⟩<;>((refine oO ?_);repeat((refine aF ?_);(refine oO ?_)))) | (refine Ap rfl (.cons .tmp .nil) ?_ rfl) | (refine c0 (fewS n) F44 ?_;((refine oO ?_))) | (refine c0 (Aah n.domains (L4 n) 46 [Aj n] [] rfl (λ i h=>⟨⟨_,_,F46⟩,bareS n i n.domains[i] hn.domains⟩) hn.domains) F45 ?_;((refine oO ?_))) | (refine Mi (Aah n.domains (Lp n) 47 [Aj n] [] rfl (λ i h=>⟨⟨_,_,F47⟩,peersS n i n.domains[i] hn (hn.peers _ (zE _)) (Amj ‹_› h)⟩) hn.domains) F45 rfl rfl rfl rfl rfl ?_;((refine oO ?_))) | (refine Mi (Au7 n.ports (Iw n) 49 [Aj n] [] rfl (λ i h=>⟨⟨_,_,F49⟩,Ao1 n i n.ports[i] hn (hn.tagged _ (zE _))⟩) hn.ports) F48 rfl rfl rfl rfl rfl ?_;((refine oO ?_))) | (refine c0 (Au8 n.links (Kx n) 51 [Aj n] [] rfl (λ i h=>⟨⟨_,_,F51⟩,Ao2 n i n.links[i]⟩) hn.links) F50 ?_;((refine oO ?_))) | (refine c0 (Amn n.statics (λ _=>J1 n) 53 [Aj n] [] rfl (λ i h=>⟨⟨_,_,F53⟩,Ahz n i n.statics[i] hn⟩) hn.statics) F52 ?_;((refine oO ?_))) | (refine c0 (Ap9 n.floods (λ _=>L0 n) 55 [] [.ref 8 (Aj n) 0] rfl (λ i h=>⟨⟨_,_,F55⟩,right1 n i n.floods[i]⟩) hn.floods) F54 ?_;((refine oO ?_))) | (refine Mi (Ay4 n.vrfs (λ _=>Ai5 n) 58 [] [.ref 8 (Aj n) 0] rfl (λ i h=>⟨⟨_,_,F58⟩,right2 n i n.vrfs[i] (hn.imports _ (zE _)) (hn.exports _ (zE _))⟩) hn.vrfs) F57 rfl rfl rfl rfl rfl ?_;((refine oO ?_))) | (refine c0 (Ay5 n.irbs (Aen n) 61 [Aj n] [] rfl (λ i h=>⟨⟨_,_,F61⟩,Aub n i n.irbs[i]⟩) hn.irbs) F60 ?_;((refine oO ?_)))))
 all_goals (refine zD Ac ?_)
 all_goals (clear hF;simp_all[Ab])
theorem J5 {P:Program} (Γ:Ty P) {o:Oper} {s:SS} {t:TypeId} {ti:TI} {et:TypeId} {sz eb lo hi:Nat} {ez:List Value} {x:Operand} {lx hx:Option Operand} {α:Type} {e:α→SV} {l:List α} (r:List α)
  (h:o.op=.slice t x lx hx none) (ht:Γ.get t=some ti) (hk:ti.k=.slice et sz eb ez) (hxe:ev s x=.sl sz e l) (hlo:BoundIs s lx 0 lo) (hhi:BoundIs s hx l.length hi) (h1:lo≤hi) (h2:hi≤l.length) (hr:(l.take hi).drop lo=r) :
  Good P o s ⟨.sl sz e r,[],[]⟩:=by
 subst hr
 exact Dk Γ h ht hk hxe hlo hhi h1 h2
theorem Afw (a:Int):Sp 268 [Aa a] (Ac false):=cT F268 Tryz.ntmps268 λ F hF=>by
 conv=>whnf
 exact Ap E (.cons .tmp .nil) (zD Ac y_) E
theorem Afv (a:Int):Sp 269 [Bb a] (Ac false):=cT F269 Tryz.ntmps269 λ F hF=>by
 conv=>whnf
 exact Ap E (.cons .tmp .nil) (zD Ac y_) E
def cmpI (a b:Int):Int:=if a<b then -1 else if a>b then 1 else 0
theorem I3 (a b:Int):Sp 211 [Aa a,Aa b] (Aa (cmpI a b)):=cT F211 Tryz.ntmps211 λ F hF=>by
 conv=>whnf
 (repeat' (first | (refine⟨λ h=>?_,λ h=>?_⟩<;>(repeat (first | simp only[zG]at h | simp only[zV]at h))<;>((refine oO ?_))) | (refine Ap rfl (.cons .tmp .nil) ?_ rfl) | (refine c0 (Afw a) F268 ?_;((refine oO ?_))) | (refine c0 (Afw b) F268 ?_;((refine oO ?_);repeat((refine aF ?_);(refine oO ?_))))))
 all_goals (refine zD Aa ?_;clear hF;grind [cmpI])
theorem Al8 (a b:Int):Sp 212 [Bb a,Bb b] (Aa (cmpI a b)):=cT F212 Tryz.ntmps212 λ F hF=>by
 conv=>whnf
 (repeat' (first | (refine⟨λ h=>?_,λ h=>?_⟩<;>(repeat (first | simp only[zG]at h | simp only[zV]at h))<;>((refine oO ?_))) | (refine Ap rfl (.cons .tmp .nil) ?_ rfl) | (refine c0 (Afv a) F269 ?_;((refine oO ?_))) | (refine c0 (Afv b) F269 ?_;((refine oO ?_);repeat((refine aF ?_);(refine oO ?_))))))
 all_goals (refine zD Aa ?_;clear hF;grind [cmpI])
def orI:List Int→Int
 | []=>0
 | x::l=>if x=0 then orI l else x
theorem Ab6:∀ {l:List Int} {j:Nat},(∀ i (h:i<l.length),i<j→l[i]=0)→orI l=orI (l.drop j)
 | l,0,_=>rfl
 | [],j+1,_=>rfl
 | x::l,j+1,h=>by
  have h0:=h 0 y_ q_
  simp only[uR]at h0
  rw[orI,zC h0,List.drop_succ_cons]
  exact Ab6 λ i hi hij=>h (i+1) (by simp;omega) q_
theorem orS (l:List Int) (hl:Ak l):Sp 210 [.sl 1 Aa l] (Aa (orI l)):=cT F210 Tryz.ntmps210 λ F hF=>by
 unfold Ak at hl
 conv=>whnf
 refine Bi l.length (λ j=>∀ i (h:i<l.length),i<j→l[i]=0) (λ j=>[(3,Aa 0),(6,.sl 1 Aa l),(7,Aa l.length),(8,Aa j)]) (λ _=>[]) [] (λ i h hj=>zW hj q_) ⟨⟨E,E,E,E,E,E,E,E,Y⟩,Y,E,E⟩ ?_
 intro j hj hI
 refine oO ?_
 (repeat' (first | (refine⟨λ h=>?_,λ h=>?_⟩<;>(repeat (first | simp only[zG]at h | simp only[zV]at h | simp only[yV]at h | simp only[bne_eq_false_iff_eq]at h))<;>((refine oO ?_))) | (refine Ap rfl (.cons .tmp .nil) ?_ rfl) | (refine⟨z_,?_⟩;((conv=>whnf))) | (refine⟨by (omega),by (omega),?_⟩;((conv=>whnf))) | (refine⟨by (unfold I64;omega),?_⟩;((conv=>whnf))) | refine Be [] hI q_ ?_ ⟨⟨rfl,rfl,rfl,rfl,rfl,rfl,rfl,rfl,trivial⟩,trivial,rfl,rfl⟩))
 all_goals try (refine zD Aa ?_)
 ·have hj2:j<l.length:=by omega
  rw[Ab6 hI,yI hj2,orI,zA (by simpa using h)]
  rfl
 ·intro i hi hij
  rcases vB i j with h1 | h1
  ·exact hI i hi h1
  ·have:i=j:=by omega
   subst this
   simpa using h
 ·rw[Ab6 hI,List.drop_of_length_le q_]
  rfl
theorem O0 (a b:Int) (l:List Int):decide (orI (cmpI a b::l)<0)=if a≠b then decide (a<b) else decide (orI l<0):=by
 rw[orI,cmpI]
 by_cases h1:a<b
 ·simp[h1,show a≠b by omega]
 ·by_cases h2:a>b
  ·simp[h1,h2,show a≠b by omega]
  ·simp[show a=b by omega]
structure Vec where
 (root cost bridge port own:Int)
def Q1 (v:Vec):SV:=.agg [Aa v.root,Aa v.cost,Aa v.bridge,Aa v.port,Aa v.own]
def El (a b:Vec):Bool :=
 if a.root≠b.root then decide (a.root<b.root) else if a.cost≠b.cost then decide (a.cost<b.cost) else if a.bridge≠b.bridge then decide (a.bridge<b.bridge) else
  if a.port≠b.port then decide (a.port<b.port) else decide (a.own<b.own)
theorem lessS (a b:Vec):Sp 272 [Q1 a,Q1 b] (Ac (El a b)):=cT F272 Tryz.ntmps272 λ F hF=>by
 conv=>whnf
 (repeat' (first | (refine⟨λ h=>?_,λ h=>?_⟩<;>(repeat (first | simp only[yA]at h | simp only[zO]at h | simp only[zB]at h | simp only[yT]at h))<;>((refine oO ?_))) | (refine Ap rfl (.cons .tmp .nil) ?_ rfl) | (refine⟨z_,?_⟩;((conv=>whnf))) | (refine cD (I3 a.root b.root) F211 ?_;((refine rd z_ ?_);(conv=>whnf))) | (refine cD (I3 a.cost b.cost) F211 ?_;((refine rd z_ ?_);(conv=>whnf))) | (refine cD (I3 a.bridge b.bridge) F211 ?_;((refine rd z_ ?_);(conv=>whnf))) | (refine cD (I3 a.port b.port) F211 ?_;((refine rd z_ ?_);(conv=>whnf))) | (refine cD (I3 a.own b.own) F211 ?_;((refine rd z_ ?_);(conv=>whnf))) | (refine Ayu [33] (orS [cmpI a.root b.root,cmpI a.cost b.cost,cmpI a.bridge b.bridge,cmpI a.port b.port,cmpI a.own b.own] (by simp[Ak])) F210 rfl (.cons (.lit rfl rfl rfl) .nil) rfl z_ rfl ?_;((refine rd z_ ?_);(conv=>whnf)))))
 all_goals (refine zD Ac ?_;clear hF)
 ·grind [El]
 ·rw[O0,O0,O0,O0,O0,El]
  by_cases h1:a.own=b.own
  ·simp[h1,orI]
  ·simp[h1]
end Go.Sy.YtljngfegfclkpaaGreat
namespace Go.Sy.YtljngfegfclkpaaGreat
open Go.Proofs
structure LineM where
 row:Int
 kind:Int
 dev:ByteArray
 port:ByteArray
 peer:ByteArray
 far:ByteArray
 name:ByteArray
 mac:Int
 addr:Int
 bits:Int
 vlan:Int
 num:Int
 cost:Int
 tagged:List Int
 imports:List Int
 exports:List Int
 addrs:List Int
def E6 (l:LineM):List SV:=[Aa l.row,Aa l.kind,Dz l.dev,Dz l.port,Dz l.peer,Dz l.far,Dz l.name,Bb l.mac,A8 l.addr,Aa l.bits,Aa l.vlan,Aa l.num,Aa l.cost,.sl 1 Aa l.tagged,.sl 1 Aa l.imports,.sl 1 Aa l.exports,.sl 1 A8 l.addrs]
def A6 (l:LineM):SV:=.agg [Aa l.row,Aa l.kind,Dz l.dev,Dz l.port,Dz l.peer,Dz l.far,Dz l.name,Bb l.mac,A8 l.addr,Aa l.bits,Aa l.vlan,Aa l.num,Aa l.cost,.sl 1 Aa l.tagged,.sl 1 Aa l.imports,.sl 1 Aa l.exports,.sl 1 A8 l.addrs]
theorem Awy (x:Int) (l:List Int):orI (x::l)=Zc x (orI l):=by
 rw[orI];unfold Zc;split<;>simp_all
theorem CmpOK.const {α:Type}:CmpOK (λ _ _:α=>(0:Int)):=⟨λ _ _=>by simp,λ _ _ _ _ _=>by simp⟩
theorem CmpOK.or {α:Type} {c:α→α→Int} {d:α→α→List Int} (hc:CmpOK c) (hd:CmpOK (λ x y=>orI (d x y))):CmpOK (λ x y=>orI (c x y::d x y)):=by
 have h:=hc.then hd
 simp only[Awy]
 exact h
end Go.Sy.YtljngfegfclkpaaGreat
namespace Go.Sy
theorem Ad5 {M:Nat→Prop} {w:World} {sz:Nat} {α:Type} {e:α→SV} {v:Value} (h:v=.slice none 0 0):RdD M w (.sl sz e []) v:=by
 simp only[RdD]
 exact .inl ⟨Y,none,0,h⟩
theorem Amv {C:Cx} {k:List KI} {s:SS} (d:Nat) {sz:Nat} {α β:Type} {e:α→SV} {l:List α} {e':β→SV} {l':List β} (h:s.h d=.row sz e l) (hl:l'.length=l.length)
  (hv:∀ (M:Nat→Prop) (w:World) (i:Nat) (h1:i<l.length) (h2:i<l'.length) (v:Value),RdD M w (e l[i]) v→RdD M w (e' l'[i]) v) (hg:G C k ⟨s.σ,upd s.h d (.row sz e' l')⟩):G C k s:=λ κ a w hs =>
 hg κ a w ⟨hs.defers,hs.size,hs.inv,hs.ctx,hs.slot,λ i=>by
  show ObOK κ w i (upd s.h d (.row sz e' l') i)
  by_cases hi:i=d
  ·subst hi
   rw[Bn]
   have:=hs.obj i
   rw[h]at this
   rcases this with ⟨h1,rfl⟩ | ⟨b,cap,cs,T,fr,e1,e2,e3,e4,e5,e6⟩
   ·exact .inl ⟨h1,zQ (by simpa using hl)⟩
   ·refine .inr ⟨b,cap,cs,T,fr,by rw[hl];exact e1,e2,e3,e4,by omega,λ i x hx=>?_⟩
    obtain ⟨hi2,rfl⟩:=hx
    obtain ⟨_,u,hu,hrest⟩:=e6 i (e (l[i]'q_)) ⟨by omega,rfl⟩
    exact⟨hi2,u,hv _ _ i q_ hi2 u hu,hrest⟩
  ·rw[Cf _ _ hi];exact hs.obj i⟩
theorem Ary {κ:Ka} {w:World} {x:SV}:∀ {l:List SV} {cs:List Value} {i:Nat},RdL κ w l cs→(∀ y v,l[i]? = some y→Rd κ w y v→Rd κ w x v)→RdL κ w (l.set i x) cs
 | [],_,_,h,_=>h
 | y::l,cs,0,h,hx=>by
  simp only[RdL,vZ]at h ⊢
  obtain ⟨v,r,e1,e2,e3⟩:=h
  exact⟨v,r,e1,hx y v E e2,e3⟩
 | y::l,cs,i+1,h,hx=>by
  simp only[RdL,tO]at h ⊢
  obtain ⟨v,r,e1,e2,e3⟩:=h
  exact⟨v,r,e1,e2,Ary e3 (λ z u hz hu=>hx z u hz hu)⟩
theorem Amw {C:Cx} {k:List KI} {s:SS} (b i d sz:Nat) {α:Type} (e:α→SV) {l:List SV} (hb:s.h b=.box l) (h:l[i]? = some (.val (.slice none 0 0))) (hd:s.h d=.fresh) (hbd:Nat.beq b d=false)
  (hg:G C k ⟨s.σ,upd (upd s.h b (.box (l.set i (.osl d)))) d (.row sz e [])⟩):G C k s:=λ κ a w hs=>by
 have hne:b≠d:=λ e=>by rw[e,uQ]at hbd;cases hbd
 have hnew:κ d=.new:=by have:=hs.obj d;rwa [hd]at this
 obtain ⟨st,inv⟩:=I6 hs.inv hnew (e:=.nil) (Grew.refl w) (λ b hb=>by cases hb)
 refine hg (Dv κ d .nil) a w ⟨hs.defers,hs.size,inv,hs.ctx.step inv st,λ j=>Rd.step st _ _ (hs.slot j),λ j=>?_⟩
 show ObOK _ w j (upd (upd s.h b (.box (l.set i (.osl d)))) d (.row sz e []) j)
 by_cases hj:j=d
 ·subst hj;rw[Bn];exact .inl ⟨Ar _ _ _,rfl⟩
 ·rw[Cf _ _ hj]
  by_cases hjb:j=b
  ·subst hjb
   rw[Bn]
   have:=ObOK.step st hj _ (hs.obj j)
   rw[hb]at this
   obtain ⟨b',cs,T,fr,e1,e2,e3,e4,e5⟩:=this
   refine⟨b',cs,T,fr,e1,e2,e3,e4,Ary e5 λ y v hy hv=>?_⟩
   rw[h]at hy
   cases hy
   simp only[Rd]at hv
   simp only[Rd,Ar]
   exact hv
  ·rw[Cf _ _ hjb];exact ObOK.step st hj _ (hs.obj j)
theorem T5 {P:Program} (w:World) {t e:TypeId} (h:P.underlying t=some (.slice e)) (ad:Option Addr) (n cap c1 c2:Nat):(Op.equal t (.slice ad n cap) (.slice none c1 c2)).run P w=.ok ad.isNone w:=by
 have key:∀ d,(Op.equalIn (d+1) t (.slice ad n cap) (.slice none c1 c2)).run P w=.ok ad.isNone w:=λ d=>by
  cases ad<;>simp[Op.equalIn,run_underlying h]
 exact key 9999
inductive NilT (s:SS):SV→List Nat→Nat→Prop
 | sl {sz:Nat} {α:Type} {e:α→SV} {l:List α}:NilT s (.sl sz e l) [] l.length
 | row {k sz:Nat} {α:Type} {e:α→SV} {l:List α} (h:s.h k=.row sz e l):NilT s (.osl k) [k] l.length
theorem NilT.at {C:Cx} {s:SS} {κ:Ka} {a:Act} {w:World} {x:Operand} {rd:List Nat} {n:Nat} (hs:St C.F C.n s κ a w) (hx:NilT s (ev s x) rd n):∃ (ad:Option Addr) (m cap:Nat),a.eval x=.slice ad m cap∧(ad.isNone=true→n=0):=by
 have h1:Rd κ w (ev s x) (a.eval x):=hs.ev x
 generalize ev s x=y at *
 cases hx with
 | @sl sz α e l =>
  simp only[Rd,RdD]at h1
  rcases h1 with ⟨rfl,a',cap,h1⟩ | ⟨b,off,cap,h1,_⟩
  ·exact⟨_,_,_,h1,λ _=>rfl⟩
  ·exact⟨_,_,_,h1,λ h=>by cases h⟩
 | @row k' sz α e l hr =>
  have hob:=hs.obj k'
  rw[hr]at hob
  simp only[Rd]at h1
  rcases hob with ⟨hκ,hl⟩ | ⟨b,cap,_,_,_,hκ,_⟩
  ·rw[hκ]at h1
   exact⟨_,_,_,h1,λ _=>by rw[hl];rfl⟩
  ·rw[hκ]at h1
   exact⟨_,_,_,h1,λ h=>by cases h⟩
theorem Du {C:Cx} {k:List KI} {s:SS} {all:Array Oper} {o:Oper} {rest:List Oper} {op:BinOp} {t yt:TypeId} {ti:TI} {et:TypeId} {sz eb n:Nat} {ez:List Value} {x y:Operand} {rd:List Nat} (h:o.op=.binOp op t x y yt) (hop:op=.eql∨op=.neq)
  (ht:C.Γ.get t=some ti) (hk:ti.k=.slice et sz eb ez) (hy:ev s y=.val (.slice none 0 0)) (hx:NilT s (ev s x) rd n) (hd:S9 C.n o=true) (hw:Ej C.n all o s=some true)
  (hg:∀ b:Bool,(b=true→n=0)→G C (.ops all rest::k) (s.upd o.dst ⟨.val (.bool (if op=.eql then b else !b)),rd,[]⟩)):G C (.ops all (o::rest)::k) s:=λ κ a w hs=>by
 have h2:Rd κ w (ev s y) (a.eval y):=hs.ev y
 rw[hy]at h2
 obtain ⟨ad,m,cap,e1,e2⟩:=hx.at hs
 obtain ⟨d,info,z,k1,k2,_⟩:=C.Γ.ok t ti ht
 rw[hk]at k2
 simp only[TK.ok]at k2
 have hrun:=T5 (P:=C.P) w (t:=t) (e:=et) (by first | exact k2.1 ▸ k1 | (rw[k1,k2.1])) ad m cap 0 0
 have hG:=hg ad.isNone e2
 have hv:=h2.val
 refine wpList_step λ K hK=>?_
 rw[zC (V2 hs (Hf hw).2 (Hf hw).1)]
 have hx':(execOp a.eval o).run C.P w=.ok (.value (.bool (if op=.eql then ad.isNone else !ad.isNone))) w:=by
  rcases hop with rfl | rfl<;>simp[execOp,h,e1,hv,eqGuard,binOp,hrun]
 simp only[Oper.wp,hx',Oper.upon]
 exact hK _ _ (hG κ _ w (hs.put (U:=⟨.val (.bool (if op=.eql then ad.isNone else !ad.isNone)),rd,[]⟩) (Adg hd) (Step.refl _ κ w) hs.inv (by simp[Rd]) (λ p hp=>by cases hp)))
def KeepL (s:SS):List (Nat × Ob)→Prop
 | []=>True
 | (k,o)::r=>s.h k=o∧KeepL s r
theorem KeepL.all {s:SS}:∀ {l:List (Nat × Ob)},KeepL s l→∀ p∈l,s.h p.1=p.2
 | [],_,p,hp=>by cases hp
 | (k,o)::r,h,p,hp=>by
  rcases yB.1 hp with rfl | hp
  ·exact h.1
  ·exact KeepL.all h.2 p hp
theorem stepD2 {C:Cx} {k:List KI} {s:SS} {all:Array Oper} {done:List Stp} {o:Oper} {rest:List Oper} {U:Up} (hg:Good C.P o s U) (hk:KeepL s U.objs) (hi:all[done.length]? = some o) (hw:Ej C.n all o s=some true)
  (h:DR C k all (done++[⟨done.length,o,⟨U.v,U.rd++U.ws,[]⟩,true⟩]) rest (s.upd o.dst ⟨U.v,U.rd++U.ws,[]⟩)) (hn:(Iy o || Ms o)=false:=by rfl):DR C k all done (o::rest) s :=
 Azb _ (.of2 (hg.keep hk.all) hn) hi (Hf hw).1 h
theorem Asi {κ:Ka} {w w':World} (hi:Inv κ w) (g:Grew w w'):Step (λ _=>False) κ w κ w'∧Inv κ w' :=
 ⟨⟨g.size,g.os,g.tape,g.output,rfl,λ b hb=>g.blk b (hi.mbnd b hb),λ b hb _=>g.blk b hb,λ k b _ hb=>g.blk b (hi.bnd k b hb),λ _ _=>rfl,λ _ h=>h.elim,λ _ h=>.inl h⟩,
  ⟨hi.inj,λ k b h=>yO (hi.bnd k b h) g.size,hi.apart,λ b h=>yO (hi.mbnd b h) g.size⟩⟩
theorem W8 {P:Program} {o:Oper} {s:SS} {x y:Operand} {at_:Array TypeId} {k k':IntKind} {m n:Int} (h:o.op=.call ⟨.builtin .min,#[x,y],at_⟩)
  (hx:ev s x=.val (.int k m)) (hy:ev s y=.val (.int k' n)):Good P o s ⟨.val (.int k (if n<m then n else m)),[],[]⟩ :=
 Good.pure λ κ a w _ hr ho=>by
  have h1:=hr x (by simp[h,Op.operands,Call.operands])
  have h2:=hr y (by simp[h,Op.operands,Call.operands])
  rw[hx]at h1
  rw[hy]at h2
  refine⟨.int k (if n<m then n else m),?_,by simp[Rd]⟩
  simp[execOp,h,resolve,invoke,builtin,Builtin.min_,Builtin.min2,h1.val,h2.val]
end Go.Sy
namespace Go.Sy.YtljngfegfclkpaaGreat
open Go.Proofs
def A0o (c:UInt8) (l:List UInt8):Nat:=(Lib.indexByte l c).toNat
def Aj3 (c:UInt8) (l:List UInt8):Nat→List UInt8
 | 0=>l
 | j+1=>(Aj3 c l j).drop (A0o c (Aj3 c l j)+1)
def pieceL (c:UInt8) (l:List UInt8) (j:Nat):List UInt8:=(Aj3 c l j).take (A0o c (Aj3 c l j))
def mkT (l:List UInt8):ByteArray:=⟨l.toArray⟩
def Ag2 (c:UInt8) (s:ByteArray):List ByteArray :=
 (List.range (s.data.toList.count c)).map (λ j=>mkT (pieceL c s.data.toList j))++[mkT (Aj3 c s.data.toList (s.data.toList.count c))]
end Go.Sy.YtljngfegfclkpaaGreat
namespace Go.Sy.YtljngfegfclkpaaGreat
open Go.Proofs
attribute [local irreducible] Go.Sy.G Go.Sy.DR
set_option maxRecDepth 20000
set_option maxHeartbeats 4000000
def Ayr (c:UInt8):Bool:=decide (48≤c.toNat) && decide (c.toNat≤57)
def valU (s:ByteArray):Nat→Int
 | 0=>0
 | j+1=>10 * valU s j+((Hm s j).toNat-48)
def digsB (s:ByteArray):Bool:=(List.range s.size).all λ i=>Ayr (Hm s i)
def Ag4 (s:ByteArray) (most:Int):Int × Bool :=
 if s.size=0∨3<s.size∨(1<s.size∧(Hm s 0).toNat=48)∨digsB s=false then (0,false) else (valU s s.size,decide (valU s s.size≤most))
end Go.Sy.YtljngfegfclkpaaGreat
namespace Go.Sy.YtljngfegfclkpaaGreat
open Go.Proofs
def Wc {α:Type} (l:List α) (j:Nat):List α:=List.ofFn λ i:Fin l.length=>if i.1<j∨l.length-j≤i.1 then l[l.length-1-i.1] else l[i.1]
theorem Ea {α:Type} (l:List α) (j:Nat):(Wc l j).length=l.length:=by simp[Wc]
theorem M2 {α:Type} (l:List α) (j i:Nat) (h:i<l.length):(Wc l j)[i]'(by rw[Ea];exact h)=if i<j∨l.length-j≤i then l[l.length-1-i] else l[i]:=by simp[Wc]
theorem As3 {α:Type} (l:List α):Wc l 0=l:=by
 apply uL (Ea l 0)
 intro i h1 h2
 rw[M2 l 0 i h2,zA q_]
theorem Awg {α:Type} (l:List α) (j:Nat) (h:l.length≤2 * j+1):Wc l j=l.reverse:=by
 apply uL (by rw[Ea,List.length_reverse])
 intro i h1 h2
 have hi:i<l.length:=by rw[Ea]at h1;exact h1
 rw[M2 l j i hi,List.getElem_reverse]
 split
 ·rfl
 ·congr 1;omega
theorem As4 {α:Type} (l:List α) (j:Nat) (h:2 * j+1<l.length) :
  ((Wc l j).set j ((Wc l j)[l.length-1-j]'(by rw[Ea];omega))).set (l.length-1-j) ((Wc l j)[j]'(by rw[Ea];omega))=Wc l (j+1):=by
 apply uL (by simp only[yE,Ea])
 intro i h1 h2
 have hi:i<l.length:=by rw[Ea]at h2;exact h2
 rw[wU,wU,M2 l (j+1) i hi,M2 l j i hi,M2 l j _ q_,M2 l j _ q_]
 by_cases e1:l.length-1-j=i
 ·rw[zC e1,zA q_,zC q_]
  congr 1;omega
 ·rw[zA e1]
  by_cases e2:j=i
  ·rw[zC e2,zA q_,zC q_]
   congr 1;omega
  ·rw[zA e2]
   by_cases e3:i<j∨l.length-j≤i
   ·rw[zC e3,zC q_]
   ·rw[zA e3,zA q_]
theorem As5 {α:Type} {l u:List α} {j k:Nat} (hu:Wc l j=u) (h:2 * j+1<l.length) (hk:l.length-1-j=k) (h1:k<u.length) (h2:j<u.length):(u.set j u[k]).set k u[j]=Wc l (j+1):=by
 subst hu hk
 exact As4 l j h
def Aqv (u:Nat):List UInt8:=if u<10 then [UInt8.ofNat (48+u)] else UInt8.ofNat (48+u % 10)::Aqv (u / 10)
def numL (n:Int):List UInt8:=(Aqv n.natAbs++(if n<0 then [45] else [])).reverse
def numT (n:Int):ByteArray:=mkT (numL n)
end Go.Sy.YtljngfegfclkpaaGreat
namespace Go.Sy.YtljngfegfclkpaaGreat
open Go.Proofs
attribute [local irreducible] Go.Sy.G Go.Sy.DR
set_option maxRecDepth 20000
set_option maxHeartbeats 4000000
theorem Apn {n:Net} (h:Ab n=true) {i:Nat} (hi:i<n.ports.length):Iw n i n.ports[i]=true:=by
 simp only[Ab,zB]at h
 exact allB_iff.1 h.1.1.1.1.1.2 i hi
theorem Aro {n:Net} (h:Ab n=true) {i:Nat} (hi:i<n.domains.length):L4 n i n.domains[i]=true:=by
 simp only[Ab,zB]at h
 exact allB_iff.1 h.1.1.1.1.1.1.1.2 i hi
theorem Agh {n:Net} (h:Ab n=true):n.devices.length≤8∧n.ports.length≤40∧n.links.length≤20∧n.domains.length≤48∧n.irbs.length≤48:=by
 simp only[Ab,Aew,zB,zG]at h
 omega
theorem Ev {n:Net} (h:Ab n=true) {i:Nat} (hi:i<n.domains.length) :
  (0≤n.domains[i].dev∧n.domains[i].dev.toNat<n.devices.length)∧(1≤n.domains[i].vlan∧n.domains[i].vlan≤4094)∧(0≤n.domains[i].vni∧n.domains[i].vni≤16777215)∧(n.domains[i].irb=-1∨0≤n.domains[i].irb∧n.domains[i].irb.toNat<n.irbs.length):=by
 have:=Aro h hi
 simp only[L4,Af,zB,yD,zG,yA]at this
 omega
end Go.Sy.YtljngfegfclkpaaGreat
namespace Go.Sy
def Ams (C:Cx) {β:Type} (I:β→Prop) (L:β→List (Nat × SV)) (O:β→Obs) (μ:β→Nat) (x:β) (a:Act) (w:World):Prop :=
 ∃ x':{y:β // I y},∃ κ,μ x'.1<μ x∧St C.F C.n (mkS (L x'.1) (O x'.1)) κ a w
theorem Db {C:Cx} {k:List KI} {s:SS} {body:Code} {β:Type} (I:β→Prop) (L:β→List (Nat × SV)) (O:β→Obs) (μ:β→Nat) (x₀:β) (ρ:List (Nat × Nat)) (h0:I x₀) (hsub:Sub C s ρ (L x₀) (O x₀))
  (h:∀ x,I x→G C (.code body::.inv (Ams C I L O μ x)::k) (mkS (L x) (O x))):G C (.code (.loop body)::k) s :=
 Tk (α:={y:β // I y}) (λ x=>L x.1) (λ x=>O x.1) (λ x=>μ x.1) ⟨x₀,h0⟩ ρ hsub (λ x=>h x.1 x.2)
theorem Bd {C:Cx} {k:List KI} {s:SS} {β:Type} {I:β→Prop} {L:β→List (Nat × SV)} {O:β→Obs} {μ:β→Nat} {x:β} (x':β) (ρ:List (Nat × Nat)) (h':I x') (hμ:μ x'<μ x) (hsub:Sub C s ρ (L x') (O x')) :
  G C (.inv (Ams C I L O μ x)::k) s:=λ _ _ _ hs=>⟨⟨x',h'⟩,_,hμ,hsub.st hs⟩
theorem X8 {C:Cx} {kk:List KI} {s:SS} (k d:Nat) {sz:Nat} {α:Type} {e:α→SV} {l:List α} (h:s.h k=.row sz e l) (hd:s.h d=.fresh) (hkd:k≠d)
  (hg:G C kk ⟨λ i=>frz k (.osl d) (s.σ i),upd (λ j=>bif Nat.beq j k then .non else Aum k (.osl d) (s.h j)) d (.row sz e l)⟩):G C kk s:=λ κ a w hs=>by
 have hob:=hs.obj k
 rw[h]at hob
 have hnew:κ d=.new:=by have:=hs.obj d;rwa [hd]at this
 have fin:∀ κ':Ka,(∀ j,j≠k→j≠d→κ' j=κ j)→Step (λ j=>j=k∨j=d) κ w κ' w→Inv κ' w→(∀ v,Rd κ w (.osl k) v→Rd κ' w (.osl d) v)→ObOK κ' w d (.row sz e l)→den C.P C.B kk .normal a w:=by
  intro κ' hne st inv hv ho
  refine hg κ' a w ⟨hs.defers,hs.size,inv,hs.ctx.step inv st,λ j=>Ah8 st hv _ _ (hs.slot j),λ j=>?_⟩
  show ObOK κ' w j (upd (λ j=>bif Nat.beq j k then .non else Aum k (.osl d) (s.h j)) d (.row sz e l) j)
  by_cases hj:j=d
  ·subst hj;rw[Bn];exact ho
  ·rw[Cf _ _ hj]
   by_cases hj2:j=k
   ·subst hj2;rw[show Nat.beq j j=true from uQ j];trivial
   ·rw[show Nat.beq j k=false from by cases hb:Nat.beq j k with | false=>rfl | true=>exact zW (yC hb) hj2]
    have hb:=ObOK.step st (λ e=>e.elim hj2 hj) _ (hs.obj j)
    have h0:=hs.obj j
    show ObOK κ' w j (Aum k (.osl d) (s.h j))
    cases hh:s.h j with
    | box m =>
     rw[hh]at h0 hb
     obtain ⟨b,cs,T,fr,e1,e2,e3,e4,e5⟩:=h0
     exact⟨b,cs,T,fr,(hne j hj2 hj).trans e1,e2,e3,e4,Jm st hv m cs e5⟩
    | tbox T m =>
     rw[hh]at h0 hb
     obtain ⟨b,cs,fr,e1,e2,e3,e4,e5⟩:=h0
     exact⟨b,cs,fr,(hne j hj2 hj).trans e1,e2,e3,e4,Jm st hv m cs e5⟩
    | fresh=>rw[hh]at hb;exact hb
    | non=>rw[hh]at hb;exact hb
    | row sz' e' l'=>rw[hh]at hb;exact hb
    | lit sz' svs=>rw[hh]at hb;exact hb
    | glob sz' x' g'=>rw[hh]at hb;exact hb
    | pin b' n' cap' sz' e' l'=>rw[hh]at hb;exact hb
    | dat v' sz' e' l'=>rw[hh]at hb;exact hb
    | trow T' m'=>rw[hh]at hb;exact hb
    | rown sz' e' l' i' cl' =>
     rw[hh]at h0
     obtain ⟨b2,cap2,cs2,T2,fr2,f1,f2,f3,f4,f5,f6,f7,us2,v1,v2,v3,v4⟩:=h0
     refine⟨b2,cap2,cs2,T2,fr2,(hne j hj2 hj).trans f1,f2,f3,f4,f5,λ m y hm hy=>?_,f7,us2,v1,v2,Jm st hv cl' us2 v3,v4⟩
     obtain ⟨g0,u,g1,g2⟩:=f6 m y hm hy
     exact⟨g0,u,RdD.keep st.keeps _ _ g1,g2⟩
 rcases hob with ⟨h1,rfl⟩ | ⟨b,cap,cs,T,fr,e1,e2,e3,e4,e5,e6⟩
 ·have st:=I6 (Kf hs.inv (some k)) (by show Dv κ k .dead d=.new;rw[B1 _ _ (Ne.symm hkd)];exact hnew) (e:=.nil) (Grew.refl w) (λ b hb=>by cases hb)
  refine fin _ (λ j h1 h2=>by rw[B1 _ _ h2];exact B1 _ _ h1) (((Is (some k)).weaken (λ j hj=>.inl (Option.some.inj hj).symm)).trans (st.1.weaken (λ j hj=>.inr hj))) st.2 (λ v hv=>?_) (.inl ⟨Ar _ _ _,E⟩)
  simp only[Rd,h1]at hv
  simp[Rd,Ar,hv]
 ·obtain ⟨st,inv⟩:=My (n':=l.length) (w':=w) hs.inv e1 hnew rfl rfl rfl rfl (λ _ _=>rfl)
  refine fin _ (λ j h1 h2=>by rw[B1 _ _ h2];exact B1 _ _ h1) st inv (λ v hv=>?_) (.inr ⟨b,cap,cs,T,fr,Ar _ _ _,e2,e3,e4,e5,λ i x hx=>?_⟩)
  ·simp only[Rd,e1]at hv
   simp[Rd,Ar,hv]
  ·obtain ⟨q1,u,q2,q3⟩:=e6 i x hx
   exact⟨q1,u,RdD.keep st.keeps _ _ q2,q3⟩
theorem Ku {C:Cx} {k:List KI} {s:SS} (d:Nat) {sz:Nat} {α:Type} (e:α→SV) (l:List α) {svs:List SV} (h:s.h d=.lit sz svs) (hl:l.map e=svs) (hg:G C k ⟨s.σ,upd s.h d (.row sz e l)⟩):G C k s:=λ κ a w hs=>by
 refine hg κ a w ⟨hs.defers,hs.size,hs.inv,hs.ctx,hs.slot,λ j=>?_⟩
 show ObOK κ w j (upd s.h d (.row sz e l) j)
 by_cases hj:j=d
 ·subst hj
  rw[Bn]
  have hob:=hs.obj j
  rw[h]at hob
  have hlen:l.length=svs.length:=by rw[← hl,yP]
  obtain ⟨b,cap,cs,T,fr,e1,e2,e3,e4,e5,e6⟩:=hob
  exact .inr ⟨b,cap,cs,T,fr,by rw[hlen];exact e1,e2,e3,e4,by omega,λ i x hx=>by rw[hlen];exact e6 i x (M1 hl i x hx)⟩
 ·rw[Cf _ _ hj];exact hs.obj j
end Go.Sy
namespace Go.Sy.YtljngfegfclkpaaGreat
open Go.Proofs
attribute [local irreducible] Go.Sy.G Go.Sy.DR
set_option maxRecDepth 20000
set_option maxHeartbeats 4000000
def Kz (p:Nat→Bool) (j:Nat):List Int:=((List.range j).filter p).map Int.ofNat
theorem Ac8 (p:Nat→Bool) (j:Nat):Kz p (j+1)=if p j=true then Kz p j++[(j:Int)] else Kz p j:=by
 rw[Kz,wL,List.filter_append,wK]
 split
 ·rename_i h
  rw[List.filter_cons_of_pos (by exact h),List.filter_nil];rfl
 ·rename_i h
  rw[List.filter_cons_of_neg (by exact h),List.filter_nil,vR,xJ];rfl
theorem Hy (p:Nat→Bool) (j:Nat):(Kz p j).length≤j:=by
 have:=tW p (List.range j)
 simpa [Kz] using this
theorem Og {p:Nat→Bool} {j:Nat} {x:Int}:x∈Kz p j↔0≤x∧x<j∧p x.toNat=true:=by
 simp only[Kz,yH,vW,xC]
 constructor
 ·rintro ⟨i,h1,rfl⟩
  exact⟨Int.natCast_nonneg i,by simp;omega,h1.2⟩
 ·rintro ⟨h1,h2,h3⟩
  exact⟨x.toNat,⟨by omega,h3⟩,yQ h1⟩
def Qq (n:Net) (d:Domain) (i:Nat):Bool:=(nth n.ports i).dev == d.dev && Ce (nth n.ports i) d.vlan
def Au (n:Net) (i:Int):List Int:=Kz (Qq n (nth n.domains i)) n.ports.length
def At (n:Net) (i:Int):List Int:=if (0≤i∧i<n.domains.length)∧Ab n=true then Au n i else []
theorem Je (n:Net) (hn:n.Fin) (i:Int):Ak (At n i):=by
 have:=hn.ports
 unfold Ak at this ⊢
 unfold At
 split
 ·have:=Hy (Qq n (nth n.domains i)) n.ports.length
  unfold Au
  omega
 ·simp
theorem Mq (n:Net) (hn:n.Fin) (i:Int):Sp 22 [Aj n,Aa i] (.sl 1 Aa (At n i)):=cT F22 Tryz.ntmps22 λ F hF=>by
 have hr:=Av n hn
 have hpl:=J3 6 An n.domains i
 have hsp:=hn.ports
 unfold Ak at hsp
 conv=>whnf
 refine c0 hr F19 ?_
 cases hb:Ab n
 ·rw[At,zA (by simp[hb])]
  (refine oT ?_;refine bT ?_)
  refine Ao 4 1 Aa E ?_
  refine oO ?_
  exact dN
 refine oF ?_
 refine c0 hpl F65 ?_
 by_cases hi:0≤i∧i<n.domains.length
 rotate_left
 ·have h0:Af i n.domains.length=false:=by simp only[Af,yT,zV];omega
  rw[At,zA (by simp[hb,hi]),h0]
  refine oT ?_
  refine Ao 4 1 Aa E ?_
  refine oO ?_
  exact dN
 have h0:Af i n.domains.length=true:=by simp only[Af,zB,zG];exact hi
 rw[At,zC ⟨hi,hb⟩,h0]
 have hk:i.toNat<n.domains.length:=by omega
 have hf:=Ev hb hk
 have e1:nth n.domains i=n.domains[i.toNat]:=Ae hk
 rw[Au,e1]
 obtain ⟨d,hd⟩:∃ d,n.domains[i.toNat]=d:=⟨_,rfl⟩
 rw[hd]at hf ⊢
 refine Az 2 8 (Aj n) E E E ?_
 refine oF ?_
 refine Co 5 1000 1 Aa E E ?_
 refine A5 n.ports.length (λ j=>[(1,Aa i),(2,.ref 8 (Aj n) 0),(5,.osl 1000),(19,.sl 7 Aw n.ports),(20,Aa n.ports.length),(21,Aa j)]) (λ j=>[(1000,.row 1 Aa (Kz (Qq n d) j))]) []
  ⟨⟨rfl,rfl,rfl,rfl,rfl,rfl,rfl,rfl,rfl,rfl,rfl,rfl,trivial⟩,⟨.inl rfl,rfl,trivial⟩,rfl,rfl⟩ ?_
 intro j hj
 refine oO ?_
 constructor<;>intro h
 ·have hlt:j<n.ports.length:=by simpa using h
  have hsucc:=Ac8 (Qq n d) j
  have hfl:=Hy (Qq n d) j
  have hin:Qq n d j=((n.ports[j]).dev == d.dev && Ce n.ports[j] d.vlan):=by
   rw[Qq,Ae (l:=n.ports) (i:=(j:Int)) (by simpa using hlt)];rfl
  rw[hin]at hsucc
  have e1:n.ports[(j:Int).toNat]'q_=n.ports[j]:=rfl
  have hms:=Wt n.ports[j] d.vlan (hn.tagged _ (zE _))
  obtain ⟨p,hp⟩:∃ p,n.ports[j]=p:=⟨_,rfl⟩
  rw[hp]at e1 hsucc hms
  obtain ⟨u,hu⟩:∃ u,Kz (Qq n d) j=u:=⟨_,rfl⟩
  rw[hu]at hsucc hfl ⊢
  refine oO ?_
  refine⟨E,by omega,by omega,?_⟩
  rw[e1]
  conv=>whnf
  refine⟨E,hi.1,hk,?_⟩
  rw[hd]
  conv=>whnf
  constructor<;>intro h2
  ·have h3:∃ k:Nat,(k:Int)=i:=⟨i.toNat,by omega⟩
   rw[h2,zS]at hsucc
   refine oD ?_
   refine⟨E,hi.1,hk,?_⟩
   rw[hd]
   conv=>whnf
   refine cD hms F66 ?_
   refine oD ?_
   refine kW ?_
   constructor<;>intro h4
   ·rw[zC h4]at hsucc
    refine oO ?_
    refine Ag (Ah Γ.toTy 48 E E E E E (.row E) (.lit (e:=Aa) (l:=[(j:Int)]) E E) y_ (by simp;omega) (by simp;omega)) E E ?_
    refine oO ?_
    refine iW ?_
    exact Ax [(1000,48)] hlt ⟨⟨E,E,E,E,E,E,E,E,E,E,E,E,Y⟩,⟨.inl (zD (Ob.row 1 Aa) hsucc),E,Y⟩,E,E⟩
   ·rw[zA (by simp[h4])]at hsucc
    refine oO ?_
    refine iW ?_
    exact Ax [] hlt ⟨⟨E,E,E,E,E,E,E,E,E,E,E,E,Y⟩,⟨.inl (zD (Ob.row 1 Aa) hsucc),E,Y⟩,E,E⟩
  ·rw[zA (by simp[h2])]at hsucc
   refine oD ?_
   refine⟨z_,?_⟩
   ((conv=>whnf);refine aF ?_;refine rg ?_;conv=>whnf)
   refine iW ?_
   exact Ax [] hlt ⟨⟨E,E,E,E,E,E,E,E,E,E,E,E,Y⟩,⟨.inl (zD (Ob.row 1 Aa) hsucc),E,Y⟩,E,E⟩
 ·have:j=n.ports.length:=qB h
  subst this
  refine Ai 1000 E ?_
  refine oO ?_
  exact dN
theorem Aia (n:Net) (hn:n.Fin) (l:List Domain) (p:Domain→Bool) (f:FuncId) (first cap:List SV) (hc:(SV.clo (.func f) first cap).inn []=true) (hf:∀ x∈l,Hh Tryz.prog f (first++[An x]++cap) (Ac (p x))) (hl:Ak l) :
  Sp 112 [Aj n,.sl 6 An l,.clo (.func f) first cap] (Aa (if Ab n=true then Bg p l else -1)):=cT F112 Tryz.ntmps112 λ F hF=>by
 have hr:=Av n hn
 have q:=Ec l p f first cap hc hf hl
 conv=>whnf
 refine c0 hr F19 ?_
 cases hb:Ab n
 ·rw[zA y_]
  refine oT ?_
  exact dN
 rw[zC rfl]
 refine oF ?_
 refine Mi q F170 E E (by simp only[B7,hc,vS];rfl) E E ?_
 refine oO ?_
 exact dN
theorem Aht (dev vlan:Int) (d:Domain):Sp 113 [An d,.ref 1 (Aa dev) 0,.ref 1 (Aa vlan) 0] (Ac (d.dev == dev && d.vlan == vlan)):=cT F113 Tryz.ntmps113 λ F hF=>by
 conv=>whnf
 (repeat' (first | (refine⟨λ h=>?_,λ h=>?_⟩<;>(repeat (first | simp only[yA]at h | simp only[zO]at h))<;>((refine oO ?_))) | (refine Ap rfl (.cons .tmp .nil) ?_ rfl)))
 all_goals (refine zD Ac ?_)
 all_goals simp_all
def Bt (n:Net) (dev vlan:Int):Int:=if Ab n=true then Cq n dev vlan else -1
theorem Jb (n:Net) (hn:n.Fin) (dev vlan:Int):Sp 62 [Aj n,Aa dev,Aa vlan] (Aa (Bt n dev vlan)):=cT F62 Tryz.ntmps62 λ F hF=>by
 have q:=Aia n hn n.domains (λ d=>d.dev == dev && d.vlan == vlan) 113 [] [.ref 1 (Aa dev) 0,.ref 1 (Aa vlan) 0] rfl (λ d _=>⟨⟨_,_,F113⟩,Aht dev vlan d⟩) hn.domains
 conv=>whnf
 refine Az 4 1 (Aa dev) E E E ?_
 refine Az 5 1 (Aa vlan) E E E ?_
 refine c0 q F112 ?_
 refine oO ?_
 exact dN
def Ay (n:Net) (i:Int):Int :=
 if (0≤i∧i<n.ports.length)∧0≤(nth n.ports i).link∧Ab n=true then
  (if (nth n.links (nth n.ports i).link).a=i then (nth n.links (nth n.ports i).link).b else (nth n.links (nth n.ports i).link).a) else -1
theorem Ee {n:Net} (h:Ab n=true) {i:Nat} (hi:i<n.ports.length) (hl:0≤n.ports[i].link) :
  n.ports[i].link.toNat<n.links.length∧((nth n.links n.ports[i].link).a=i∨(nth n.links n.ports[i].link).b=i):=by
 have:=Apn h hi
 simp only[Iw,Af,zB,yD,zG,yA]at this
 rcases this.2 with h1 | h1
 ·omega
 ·exact⟨by omega,h1.2⟩
theorem Wv (n:Net) (hn:n.Fin) (i:Int):Sp 234 [Aj n,Aa i] (Aa (Ay n i)):=cT F234 Tryz.ntmps234 λ F hF=>by
 have hr:=Av n hn
 conv=>whnf
 constructor<;>intro h
 ·have h1:i<0:=zK h
  rw[Ay,zA q_]
  (refine oT ?_;refine bT ?_;refine bT ?_)
  exact dN
 have h1:0≤i:=qB h
 refine oO ?_
 constructor<;>intro h
 ·have h2:n.ports.length≤i:=zK h
  rw[Ay,zA q_]
  (refine oT ?_;refine bT ?_)
  exact dN
 have h2:i<n.ports.length:=qB h
 have hk:i.toNat<n.ports.length:=by omega
 have e1:nth n.ports i=n.ports[i.toNat]:=Ae hk
 have hlk:=λ (hb:Ab n=true)=>Ee hb hk
 rw[Ay,e1]
 obtain ⟨p,hp⟩:∃ p,n.ports[i.toNat]=p:=⟨_,rfl⟩
 rw[hp]at hlk ⊢
 refine oO ?_
 refine⟨E,h1,hk,?_⟩
 rw[hp]
 conv=>whnf
 constructor<;>intro h
 ·have h3:p.link<0:=zK h
  rw[zA q_]
  refine oT ?_
  exact dN
 have h3:0≤p.link:=qB h
 refine oO ?_
 refine c0 hr F19 ?_
 cases hb:Ab n
 ·rw[zA y_]
  refine oT ?_
  exact dN
 rw[zC ⟨⟨h1,h2⟩,h3,rfl⟩]
 have hq:=hlk hb h3
 have e2:nth n.links p.link=n.links[p.link.toNat]:=Ae hq.1
 rw[e2]
 obtain ⟨l,hl⟩:∃ l,n.links[p.link.toNat]'hq.1=l:=⟨_,rfl⟩
 rw[hl]
 refine oF ?_
 refine⟨E,h1,hk,?_⟩
 rw[hp]
 conv=>whnf
 refine⟨E,h3,hq.1,?_⟩
 rw[hl]
 conv=>whnf
 refine kW ?_
 constructor<;>intro h
 ·have h4:l.a=i:=by simpa using h
  rw[zC h4]
  refine oO ?_
  exact dN
 ·have h4:¬ l.a=i:=by simpa using h
  rw[zA h4]
  refine oO ?_
  exact dN
end Go.Sy.YtljngfegfclkpaaGreat
namespace Go.Sy.YtljngfegfclkpaaGreat
open Go.Proofs
attribute [local irreducible] Go.Sy.G Go.Sy.DR
set_option maxRecDepth 100000
set_option maxHeartbeats 4000000
def Ays (c:UInt8) (s:ByteArray):ByteArray × ByteArray × Bool :=
 if 0≤Lib.indexByte s.data.toList c then (s.extract 0 (A0o c s.data.toList),s.extract (A0o c s.data.toList+1) s.size,true) else (s,⟨#[]⟩,false)
def digV (l:List UInt8):Int:=l.foldl (λ n c=>10 * n+((c.toNat:Int)-48)) 0
def negB (s:ByteArray):Bool:=s.data.toList.head? == some 45
def Al5 (s:ByteArray):List UInt8:=if negB s=true then s.data.toList.drop 1 else s.data.toList
def A0e (s:ByteArray):Int:=if negB s=true then 0-digV (Al5 s) else digV (Al5 s)
def Ahq (s:ByteArray) (lo hi:Int):Int × Bool :=
 if (Al5 s).length<1∨10<(Al5 s).length then (0,false) else if (Al5 s).all Ayr=false then (0,false)
 else if A0e s<lo∨hi<A0e s then (0,false) else if (numT (A0e s) == s)=true then (A0e s,true) else (0,false)
theorem A05 {s:ByteArray} {i:Nat} (h:i<s.data.toList.length):Hm s i=s.data.toList[i]:=by
 rw[Hm,xX,zH h];rfl
end Go.Sy.YtljngfegfclkpaaGreat
namespace Go.Sy.YtljngfegfclkpaaGreat
open Go.Proofs
attribute [local irreducible] Go.Sy.G Go.Sy.DR
set_option maxRecDepth 20000
set_option maxHeartbeats 4000000
def Su (lt:Int→Int→Bool) (x:Int):List Int→List Int
 | []=>[x]
 | y::r=>if lt x y then y::Su lt x r else x::y::r
def Hq (lt:Int→Int→Bool) (l:List Int):List Int:=l.foldl (λ r x=>Su lt x r) []
def Uv (lt:Int→Int→Bool) (l:List Int):List Int:=(Hq lt l).reverse
theorem Yy (lt:Int→Int→Bool) (x:Int):∀ r,(Su lt x r).Perm (x::r)
 | []=>.refl _
 | y::r=>by
  rw[Su]
  split
  ·exact((Yy lt x r).cons y).trans (.swap x y r)
  ·exact .refl _
theorem Qs (lt:Int→Int→Bool):∀ (l r:List Int),(l.foldl (λ r x=>Su lt x r) r).Perm (l++r)
 | [],r=>.refl _
 | x::l,r=>by
  rw[wT]
  refine(Qs lt l _).trans ?_
  refine((Yy lt x r).append_left l).trans ?_
  simp
theorem Mg (lt:Int→Int→Bool) (l:List Int):(Hq lt l).Perm l:=by
 have:=Qs lt l []
 simpa [Hq] using this
theorem Vn (lt:Int→Int→Bool) (l:List Int):(Uv lt l).Perm l:=(List.reverse_perm _).trans (Mg lt l)
theorem Alb (lt:Int→Int→Bool) (l:List Int) (i:Nat) (h:i<l.length):Hq lt (l.take (i+1))=Su lt l[i] (Hq lt (l.take i)):=by
 rw[zY h,Hq,xB]
 rfl
mutual
theorem W1 {K:List Nat}:∀ x:SV,x.inn []=true→x.inn K=true
 | .ptr _ _,h=>by simp[SV.inn,Oa]at h
 | .rpt _ _ _ _,h=>by simp[SV.inn,Oa]at h
 | .osl _,h=>by simp[SV.inn,Oa]at h
 | .agg l,h=>by simp only[SV.inn]at h ⊢;exact Sv l h
 | .tup l,h=>by simp only[SV.inn]at h ⊢;exact Sv l h
 | .ifc _ x,h=>by simp only[SV.inn]at h ⊢;exact W1 x h
 | .clo _ f l,h=>by simp only[SV.inn,zB]at h ⊢;exact⟨Sv f h.1,Sv l h.2⟩
 | .top,_=>rfl
 | .val _,_=>rfl
 | .sl _ _ _,_=>rfl
 | .ref _ _ _,_=>rfl
theorem Sv {K:List Nat}:∀ l:List SV,B7 [] l=true→B7 K l=true
 | [],_=>rfl
 | x::l,h=>by simp only[B7,zB]at h ⊢;exact⟨W1 x h.1,Sv l h.2⟩
end
theorem Acq (l:List Int) (c:Int→Int→Int) (Q:Int→Prop) (f:FuncId) (first cap:List SV) (hc:(SV.clo (.func f) first cap).inn []=true) (hf:∀ a b,Q a→Q b→Hh Tryz.prog f (first++[Aa a,Aa b]++cap) (Aa (c a b))) (hQ:∀ a∈l,Q a) (hl:Ak l) :
  Sq 314 [.osl 0,Aa 0,Aa l.length,.clo (.func f) first cap] [(0,.row 1 Aa l)] (.tup []) [(0,.row 1 Aa (Uv (λ a b=>decide (c a b<0)) l))]:=cT F314 Tryz.ntmps314 λ F hF=>by
 unfold Ak at hl
 have hin:∀ x y:Int,B7 [] (first++[Aa x,Aa y]++cap)=true:=λ x y=>C2 hc rfl
 have hc':(SV.clo (.func f) first cap).inn [0]=true:=W1 _ hc
 generalize hlt:(λ a b=>decide (c a b<0))=lt
 conv=>whnf
 (repeat' (refine⟨by (unfold I64;omega),?_⟩;((conv=>whnf))))
 refine Bi l.length (λ _=>True) (λ j=>[(0,.osl 0),(1,Aa 0),(2,Aa l.length),(3,.clo (.func f) first cap),(8,Aa ((j:Int)+1))]) (λ j=>[(0,.row 1 Aa ((Hq lt (l.take (j+1))).reverse++l.drop (j+1)))]) [] Y ⟨⟨E,E,E,E,E,E,A9 _,hc',E,E,Y⟩,⟨.inl (zD (Ob.row 1 Aa) ?_),E,Y⟩,E,E⟩ ?_
 ·cases l with
  | nil=>rfl
  | cons a l=>simp[Hq,Su]
 intro j hj _
 refine oO ?_
 constructor<;>intro h
 ·have hjl:j+1<l.length:=qA h
  have hdrop:l.drop (j+1)=l[j+1]::l.drop (j+1+1):=yI hjl
  have htake:=Alb lt l (j+1) hjl
  have hr:(Hq lt (l.take (j+1))).length=j+1:=by rw[(Mg lt _).length_eq];simp;omega
  have hQx:Q l[j+1]:=hQ _ (zE hjl)
  have hQr:∀ z∈Hq lt (l.take (j+1)),Q z:=λ z hz=>hQ z (wB ((Mg lt _).mem_iff.1 hz))
  rw[hdrop]
  generalize l[j+1]=x at htake hQx
  generalize Hq lt (l.take (j+1))=r at htake hr hQr
  generalize hR:l.drop (j+1+1)=R at *
  refine oO ?_
  refine Tk (α:={p:List Int × List Int // Su lt x r=p.2.reverse++Su lt x p.1∧p.1.length+p.2.length=j+1∧∀ z∈p.1,Q z}) (λ p=>[(0,.osl 0),(1,Aa 0),(2,Aa l.length),(3,.clo (.func f) first cap),(8,Aa ((j:Int)+1)),(9,Aa p.1.1.length)]) (λ p=>[(0,.row 1 Aa (p.1.1.reverse++x::(p.1.2++R)))]) (λ p=>p.1.1.length) ⟨(r,[]),by simp,by simpa using hr,hQr⟩ []
   ⟨⟨rfl,rfl,rfl,rfl,rfl,rfl,A9 _,hc',rfl,rfl,zD Aa (by rw[hr];omega),rfl,trivial⟩,⟨.inl rfl,rfl,trivial⟩,rfl,rfl⟩ ?_
  rintro ⟨⟨A,B⟩,hp1,hp2,hp3⟩
  simp only at hp1 hp2 hp3
  dsimp only
  cases A with
  | nil =>
   simp only[Su]at hp1
   (refine rg ?_;(conv=>whnf);refine aF ?_;refine oD ?_)
   refine⟨z_,?_⟩
   ((conv=>whnf);refine aF ?_;refine rg ?_;conv=>whnf)
   refine iW ?_
   refine Be [] Y q_ Y ⟨⟨E,E,E,E,E,E,A9 _,hc',zD Aa q_,E,Y⟩,⟨.inl (zD (Ob.row 1 Aa) ?_),E,Y⟩,E,E⟩
   show (Hq lt (l.take (j+1+1))).reverse++l.drop (j+1+1)=[].reverse++x::(B++R)
   rw[htake,hp1,hR]
   simp
  | cons y A =>
   have hQy:=hp3 y y_
   refine oO ?_
   refine⟨λ _=>?_,λ h=>zW (zN h) y_⟩
   refine oD ?_
   have e1:((y::A).reverse++x::(B++R))[(((y::A).length:Nat):Int).toNat]'y_=x:=by simp
   have e2:((y::A).reverse++x::(B++R))[((((y::A).length:Nat):Int)-1).toNat]'y_=y:=by simp
   refine⟨by omega,by simp,?_⟩
   conv=>whnf
   refine⟨E,by simp,?_⟩
   rw[e1]
   conv=>whnf
   refine⟨by unfold I64;simp at hp2;simp;omega,?_⟩
   conv=>whnf
   refine⟨by simp,by simp,?_⟩
   conv=>whnf
   refine⟨E,by simp,?_⟩
   rw[e2]
   conv=>whnf
   refine Ap1 (hf x y hQx hQy) E E E (by simp only[hin];rfl) z_ E ?_
   refine oD ?_
   refine kW ?_
   constructor<;>intro h2
   ·refine oO ?_
    refine⟨by unfold I64;simp at hp2;simp;omega,?_⟩
    conv=>whnf
    refine⟨by unfold I64;simp at hp2;simp;omega,?_⟩
    conv=>whnf
    refine⟨by simp,by simp,?_⟩
    conv=>whnf
    refine⟨E,by simp,?_⟩
    rw[e2]
    conv=>whnf
    refine⟨by omega,by simp,?_⟩
    conv=>whnf
    refine⟨E,by simp,?_⟩
    rw[e1]
    conv=>whnf
    refine⟨by omega,by simp,?_⟩
    conv=>whnf
    refine⟨E,by simp,y,E,E,?_⟩
    conv=>whnf
    refine⟨by simp,by simp,?_⟩
    conv=>whnf
    refine⟨E,by simp,x,E,E,?_⟩
    conv=>whnf
    refine kW ?_
    refine⟨by unfold I64;simp at hp2;simp;omega,?_⟩
    conv=>whnf
    have hxy:lt x y=true:=by rw[← hlt];exact h2
    refine U3 (α:={p:List Int × List Int // Su lt x r=p.2.reverse++Su lt x p.1∧p.1.length+p.2.length=j+1∧∀ z∈p.1,Q z}) (L:=λ p=>[(0,.osl 0),(1,Aa 0),(2,Aa l.length),(3,.clo (.func f) first cap),(8,Aa ((j:Int)+1)),(9,Aa p.1.1.length)]) (O:=λ p=>[(0,.row 1 Aa (p.1.1.reverse++x::(p.1.2++R)))]) (μ:=λ p=>p.1.1.length) (x:=⟨(y::A,B),hp1,hp2,hp3⟩)
     ⟨(A,y::B),by simp only[hp1,Su,hxy,if_true];simp,by simp at hp2 ⊢;omega,λ z hz=>hp3 z (by simp[hz])⟩ [] y_
     ⟨⟨rfl,rfl,rfl,rfl,rfl,rfl,A9 _,hc',rfl,rfl,zD Aa y_,rfl,trivial⟩,⟨.inl (zD (Ob.row 1 Aa) ?_),rfl,trivial⟩,rfl,rfl⟩
    simp
   ·refine oO ?_
    have hxy:lt x y=false:=by rw[← hlt];exact h2
    refine iW ?_
    refine Be [] Y q_ Y ⟨⟨E,E,E,E,E,E,A9 _,hc',zD Aa q_,E,Y⟩,⟨.inl (zD (Ob.row 1 Aa) ?_),E,Y⟩,E,E⟩
    show (Hq lt (l.take (j+1+1))).reverse++l.drop (j+1+1)=(y::A).reverse++x::(B++R)
    rw[htake,hp1,hR,Su,hxy]
    simp
 ·have h:=zN h
  have e:(Hq lt (l.take (j+1))).reverse++l.drop (j+1)=Uv lt l:=by
   rw[yX q_,List.drop_of_length_le q_,xJ]
   rfl
  rw[e]
  refine oO ?_
  exact A4 E .nil [] [(0,.row 1 Aa (Uv lt l))] (λ _ h=>h) E E ⟨Y,⟨.inl E,E,Y⟩,E,E⟩
theorem Azu (l:List Int) (c:Int→Int→Int) (Q:Int→Prop) (f:FuncId) (first cap:List SV) (hc:(SV.clo (.func f) first cap).inn []=true) (hf:∀ a b,Q a→Q b→Hh Tryz.prog f (first++[Aa a,Aa b]++cap) (Aa (c a b))) (hQ:∀ a∈l,Q a) (hl:l.length<20) :
  Sq 267 [.osl 0,Aa l.length,.clo (.func f) first cap] [(0,.row 1 Aa l)] (.tup []) [(0,.row 1 Aa (Uv (λ a b=>decide (c a b<0)) l))]:=cT F267 Tryz.ntmps267 λ F hF=>by
 have hc':(SV.clo (.func f) first cap).inn [0]=true:=W1 _ hc
 have hins:=Acq l c Q f first cap hc hf hQ (by unfold Ak;omega)
 generalize Uv (λ a b=>decide (c a b<0)) l=l' at hins
 conv=>whnf
 refine A5 0 (λ j=>[(0,.osl 0),(1,Aa l.length),(2,.clo (.func f) first cap),(6,Aa 20),(7,Aa 0),(8,Aa 20)]) (λ _=>[(0,.row 1 Aa l)]) [] ⟨⟨E,E,E,E,A9 _,hc',E,E,E,E,E,E,Y⟩,⟨.inl E,E,Y⟩,E,E⟩ ?_
 intro j hj
 refine oO ?_
 refine⟨λ h=>zW (zK h) q_,λ _=>?_⟩
 refine oO ?_
 refine Ag (Ad [] E F314 hins (Ig _) ⟨E,Y⟩ (by
  have h0:B7 [0] [.osl 0,Aa 0,Aa l.length,.clo (.func f) first cap]=true:=by simp only[B7,hc'];rfl
  simp only[Kt,Obs.keys,xR,vR,h0];rfl) ⟨.inl rfl,trivial⟩) rfl rfl ?_
 refine oO ?_
 refine A5 0 (λ j=>[(1,Aa l.length),(6,Aa 20)]) (λ _=>[(0,.row 1 Aa l')]) [] ⟨⟨E,E,E,E,Y⟩,⟨.inl E,E,Y⟩,E,E⟩ ?_
 clear hj
 intro j hj
 refine oO ?_
 refine⟨λ h=>zW (zK h) q_,λ _=>?_⟩
 refine oO ?_
 exact A4 E .nil [] [(0,.row 1 Aa l')] (λ _ h=>h) E E ⟨Y,⟨.inl E,E,Y⟩,E,E⟩
theorem Ajp (l:List Int) (c:Int→Int→Int) (Q:Int→Prop) (f:FuncId) (first cap:List SV) (hc:(SV.clo (.func f) first cap).inn []=true) (hf:∀ a b,Q a→Q b→Hh Tryz.prog f (first++[Aa a,Aa b]++cap) (Aa (c a b))) (hQ:∀ a∈l,Q a) (hl:l.length<20) :
  Sq 208 [.osl 0,.clo (.func f) first cap] [(0,.row 1 Aa l)] (.tup []) [(0,.row 1 Aa (Uv (λ a b=>decide (c a b<0)) l))]:=cT F208 Tryz.ntmps208 λ F hF=>by
 have hc':(SV.clo (.func f) first cap).inn [0]=true:=W1 _ hc
 have hst:=Azu l c Q f first cap hc hf hQ hl
 generalize Uv (λ a b=>decide (c a b<0)) l=l' at hst
 conv=>whnf
 refine Ag (Ad [] E F267 hst (Ig _) ⟨E,Y⟩ (by
  have h0:B7 [0] [.osl 0,Aa l.length,.clo (.func f) first cap]=true:=by simp only[B7,hc'];rfl
  simp only[Kt,Obs.keys,xR,vR,h0];rfl) ⟨.inl rfl,trivial⟩) rfl rfl ?_
 refine oO ?_
 exact A4 E .nil [] [(0,.row 1 Aa l')] (λ _ h=>h) E E ⟨Y,⟨.inl E,E,Y⟩,E,E⟩
def Aem (n:Net) (a b:Int):Int:=orI [cmpI (nth n.devices a).prio (nth n.devices b).prio,cmpI (nth n.devices a).mac (nth n.devices b).mac]
theorem ranks1 (n:Net) (a b:Int) (ha:0≤a∧a<n.devices.length) (hb:0≤b∧b<n.devices.length):Sp 209 [Aa a,Aa b,.ref 8 (Aj n) 0] (Aa (Aem n a b)):=cT F209 Tryz.ntmps209 λ F hF=>by
 have e1:Aem n a b=orI [cmpI (n.devices[a.toNat]'q_).prio (n.devices[b.toNat]'q_).prio,cmpI (n.devices[a.toNat]'q_).mac (n.devices[b.toNat]'q_).mac]:=by
  rw[Aem,Ae q_,Ae q_]
 rw[e1]
 conv=>whnf
 (repeat' (first | (refine Ap rfl (.cons .tmp .nil) ?_ rfl) | (refine⟨z_,?_⟩;((conv=>whnf))) | (refine⟨by (omega),by (omega),?_⟩;((conv=>whnf))) | (refine cD (I3 (n.devices[a.toNat]'q_).prio (n.devices[b.toNat]'q_).prio) F211 ?_;((refine rd z_ ?_);(conv=>whnf))) | (refine cD (Al8 (n.devices[a.toNat]'q_).mac (n.devices[b.toNat]'q_).mac) F212 ?_;((refine rd z_ ?_);(conv=>whnf))) | (refine Ayu [28] (orS [cmpI (n.devices[a.toNat]'q_).prio (n.devices[b.toNat]'q_).prio,cmpI (n.devices[a.toNat]'q_).mac (n.devices[b.toNat]'q_).mac] (by simp[Ak])) F210 rfl (.cons (.lit rfl rfl rfl) .nil) rfl z_ rfl ?_;((refine rd z_ ?_);(conv=>whnf)))))
 all_goals rfl
def Wp (m:Nat):List Int:=(List.range m).map λ (i:Nat)=>(i:Int)
theorem Afk (m:Nat):Wp (m+1)=Wp m++[(m:Int)]:=by simp[Wp,wL]
theorem Kc (m:Nat):(Wp m).length=m:=by simp[Wp]
def I9 (ord:List Int):Nat→List Int
 | 0=>List.replicate ord.length 0
 | j+1=>(I9 ord j).set (nth ord j).toNat j
theorem Ih (ord:List Int):∀ j,(I9 ord j).length=ord.length
 | 0=>by simp[I9]
 | j+1=>by simp[I9,Ih ord j]
def Ez (n:Net):List Int:=Uv (λ a b=>decide (Aem n a b<0)) (Wp n.devices.length)
def Cc (n:Net):List Int:=I9 (Ez n) n.devices.length
theorem ranksS (n:Net) (hn:n.Fin):Sp 143 [Aj n] (.sl 1 Aa (if Ab n then Cc n else [])):=cT F143 Tryz.ntmps143 λ F hF=>by
 have hl:=hn.devices
 unfold Ak at hl
 conv=>whnf
 refine c0 (Av n hn) F19 ?_
 refine oO ?_
 constructor<;>intro h
 ·have h:Ab n=false:=by simpa using h
  refine oO ?_
  refine Ao 2 1 Aa E ?_
  exact Ap E (.cons .tmp .nil) (by rw[h];rfl) E
 have h:Ab n=true:=by simpa using h
 have h8:n.devices.length≤8:=by
  simp only[Ab,Aew,zB,zG]at h
  exact h.1.1.1.1.1.1.1.1.1.1.1.1.1.1.1
 rw[h,zC rfl,Cc]
 refine oO ?_
 refine Az 1 8 (Aj n) E E E ?_
 refine Co 3 1000 1 Aa E E ?_
 refine A5 n.devices.length (λ j=>[(1,.ref 8 (Aj n) 0),(3,.osl 1000),(13,Aa n.devices.length),(14,Aa j)]) (λ j=>[(1000,.row 1 Aa (Wp j))]) [] ⟨⟨E,E,E,E,E,E,E,E,Y⟩,⟨.inl E,E,Y⟩,E,E⟩ ?_
 intro j hj
 refine oO ?_
 constructor<;>intro h2
 ·have hlt:j<n.devices.length:=by simpa using h2
  refine oO ?_
  refine Ag (Ah Γ.toTy 20 E E E E E (.row E) (.lit (l:=[(j:Int)]) E E) y_ (by simp[Kc];omega) (by simp[Kc];omega)) E E ?_
  refine oO ?_
  refine iW ?_
  exact Ax [(1000,20)] hlt ⟨⟨E,E,E,E,E,E,E,E,Y⟩,⟨.inl (zD (Ob.row 1 Aa) (Afk j)),E,Y⟩,E,E⟩
 have hjl:j=n.devices.length:=by have:¬ j<n.devices.length:=(by simpa using h2);omega
 subst hjl
 refine oO ?_
 have hsort:=Ajp (Wp n.devices.length) (Aem n) (λ a=>0≤a∧a<n.devices.length) 209 [] [.ref 8 (Aj n) 0] rfl (λ a b ha hb=>⟨⟨_,_,F209⟩,ranks1 n a b ha hb⟩) (λ a ha=>by
  obtain ⟨i,hi,rfl⟩:=yH.1 ha
  have:=xC.1 hi
  omega) (by rw[Kc];omega)
 have hslen:(Ez n).length=n.devices.length:=by rw[Ez,(Vn _ _).length_eq,Kc]
 have hsm:∀ a∈Ez n,0≤a∧a<n.devices.length:=λ a ha=>by
  have:=(Vn _ _).mem_iff.1 ha
  obtain ⟨i,hi,rfl⟩:=yH.1 this
  have:=xC.1 hi
  omega
 change Sy.Spec _ _ _ _ _ [(0,.row 1 Aa (Ez n))]at hsort
 generalize Ez n=sl at hsort hslen hsm
 refine Ag (Ad [(0,1000)] E F208 hsort E ⟨E,Y⟩ E ⟨.inl E,Y⟩) E E ?_
 refine oO ?_
 refine Ag (Bw Γ.toTy (d:=27) (n:=sl.length) Aa 0 E E E E E E E E q_ q_ E E E) E E ?_
 refine oO ?_
 refine A5 sl.length (λ j=>[(5,.osl 27),(28,.osl 1000),(29,Aa sl.length),(30,Aa j)]) (λ j=>[(1000,.row 1 Aa sl),(27,.row 1 Aa (I9 sl j))]) [] ⟨⟨E,E,E,E,E,E,E,E,Y⟩,⟨.inl E,E,.inl E,E,Y⟩,E,E⟩ ?_
 clear hj h2
 intro j hj
 refine oO ?_
 constructor<;>intro h2
 ·have hlt:j<sl.length:=by simpa using h2
  have hmj:=hsm _ (zE hlt)
  have hnth:nth sl j=sl[j]:=Ae (by simpa using hlt)
  have hfl:=Ih sl j
  refine oO ?_
  refine⟨by omega,by omega,?_⟩
  conv=>whnf
  refine⟨E,by omega,?_⟩
  conv=>whnf
  refine⟨hmj.1,by rw[hfl];exact(by omega:sl[j].toNat<sl.length),?_⟩
  conv=>whnf
  refine⟨E,by rw[hfl];exact(by omega:sl[j].toNat<sl.length),(j:Int),E,E,?_⟩
  conv=>whnf
  refine iW ?_
  exact Ax [] hlt ⟨⟨E,E,E,E,E,E,E,E,Y⟩,⟨.inl E,E,.inl (zD (Ob.row 1 Aa) (by rw[I9,hnth];rfl)),E,Y⟩,E,E⟩
 have hjl:j=n.devices.length:=by
  have:¬ j<sl.length:=by simpa using h2
  omega
 subst hjl
 refine oO ?_
 refine Ai 27 E ?_
 exact dN
def B0 (n:Net) (a b:Int):Bool :=
 if (nth n.devices a).prio≠(nth n.devices b).prio then decide ((nth n.devices a).prio<(nth n.devices b).prio) else
  if (nth n.devices a).mac≠(nth n.devices b).mac then decide ((nth n.devices a).mac<(nth n.devices b).mac) else decide (a<b)
def Jv (n:Net):List Int:=(List.range n.devices.length).map λ (i:Nat)=>(((List.range n.devices.length).countP λ k=>B0 n (k:Nat) i:Nat):Int)
end Go.Sy.YtljngfegfclkpaaGreat
namespace Go.Sy.YtljngfegfclkpaaGreat
theorem key_lt (n:Net) (a b:Int):decide (Aem n a b<0)=if (nth n.devices a).prio≠(nth n.devices b).prio then decide ((nth n.devices a).prio<(nth n.devices b).prio) else
  if (nth n.devices a).mac≠(nth n.devices b).mac then decide ((nth n.devices a).mac<(nth n.devices b).mac) else false:=by
 rw[Aem,O0,O0]
 rfl
theorem K9 (n:Net) (a:Int):B0 n a a=false:=by simp[B0]
theorem Th (n:Net) {a b c:Int} (h1:B0 n a b=true) (h2:B0 n b c=true):B0 n a c=true:=by
 unfold B0 at *
 generalize nth n.devices a=x at *
 generalize nth n.devices b=y at *
 generalize nth n.devices c=z at *
 grind
theorem Amp (n:Net) {a b:Int} (h1:B0 n a b=true):B0 n b a=false:=by
 cases h:B0 n b a with
 | false=>rfl
 | true=>have:=Th n h1 h;rw[K9]at this;cases this
theorem Afu (n:Net) {x y:Int} (h:y<x):decide (Aem n x y<0)=B0 n x y:=by
 rw[key_lt]
 unfold B0
 generalize nth n.devices x=p at *
 generalize nth n.devices y=q at *
 grind
theorem A0k (n:Net) {x y:Int} (h:y<x) (hk:B0 n x y=false):B0 n y x=true:=by
 unfold B0 at *
 generalize nth n.devices x=p at *
 generalize nth n.devices y=q at *
 grind
theorem Afx (n:Net) (x:Int):∀ (r:List Int),(∀ y∈r,y<x)→r.Pairwise (λ a b=>B0 n b a=true)→(Su (λ a b=>decide (Aem n a b<0)) x r).Pairwise (λ a b=>B0 n b a=true)
 | [],_,_=>by simp[Su]
 | y::r,hx,hp=>by
  have hy:=hx y y_
  rw[vO]at hp
  rw[Su]
  split
  ·rename_i hlt
   rw[Afu n hy]at hlt
   rw[vO]
   refine⟨λ z hz=>?_,Afx n x r (λ z hz=>hx z (by simp[hz])) hp.2⟩
   rcases yB.1 ((Yy _ x r).mem_iff.1 hz) with rfl | hz
   ·exact hlt
   ·exact hp.1 z hz
  ·rename_i hlt
   rw[Afu n hy]at hlt
   have hyx:=A0k n hy (by simpa using hlt)
   rw[vO,vO]
   refine⟨λ z hz=>?_,hp⟩
   rcases yB.1 hz with rfl | hz
   ·exact hyx
   ·exact Th n (hp.1 z hz) hyx
theorem Zx (n:Net):∀ m,(Hq (λ a b=>decide (Aem n a b<0)) (Wp m)).Pairwise (λ a b=>B0 n b a=true)
 | 0=>by simp[Hq,Wp]
 | m+1=>by
  rw[Afk,Hq,xB]
  refine Afx n m _ (λ y hy=>?_) (Zx n m)
  have:=(Mg _ _).mem_iff.1 hy
  obtain ⟨i,hi,rfl⟩:=yH.1 this
  have:=xC.1 hi
  omega
theorem Ym (n:Net):(Ez n).Pairwise (λ a b=>B0 n a b=true):=by
 rw[Ez,Uv,List.pairwise_reverse]
 exact Zx n _
theorem Ag3 (n:Net):(Ez n).Perm (Wp n.devices.length):=Vn _ _
theorem Al7 (n:Net) {l:List Int} (hp:l.Pairwise (λ a b=>B0 n a b=true)) (r:Nat) (hr:r<l.length):l.countP (λ k=>B0 n k l[r])=r:=by
 have hsplit:l=l.take r++l[r]::l.drop (r+1):=by
  rw[← yI hr,List.take_append_drop]
 have h1:(l.take r).countP (λ k=>B0 n k l[r])=r:=by
  rw[List.countP_eq_length.2 (λ k hk=>?_),zU]
  ·omega
  ·obtain ⟨i,hi,rfl⟩:=yR.1 hk
   simp only[zU]at hi
   rw[xV]
   exact wA.1 hp i r q_ hr q_
 have h2:(l.drop (r+1)).countP (λ k=>B0 n k l[r])=0:=by
  rw[List.countP_eq_zero]
  intro k hk
  obtain ⟨i,hi,rfl⟩:=yR.1 hk
  simp only[yN]at hi
  rw[wZ]
  have:=wA.1 hp r (r+1+i) hr q_ q_
  simp[Amp n this]
 calc l.countP (λ k=>B0 n k l[r])=(l.take r++l[r]::l.drop (r+1)).countP (λ k=>B0 n k l[r]):=zD _ hsplit
  _=r:=by rw[List.countP_append,List.countP_cons,h1,h2,K9];simp
theorem Wg (L:List Int) (hn:L.Nodup) (hm:∀ a∈L,0≤a∧a<L.length):∀ (j:Nat),j≤L.length→∀ (r:Nat) (hr:r<L.length),r<j→(I9 L j)[L[r].toNat]? = some (r:Int)
 | 0,_,r,_,h=>by omega
 | j+1,hj,r,hr,h=>by
  have hmr:=hm _ (zE hr)
  have hlen:=Ih L j
  have hnth:nth L (j:Int)=L[j]:=Ae (by simp;omega)
  rw[I9,hnth,uF]
  split
  ·rename_i he
   have hmj:=hm _ (zE (show j<L.length by omega))
   have hjr:L[j]=L[r]:=by omega
   have:j=r:=by
    have:=(List.getElem_inj (i:=j) (j:=r) (h₀:=by omega) (h₁:=hr) hn).1 hjr
    exact this
   subst this
   rw[zC q_]
  ·rename_i he
   have hne:r≠j:=λ e=>he (by subst e;rfl)
   exact Wg L hn hm j q_ r hr q_
theorem Aoh (m:Nat):(Wp m).Nodup:=by
 rw[Wp]
 exact List.Pairwise.map _ (λ (a b:Nat) (h:a≠b)=>by intro e;exact h q_) List.nodup_range
theorem Aby (n:Net):Cc n=Jv n:=by
 have hp:=Ag3 n
 have hlen:(Ez n).length=n.devices.length:=by rw[hp.length_eq,Kc]
 have hnd:(Ez n).Nodup:=hp.nodup_iff.2 (Aoh _)
 have hm:∀ a∈Ez n,0≤a∧a<(Ez n).length:=λ a ha=>by
  obtain ⟨i,hi,rfl⟩:=yH.1 (hp.mem_iff.1 ha)
  have:=xC.1 hi
  omega
 refine List.ext_getElem? λ i=>?_
 rcases vB i n.devices.length with hi | hi
 ·have hin:(i:Int)∈Ez n:=hp.mem_iff.2 (yH.2 ⟨i,xC.2 hi,rfl⟩)
  obtain ⟨r,hr,he⟩:=yR.1 hin
  have h1:=Wg (Ez n) hnd hm n.devices.length q_ r hr q_
  rw[he]at h1
  have h2:=Al7 n (Ym n) r hr
  rw[he,hp.countP_eq]at h2
  rw[Cc,Jv,vG,vX hi]
  simp only[zR]at h1
  rw[h1]
  simp only[vI]
  congr 2
  rw[← h2,Wp,List.countP_map]
  rfl
 ·rw[wD,wD]
  ·simp[Jv];omega
  ·rw[Cc,Ih];omega
theorem G_vw {C:Cx} {k:List KI} {s:SS} (d:Nat) (x:SV) (h:Vw s [] (s.σ d) x) (hg:G C k ⟨upd s.σ d x,s.h⟩):G C k s:=λ κ a w hs =>
 hg κ a w ⟨hs.defers,hs.size,hs.inv,hs.ctx,λ i=>by
  show Rd κ w (upd s.σ d x i) _
  by_cases hi:i=d
  ·subst hi;rw[Bn];exact Vw.rd hs.inv (λ _ hn=>by cases hn) h (hs.slot i)
  ·rw[Cf _ _ hi];exact hs.slot i,hs.obj⟩
end Go.Sy.YtljngfegfclkpaaGreat
namespace Go.Sy.YtljngfegfclkpaaGreat
open Go.Proofs
attribute [local irreducible] Go.Sy.G Go.Sy.DR
set_option maxRecDepth 20000
set_option maxHeartbeats 4000000
def Hl (p:Port):Bool:=decide (p.cost<1) || decide (p.cost>65535)
theorem costs1 (p:Port):Sp 207 [Aw p] (Ac (Hl p)):=cT F207 Tryz.ntmps207 λ F hF=>by
 conv=>whnf
 (repeat' (first | (refine⟨λ h=>?_,λ h=>?_⟩<;>(repeat (first | simp only[zG]at h | simp only[zV]at h))<;>((refine oO ?_))) | (refine Ap rfl (.cons .tmp .nil) ?_ rfl)))
 all_goals (refine zD Ac ?_;clear hF;grind [Hl])
theorem Vu (l:List Port) (p:Port→Bool) (f:FuncId) (first cap:List SV) (hc:(SV.clo (.func f) first cap).inn []=true) (hf:∀ x∈l,Hh Tryz.prog f (first++[Aw x]++cap) (Ac (p x))) (hl:Ak l) :
  Sp 206 [.sl 7 Aw l,.clo (.func f) first cap] (Ac (l.any p)):=cT F206 Tryz.ntmps206 λ F hF=>by
 have h0:B7 [] [.sl 7 Aw l,.clo (.func f) first cap]=true:=by simp only[B7,hc];rfl
 conv=>whnf
 refine Mi (Qp l p f first cap hc hf hl) F266 E E (by simp only[h0];rfl) E E ?_
 refine oO ?_
 exact Ap E (.cons .tmp .nil) (zD Ac (Kg _ _).symm) E
def Cn (n:Net):Bool:=!(n.ports.any Hl)
theorem Ayt (n:Net) (hl:Ak n.ports):Sp 142 [Aj n] (Ac (Cn n)):=cT F142 Tryz.ntmps142 λ F hF=>by
 conv=>whnf
 refine c0 (Vu n.ports Hl 207 [] [] E (λ x _=>⟨⟨_,_,F207⟩,costs1 x⟩) hl) F206 ?_
 refine oO ?_
 exact dN
end Go.Sy.YtljngfegfclkpaaGreat
namespace Go.Sy.YtljngfegfclkpaaGreat
open Go.Proofs
attribute [local irreducible] Go.Sy.G Go.Sy.DR
set_option maxRecDepth 100000
set_option maxHeartbeats 4000000
theorem Bc {α:Type} {l:List α} {i:Nat} {d:α} (h:i<l.length):l.getD i d=l[i]:=by simp[List.getD,h]
theorem Ov {n:Net} (h:Ab n=true) {i:Nat} (hi:i<n.ports.length):Iw n i n.ports[i]=true:=by
 simp only[Ab,zB]at h
 exact allB_iff.1 h.1.1.1.1.1.2 i hi
theorem Vg {n:Net} (h:Ab n=true) {i:Nat} (hi:i<n.links.length):Kx n i n.links[i]=true:=by
 simp only[Ab,zB]at h
 exact allB_iff.1 h.1.1.1.1.2 i hi
theorem Hb {n:Net} (h:Ab n=true):n.devices.length≤8∧n.ports.length≤40∧n.links.length≤20:=by
 simp only[Ab,Aew,zB,zG]at h
 omega
theorem To {n:Net} (h:Ab n=true) {i:Nat} (hi:i<n.ports.length):n.ports[i].link=-1∨(0≤n.ports[i].link∧n.ports[i].link<n.links.length):=by
 have:=Ov h hi
 simp only[Iw,Af,zB,yD,yA,zG]at this
 rcases this.2 with h1 | h1
 ·exact .inl h1
 ·exact .inr h1.1
theorem Sc {n:Net} (h:Ab n=true) {i:Nat} (hi:i<n.ports.length):0≤n.ports[i].dev∧n.ports[i].dev<n.devices.length:=by
 have:=Ov h hi
 simp only[Iw,Af,zB,zG]at this
 exact this.1.1.1.1.1.1.1.1
theorem Lc {n:Net} (h:Ab n=true) {i:Nat} (hi:i<n.links.length):(0≤n.links[i].a∧n.links[i].a<n.ports.length)∧0≤n.links[i].b∧n.links[i].b<n.ports.length:=by
 have:=Vg h hi
 simp only[Kx,Af,zB,zG]at this
 exact⟨this.1.1.1.1,this.1.1.1.2⟩
def Bu (n:Net) (i:Nat):Int:=(nth n.ports i).dev
def Kb (n:Net) (i:Nat):Int:=(nth n.ports i).cost
theorem Wm {n:Net} (hcost:Cn n=true) {i:Nat} (hi:i<n.ports.length):1≤Kb n i∧Kb n i≤65535:=by
 rw[Kb,Ae (l:=n.ports) (i:=(i:Int)) (by simpa using hi)]
 simp only[Cn,yK,wQ]at hcost
 have:=hcost _ (zE hi)
 simp only[Hl,yD,zG,uK]at this
 simp only[zR]
 omega
def Aym (d:Domain):SV:=.agg [Aa d.dev,Aa d.vlan,Aa d.vni,Aa d.irb,Aa d.row,.val (.slice none 0 0)]
theorem Aux {M:Nat→Prop} {w:World} (p:Domain) (hp:p.peers=[]) {v:Value} (h:RdD M w (Aym p) v):RdD M w (An p) v:=by
 simp only[Aym,An,RdD,RdDL,hp]at h ⊢
 obtain ⟨cs,h1,h2,v0,r0,h3,h4,v1,r1,h5,h6,v2,r2,h7,h8,v3,r3,h9,h10,v4,r4,h11,h12,v5,r5,h13,h14,h15⟩:=h
 exact⟨cs,h1,h2,v0,r0,h3,h4,v1,r1,h5,h6,v2,r2,h7,h8,v3,r3,h9,h10,v4,r4,h11,h12,v5,r5,h13,.inl ⟨Y,none,0,h14⟩,h15⟩
def A01 (c:UInt8):Int:=if 48≤c.toNat∧c.toNat≤57 then (c.toNat:Int)-48 else if 97≤c.toNat∧c.toNat≤102 then (c.toNat:Int)-87 else 16
end Go.Sy.YtljngfegfclkpaaGreat
namespace Go.Sy
open Go.RowKit
def OwnT {β:Type} (B:Nat) (T:Nat→Prop) (I:β→World→Prop):Prop :=
 ∀ s W W' row,I s W→W.grownBy W' row→(∀ r,row=some r→T r∨(B≤r∧∃ o:Obj,W.heap[r]? = some o∧o.isCells=false))→I s W'
theorem OwnT.alloc {β:Type} {B:Nat} {T:Nat→Prop} {I:β→World→Prop} (h:OwnT B T I) {s:β} {W:World} (o:Obj) (hs:I s W):I s (W.alloc o) :=
 h s W _ none hs ⟨rfl,rfl,rfl,by simp,λ k hk _=>Below.heap_alloc _ _ _ hk⟩ (λ r e=>by cases e)
variable {F:Fence} {n:Nat} {P:Program}
end Go.Sy
namespace Go.Proofs
open Go.RowKit Go.Shelf Go.Sy Go.Sy.YtljngfegfclkpaaGreat
attribute [local go_sem] Oper.semAt_some
structure SeqBox (W:World) (bp bs bv:Nat) (t:ByteArray):Prop where
 p:W.cell? ⟨bp,0,none⟩=some (.string ⟨#[46]⟩)
 s:W.cell? ⟨bs,0,none⟩=some (.string t)
 v:W.cell? ⟨bv,0,none⟩=some (.int .i64 0)
 f:W.frozen? ⟨bs,0,none⟩=false
def SameAt (bp bs bv:Nat) (W W':World):Prop:=W'.heap[bp]? = W.heap[bp]? ∧ W'.heap[bs]? = W.heap[bs]? ∧ W'.heap[bv]? = W.heap[bv]?
theorem SeqBox.keep {W W':World} {bp bs bv:Nat} {t:ByteArray} (h:SeqBox W bp bs bv t) (k:SameAt bp bs bv W W'):SeqBox W' bp bs bv t :=
 ⟨(World.cell?_of_block k.1).trans h.p,(World.cell?_of_block k.2.1).trans h.s,(World.cell?_of_block k.2.2).trans h.v,by
  have:W'.frozen? ⟨bs,0,none⟩=W.frozen? ⟨bs,0,none⟩:=by unfold World.frozen?;rw[k.2.1]
  rw[this];exact h.f⟩
end Go.Proofs
namespace Go.Sy
open Go.ChangeShapes Go.WideShapes Go.ChangeAt Go.RowKit
def κ0:Ka:=⟨λ _=>.new,λ _=>False⟩
theorem inv0 (w:World):Inv κ0 w :=
 ⟨λ i j b h=>(by cases h),λ k b h=>(by cases h),λ k b h=>(by cases h),λ b h=>False.elim h⟩
theorem Aiu {w w':World} {κ':Ka} (c:Ctx ⟨w,κ0,[]⟩ κ' w'):Below w.heap.size w w' :=
 ⟨c.os,c.tape,c.output,c.size,λ k hk=>c.old k hk (λ j h=>by cases h)⟩
section
variable {H:Type} {enc:TypeId × Value→H} {P:Program}
theorem Ub {W W':World} (hl:laidOutB P=true) (hb:Below W.heap.size W W'):∀ {ts:List TypeId} {vs:List Value} {ds:List (DataW H)} {ps:List MemPlace},(∀ t∈ts,P.readableRec t=true∧t<P.types.size) →
  (∀ x∈ps,x.block<W.heap.size)→DataW.TrodAll enc P W 0 (λ _=>true) true ts vs ds ps→DataW.TrodAll enc P W' 0 (λ b=>decide (b<W.heap.size)) true ts vs ds ps
 | [],_,_,_,_,_,h=>by
  obtain ⟨rfl,rfl,rfl⟩:=trodAll_nil h
  rfl
 | t::ts,_,_,_,ht,hp,h=>by
  obtain ⟨v,vs,d,ds,p,q,rfl,rfl,rfl,h1,h2⟩:=trodAll_cons h
  have:=ht t y_
  exact⟨p,q,Below.trod hl this.1 this.2 h1 hb (λ x hx=>hp x (by simp[hx])),Ub hl hb (λ t h=>ht t (by simp[h])) (λ x hx=>hp x (by simp[hx])) h2,E⟩
theorem Aua {f:FuncId} {fn:Func} {s:ChangeSpec} {W:World} {args:Array Value} {ds gs:List (DataW H)} {before:List MemPlace} {tb:TypeId} {A:List SV} (hv:s.vars=[]) (hl:laidOutB P=true)
  (hW:DataW.Whole enc P fn.params.toList s.vars false W args.toList ds gs before) (hts:∀ t∈fn.params.toList,P.readableRec t=true∧t<P.types.size) (hrt:fn.resultTypes=#[tb]) (hbt:P.underlying tb=some .bool)
  (hfn:∀ gs:List (DataW H),gs=[]→s.fn H (ds++gs)={ results:=[.lit (.bool true)],args:=ds }) (hA:RdL κ0 W A args.toList) (hs:Sy.Spec P f A [] (Ac true) []) :
  Calls P f args W λ e W'=>∃ v,e=.returned v∧s.post enc P fn false true false false W args v W':=by
 have hc:=hs κ0 W args.toList (inv0 W) (λ k hk=>zW rfl hk) hA (λ p hp=>by cases hp)
 simp only[Array.toArray_toList]at hc
 refine hc.mono ?_
 rintro e W' ⟨v,κ',rfl,ctx,inv,hR,_⟩
 have hvv:v=.bool true:=by simpa [Ac,Rd] using hR
 subst hvv
 have hb:=Aiu ctx
 have hW':=hW
 obtain ⟨p,q,h1,h2,h3,h4,h5⟩:=hW
 have hgs:gs=[]∧q=[]:=by
  rw[hv]at h2
  exact trodVars_none h2
 obtain ⟨rfl,rfl⟩:=hgs
 rw[xJ]at h3
 subst h3
 have hlt:∀ x∈before,x.block<W.heap.size:=λ x hx=>by simpa using hW'.lt x hx
 refine⟨_,rfl,ds,[],before,[],before,[],hW',?_,?_,?_,?_,λ h=>by cases h⟩
 ·rw[hfn [] rfl,hrt]
  exact trodAll_mk1 (shut_bool hbt true)
 ·rw[hfn [] rfl]
  exact Ub hl hb hts hlt h1
 ·rw[hv,hfn [] rfl]
  rfl
 ·exact hb.frame _
end
end Go.Sy
namespace Go.Sy
open Go.RowKit
theorem Ads {A B:World} {row:Option Nat} {k:Nat} {v:Value} (h:A.cell? ⟨k,0,none⟩=some v) (hg:A.grownBy B row) (hr:row≠some k):B.cell? ⟨k,0,none⟩=some v∧B.frozen? ⟨k,0,none⟩=A.frozen? ⟨k,0,none⟩:=by
 obtain ⟨o,ho,_⟩:=cells_of_cell h
 obtain ⟨_,_,_,_,h5⟩:=hg
 have e:B.heap[k]? = A.heap[k]?:=h5 k (Array.getElem?_eq_some_iff.1 ho).1 (λ e=>hr e.symm)
 refine⟨(World.cell?_of_block e).trans h,?_⟩
 unfold World.frozen?
 rw[e]
def Var1 (W:World) (k:Nat) (v:Value):Prop:=W.cell? ⟨k,0,none⟩=some v∧W.frozen? ⟨k,0,none⟩=false
theorem Var1.at {W:World} {B:Nat} {v:Value} {t:TypeId} (h:W.heap[B]? = some (.cells #[v] t (0,0))):Var1 W B v:=by
 constructor<;>simp[World.cell?,World.frozen?,h]
theorem Var1.new (W:World) (v:Value) (t:TypeId) {k:Nat} (hk:k=W.heap.size):Var1 (W.alloc (.cells #[v] t)) k v:=by
 subst hk
 exact Var1.at (World.alloc_heap_new W _)
theorem Var1.grown {A B:World} {row:Option Nat} {k:Nat} {v:Value} (h:Var1 A k v) (hg:A.grownBy B row) (hr:row≠some k):Var1 B k v :=
 ⟨(Ads h.1 hg hr).1,(Ads h.1 hg hr).2.trans h.2⟩
theorem Var1.alloc {A:World} {k:Nat} {v:Value} (h:Var1 A k v) (o:Obj):Var1 (A.alloc o) k v:=h.grown (World.grownBy_alloc A o none) y_
theorem Var1.set {A:World} {k:Nat} {v:Value} (h:Var1 A k v) (u:Value):Var1 (A.setCell ⟨k,0,none⟩ u) k u :=
 ⟨World.cell?_setCell_same' _ _ _ (by rw[h.1];rfl),by rw[World.frozen?_setCell];exact h.2⟩
theorem Var1.other {A:World} {k b:Nat} {v:Value} (h:Var1 A k v) (hb:b≠k) (u:Value):Var1 (A.setCell ⟨b,0,none⟩ u) k v :=
 ⟨(World.cell?_setCell_other _ _ _ _ (by intro e;cases e;exact hb rfl)).trans h.1,by rw[World.frozen?_setCell];exact h.2⟩
end Go.Sy
namespace Go.Proofs
open Go.RowKit Go.Shelf Go.Sy Go.Sy.YtljngfegfclkpaaGreat
attribute [local go_sem] Oper.semAt_some
def addrV:List ByteArray→Int
 | []=>0
 | l=>l.foldl (λ a x=>bits .or .u32 (IntKind.u32.wrap (a * 2 ^ 8)) (IntKind.u32.wrap (Ag4 x 255).1)) 0
def octB (x:ByteArray):Bool:=(Ag4 x 255).2
def Afg (s:ByteArray):Int × Bool:=if (Ag2 46 s).length=4∧(Ag2 46 s).all octB=true then (addrV (Ag2 46 s),true) else (0,false)
end Go.Proofs
namespace Go.Sy.YtljngfegfclkpaaGreat
open Go.Proofs
end Go.Sy.YtljngfegfclkpaaGreat
namespace Go.Sy.YtljngfegfclkpaaGreat
open Go.Proofs
attribute [local irreducible] Go.Sy.G Go.Sy.DR
set_option maxRecDepth 100000
set_option maxHeartbeats 4000000
theorem Awc (i:Int) (h0:0≤i) (h5:i≤5):Sp 118 [Aa i] (Bb (8 * (5-i))):=cT F118 Tryz.ntmps118 λ F hF=>by
 conv=>whnf
 refine iW ?_
 refine iW ?_
 refine Ap E (.cons .tmp .nil) (zD (λ z=>SV.val (.int .u64 z)) ?_) E
 rw[IntKind.wrap_u64]
 omega
def be:Nat→Nat→List UInt8
 | 0,_=>[]
 | k+1,m=>UInt8.ofNat (m / 256 ^ k)::be k m
theorem C1 (m:Nat):∀ k,(be k m).length=k
 | 0=>rfl
 | k+1=>by simp[be,C1 m k]
theorem Aiv (m:Nat):∀ (k j:Nat) (_h:j<k),(be k m).take (j+1)=(be k m).take j++[UInt8.ofNat (m / 256 ^ (k-1-j))]
 | 0,j,h=>by omega
 | k+1,0,h=>by simp[be]
 | k+1,j+1,h=>by
  have:=Aiv m k j q_
  simp only[be,tF,wN,this]
  rw[show k+1-1-(j+1)=k-1-j by omega]
theorem Ajt (m k:Nat) (hk:k≤7):IntKind.u8.wrap ((m:Int).fdiv (2 ^ (min (8 * (k:Int)).toNat IntKind.u64.bits)))=((UInt8.ofNat (m / 256 ^ k)).toNat:Int):=by
 have h1:min (8 * (k:Int)).toNat IntKind.u64.bits=8 * k:=by simp[IntKind.bits];omega
 rw[h1,xY _ (by exact Int.pow_nonneg j_),IntKind.wrap_u8]
 have h2:(2:Int) ^ (8 * k)=((256 ^ k:Nat):Int):=by rw[Int.pow_mul];simp
 rw[h2]
 simp
theorem put2 (l:List UInt8) (hl:l.length<1000000) (m:Nat):Sq 73 [.osl 0,Bb m] [(0,.row 1 Al l)] (.osl 1) [(0,.non),(1,.row 1 Al (l++be 6 m))]:=cT F73 Tryz.ntmps73 λ F hF=>by
 conv=>whnf
 refine Aqf 0 1 [0] E E j_ (by simp;rfl) ?_
 refine A5 6 (λ j=>[(0,.osl 1),(1,Bb m),(6,Aa j)]) (λ j=>[(0,.non),(1,.row 1 Al (l++(be 6 m).take j))]) [(0,0),(1,1)] ⟨⟨E,E,E,E,E,E,Y⟩,⟨.inl E,E,.inl (zD (Ob.row 1 Al) (xJ l)),E,Y⟩,E,E⟩ ?_
 intro j hj
 refine oO ?_
 constructor<;>intro h
 ·have hlt:j<6:=qA h
  refine oO ?_
  refine c0 (Awc j q_ q_) F118 ?_
  refine oO ?_
  refine⟨by omega,?_⟩
  conv=>whnf
  refine Ag (Ah Γ.toTy 16 E E E E E (.row E) (.lit (l:=[UInt8.ofNat (m / 256 ^ (5-j))]) E ?_) y_ ?_ ?_) E E ?_
  ·have:=Ajt m (5-j) q_
   rw[show ((5-j:Nat):Int)=5-(j:Int) by omega]at this
   simp only[xR,vR,Al,← this]
  ·simp[C1];omega
  ·simp[C1];omega
  refine oO ?_
  refine iW ?_
  exact Ax [(0,0),(1,16)] hlt ⟨⟨E,E,E,E,E,E,Y⟩,⟨.inl E,E,.inl (zD (Ob.row 1 Al) (by rw[Aiv _ _ _ hlt,yU])),E,Y⟩,E,E⟩
 ·have:j=6:=qB h
  subst this
  refine oO ?_
  exact done E (.cons .tmp .nil) [(0,0),(1,1)] _ (λ _ h=>h) E E ⟨Y,⟨.inl E,E,.inl E,E,Y⟩,E,E⟩
theorem put2n (m:Nat):Sq 73 [.val (.slice none 0 0),Bb m] [] (.osl 0) [(0,.row 1 Al (be 6 m))]:=cT F73 Tryz.ntmps73 λ F hF=>by
 conv=>whnf
 refine Co 0 1000 1 Al E E ?_
 refine A5 6 (λ j=>[(0,.osl 1000),(1,Bb m),(6,Aa j)]) (λ j=>[(1000,.row 1 Al ((be 6 m).take j))]) [] ⟨⟨E,E,E,E,E,E,Y⟩,⟨.inl E,E,Y⟩,E,E⟩ ?_
 intro j hj
 refine oO ?_
 constructor<;>intro h
 ·have hlt:j<6:=qA h
  refine oO ?_
  refine c0 (Awc j q_ q_) F118 ?_
  refine oO ?_
  refine⟨by omega,?_⟩
  conv=>whnf
  refine Ag (Ah Γ.toTy 16 E E E E E (.row E) (.lit (l:=[UInt8.ofNat (m / 256 ^ (5-j))]) E ?_) y_ ?_ ?_) E E ?_
  ·have:=Ajt m (5-j) q_
   rw[show ((5-j:Nat):Int)=5-(j:Int) by omega]at this
   simp only[xR,vR,Al,← this]
  ·simp[C1];omega
  ·simp[C1];omega
  refine oO ?_
  refine iW ?_
  exact Ax [(1000,16)] hlt ⟨⟨E,E,E,E,E,E,Y⟩,⟨.inl (zD (Ob.row 1 Al) (Aiv _ _ _ hlt)),E,Y⟩,E,E⟩
 ·have:j=6:=qB h
  subst this
  refine oO ?_
  exact done E (.cons .tmp .nil) [(0,1000)] _ (λ _ h=>h) E E ⟨Y,⟨.inl E,E,Y⟩,E,E⟩
def Ayf (d s:Nat) (t:Int) (body:List UInt8):SV:=.agg [Bb d,Bb s,Aa t,.sl 1 Al body]
def frame (d s t:Nat) (body:List UInt8):List UInt8:=be 6 d++be 6 s++[UInt8.ofNat (t / 256),UInt8.ofNat t]++body
theorem Hw (t:Nat):[UInt8.ofNat (t / 256),UInt8.ofNat t].map Al=[SV.val (.int .u8 (IntKind.u8.wrap ((t:Int).fdiv (2 ^ (min (Int.toNat 8) IntKind.i64.bits))))),SV.val (.int .u8 (IntKind.u8.wrap (t:Int)))]:=by
 have h1:IntKind.u8.wrap ((t:Int).fdiv (2 ^ (min (Int.toNat 8) IntKind.i64.bits)))=((UInt8.ofNat (t / 256)).toNat:Int):=by
  show IntKind.u8.wrap ((t:Int).fdiv 256)=_
  rw[xY _ j_,IntKind.wrap_u8]
  simp
 have h2:IntKind.u8.wrap (t:Int)=((UInt8.ofNat t).toNat:Int):=by
  rw[IntKind.wrap_u8]
  simp
 rw[h1,h2]
 rfl
theorem Alx (d s t:Nat) (body:List UInt8) (hd:d<281474976710656) (hs:s<281474976710656) (ht:t≤65535) (hb:body.length≤1504):Sq 29 [Ayf d s t body] [] (.tup [.osl 0,Aa 0]) [(0,.row 1 Al (frame d s t body))]:=cT F29 Tryz.ntmps29 λ F hF=>by
 conv=>whnf
 refine⟨λ h=>zW (zK h) q_,λ _=>?_⟩
 refine oO ?_
 refine⟨λ h=>zW (zK h) q_,λ _=>?_⟩
 refine oF ?_
 refine⟨λ h=>zW (zK h) q_,λ _=>?_⟩
 refine oO ?_
 refine⟨λ h=>zW (zK h) q_,λ _=>?_⟩
 refine oO ?_
 refine Bs (Ad [(0,31)] E F73 (put2n d) E Y E ⟨.inr E,Y⟩) z_ E ?_
 refine oD ?_
 refine Bs (Ad [(0,31),(1,34)] E F73 (put2 (be 6 d) (by simp[C1]) s) E ⟨E,Y⟩ E ⟨.inl E,.inr E,Y⟩) z_ E ?_
 refine oD ?_
 refine kW ?_
 refine⟨by decide,?_⟩
 conv=>whnf
 refine Bs (Ah Γ.toTy 44 E E E E E (.row E) (.lit (l:=[UInt8.ofNat (t / 256),UInt8.ofNat t]) E (Hw t)) j_ ?_ ?_) z_ E ?_
 ·simp[C1]
 ·simp[C1]
 refine oD ?_
 refine Bs (Ah Γ.toTy 47 E E E E E (.row E) .sl j_ ?_ ?_) z_ E ?_
 ·simp[C1];omega
 ·simp[C1];omega
 refine oD ?_
 refine kW ?_
 exact done E (.cons .tmp (.cons .tmp .nil)) [(0,47)] _ (λ _ h=>h) E E ⟨Y,⟨.inl E,E,Y⟩,E,E⟩
end Go.Sy.YtljngfegfclkpaaGreat
namespace Go.Sy.YtljngfegfclkpaaGreat
structure FrameM where
 dst:Nat
 src:Nat
 typ:Nat
 body:List UInt8
def Cw (f:FrameM):SV:=Ayf f.dst f.src f.typ f.body
structure StepM where
 kind:Int
 port:Int
 domain:Int
 at_:Int
 bytes:List UInt8
 up:List Bool
def D6 (x:StepM):SV:=.agg [Aa x.kind,Aa x.port,Aa x.domain,Aa x.at_,.sl 1 Al x.bytes,.sl 1 Ac x.up]
structure SeenM where
 port:Int
 origin:Int
 bytes:List UInt8
def Dw (x:SeenM):SV:=.agg [Aa x.port,Aa x.origin,.sl 1 Al x.bytes]
def hostN (ip:Int):Nat:=2199023255552+ip.toNat
def Hv (a bits:Int):Int:=if 0≤bits∧bits≤32 then a-a % 2 ^ (32-bits).toNat else 0
def E8 (n:Nat):Nat:=if n=0 then 0 else (n-1) % 65535+1
end Go.Sy.YtljngfegfclkpaaGreat
namespace Go.Sy.YtljngfegfclkpaaGreat
open Go.Proofs
attribute [local irreducible] Go.Sy.G Go.Sy.DR
set_option maxRecDepth 100000
set_option maxHeartbeats 4000000
def M5 (a bits:Int):SV:=.agg [A8 a,Aa bits]
theorem Ad2 (a bits:Int):Sp 238 [M5 a bits] (Ac (decide (0≤bits∧bits≤32))):=cT F238 Tryz.ntmps238 λ F hF=>by
 conv=>whnf
 (repeat' (first | (refine⟨λ h=>?_,λ h=>?_⟩<;>(repeat (first | simp only[zG]at h | simp only[zV]at h))<;>((refine oO ?_))) | (refine Ap rfl (.cons .tmp .nil) ?_ rfl)))
 all_goals (refine zD Ac ?_;clear hF;grind)
theorem Agq (a bits:Int) (h:0≤bits∧bits≤32):Sp 239 [M5 a bits] (A8 (2 ^ (32-bits).toNat-1)):=cT F239 Tryz.ntmps239 λ F hF=>by
 conv=>whnf
 refine iW ?_
 refine⟨by omega,?_⟩
 conv=>whnf
 refine Ap E (.cons .tmp .nil) ?_ E
 refine zD (λ z=>SV.val (.int .u32 z)) ?_
 obtain ⟨k,hk,hk2⟩:∃ k:Nat,(32-bits).toNat=k∧k≤32:=⟨_,rfl,by omega⟩
 have h1:min (32-bits).toNat IntKind.u32.bits=k:=by show min (32-bits).toNat 32=k;omega
 rw[h1,hk,IntKind.wrap_u32,IntKind.wrap_u32]
 have h2:(2:Int) ^ k≤4294967296:=by
  have:=vD (n:=2) j_ hk2
  rw[show (2:Int) ^ k=((2 ^ k:Nat):Int) by rw[uE];rfl]
  have e:(2:Nat) ^ 32=4294967296:=rfl
  rw[e]at this
  omega
 have h0:(1:Int)≤2 ^ k:=by
  have:=wJ (n:=k)
  rw[show (2:Int) ^ k=((2 ^ k:Nat):Int) by rw[uE];rfl]
  omega
 generalize (2:Int) ^ k=q at *
 omega
theorem Adx (a k:Nat) (ha:a<4294967296) (hk:k≤32):bits .andNot .u32 (a:Int) ((2 ^ k-1:Nat):Int)=((a-a % 2 ^ k:Nat):Int):=by
 have hp:=vD (n:=2) j_ hk
 have e32:(2:Nat) ^ 32=4294967296:=rfl
 rw[e32]at hp
 have h1:=wJ (n:=k)
 have x1:(BitVec.ofInt 32 (a:Int)).toNat=a:=by rw[BitVec.ofInt_natCast,BitVec.toNat_ofNat];exact yW q_
 have x2:(BitVec.ofInt 32 ((2 ^ k-1:Nat):Int)).toNat=2 ^ k-1:=by rw[BitVec.ofInt_natCast,BitVec.toNat_ofNat];exact yW q_
 have key:(BitVec.ofInt 32 (a:Int) &&& ~~~ BitVec.ofInt 32 ((2 ^ k-1:Nat):Int)).toNat=a-a % 2 ^ k:=by
  have hd:a-a % 2 ^ k=2 ^ k * (a / 2 ^ k):=by have:=vJ a (2 ^ k);omega
  rw[hd]
  refine tZ λ i=>?_
  rw[BitVec.testBit_toNat,BitVec.getLsbD_and,BitVec.getLsbD_not,← BitVec.testBit_toNat,← BitVec.testBit_toNat,x1,x2,Nat.testBit_two_pow_sub_one,Nat.testBit_two_pow_mul,Nat.testBit_div_two_pow]
  by_cases hi:i<k
  ·have:¬ i≥k:=by omega
   simp[hi,this]
  ·have h2:i≥k:=by omega
   have h3:i-k+k=i:=by omega
   by_cases h4:i<32
   ·simp[hi,h2,h4,h3]
   ·have h5:a.testBit i=false:=Nat.testBit_lt_two_pow (yO (by rw[← e32]at ha;exact ha) (vD j_ q_))
    rw[h3,h5]
    simp
 show IntKind.u32.wrap (((BitVec.ofInt 32 (a:Int) &&& ~~~ BitVec.ofInt 32 ((2 ^ k-1:Nat):Int)).toNat:Nat):Int)=_
 rw[key,IntKind.wrap_u32]
 omega
theorem Jz (a k:Nat) (bits:Int) (h:0≤bits∧bits≤32) (hk:(32-bits).toNat=k):Hv a bits=((a-a % 2 ^ k:Nat):Int):=by
 rw[Hv,zC h,hk]
 have h1:=Nat.mod_le a (2 ^ k)
 rw[show (2:Int) ^ k=((2 ^ k:Nat):Int) by rw[uE];rfl]
 omega
theorem Ad4 (a:Nat) (bits:Int) (ha:a<4294967296):Sp 174 [M5 a bits] (A8 (Hv a bits)):=cT F174 Tryz.ntmps174 λ F hF=>by
 have hr:=Ad2 a bits
 by_cases hb:0≤bits∧bits≤32
 ·have hrest:=Agq a bits hb
  rw[zL hb]at hr
  obtain ⟨k,hk,hk2⟩:∃ k:Nat,(32-bits).toNat=k∧k≤32:=⟨_,rfl,by omega⟩
  have hn:=Adx a k ha hk2
  have hf:=Jz a k bits hb hk
  have h1:=wJ (n:=k)
  have e2:(2:Int) ^ k-1=((2 ^ k-1:Nat):Int):=by
   rw[show (2:Int) ^ k=((2 ^ k:Nat):Int) by rw[uE];rfl]
   omega
  rw[hk,e2]at hrest
  rw[hf,← hn]
  refine fW ?_
  refine c0 hr F238 ?_
  refine fU ?_
  first | refine cD hrest F239 ?_ | refine c0 hrest F239 ?_
  refine fU ?_
  first | (refine⟨z_,?_⟩;(refine fW ?_)) | skip
  exact dN
 ·rw[zJ hb]at hr
  have hf:Hv a bits=0:=by rw[Hv,zA hb]
  rw[hf]
  refine fW ?_
  refine c0 hr F238 ?_
  refine fU ?_
  exact dN
def Ky (a bits:Int):Int:=if 0≤bits∧bits≤32 then Hv a bits+2 ^ (32-bits).toNat-1 else 0
theorem or_low (a k:Nat) (ha:a<4294967296) (hk:k≤32):bits .or .u32 (a:Int) ((2 ^ k-1:Nat):Int)=((a-a % 2 ^ k+(2 ^ k-1):Nat):Int):=by
 have hp:=vD (n:=2) j_ hk
 have e32:(2:Nat) ^ 32=4294967296:=rfl
 rw[e32]at hp
 have h1:=wJ (n:=k)
 have x1:(BitVec.ofInt 32 (a:Int)).toNat=a:=by rw[BitVec.ofInt_natCast,BitVec.toNat_ofNat];exact yW q_
 have x2:(BitVec.ofInt 32 ((2 ^ k-1:Nat):Int)).toNat=2 ^ k-1:=by rw[BitVec.ofInt_natCast,BitVec.toNat_ofNat];exact yW q_
 have hd:a-a % 2 ^ k=2 ^ k * (a / 2 ^ k):=by have:=vJ a (2 ^ k);omega
 have hsum:=xI (i:=k) (b:=2 ^ k-1) q_ (a / 2 ^ k)
 have key:(BitVec.ofInt 32 (a:Int) ||| BitVec.ofInt 32 ((2 ^ k-1:Nat):Int)).toNat=a-a % 2 ^ k+(2 ^ k-1):=by
  rw[hd,hsum]
  refine tZ λ i=>?_
  rw[BitVec.testBit_toNat,BitVec.getLsbD_or,← BitVec.testBit_toNat,← BitVec.testBit_toNat,x1,x2,Nat.testBit_or,Nat.testBit_two_pow_sub_one,Nat.testBit_two_pow_mul,Nat.testBit_div_two_pow]
  by_cases hi:i<k
  ·simp[hi]
  ·have h2:i≥k:=by omega
   have h3:i-k+k=i:=by omega
   simp[hi,h2,h3]
 show IntKind.u32.wrap (((BitVec.ofInt 32 (a:Int) ||| BitVec.ofInt 32 ((2 ^ k-1:Nat):Int)).toNat:Nat):Int)=_
 have hlt:(BitVec.ofInt 32 (a:Int) ||| BitVec.ofInt 32 ((2 ^ k-1:Nat):Int)).toNat<4294967296:=BitVec.isLt _
 rw[key]at hlt
 rw[key,IntKind.wrap_u32]
 omega
theorem Yx (a k:Nat) (bits:Int) (h:0≤bits∧bits≤32) (hk:(32-bits).toNat=k):Ky a bits=((a-a % 2 ^ k+(2 ^ k-1):Nat):Int):=by
 rw[Ky,zC h,hk,Jz a k bits h hk]
 have h1:=wJ (n:=k)
 rw[show (2:Int) ^ k=((2 ^ k:Nat):Int) by rw[uE];rfl]
 omega
theorem Y9 (a:Nat) (bits:Int) (ha:a<4294967296):Sp 175 [M5 a bits] (A8 (Ky a bits)):=cT F175 Tryz.ntmps175 λ F hF=>by
 have hr:=Ad2 a bits
 by_cases hb:0≤bits∧bits≤32
 ·have hrest:=Agq a bits hb
  rw[zL hb]at hr
  obtain ⟨k,hk,hk2⟩:∃ k:Nat,(32-bits).toNat=k∧k≤32:=⟨_,rfl,by omega⟩
  have hn:=or_low a k ha hk2
  have hf:=Yx a k bits hb hk
  have h1:=wJ (n:=k)
  have e2:(2:Int) ^ k-1=((2 ^ k-1:Nat):Int):=by
   rw[show (2:Int) ^ k=((2 ^ k:Nat):Int) by rw[uE];rfl]
   omega
  rw[hk,e2]at hrest
  rw[hf,← hn]
  refine fW ?_
  refine c0 hr F238 ?_
  refine fU ?_
  first | refine cD hrest F239 ?_ | refine c0 hrest F239 ?_
  refine fU ?_
  first | (refine⟨z_,?_⟩;(refine fW ?_)) | skip
  exact dN
 ·rw[zJ hb]at hr
  have hf:Ky a bits=0:=by rw[Ky,zA hb]
  rw[hf]
  refine fW ?_
  refine c0 hr F238 ?_
  refine fU ?_
  exact dN
theorem Azd (a b:Nat) (ha:a<4294967296) (hb:b<4294967296):bits .xor .u32 (a:Int) (b:Int)=((a ^^^ b:Nat):Int):=by
 have x1:(BitVec.ofInt 32 (a:Int)).toNat=a:=by rw[BitVec.ofInt_natCast,BitVec.toNat_ofNat];exact yW q_
 have x2:(BitVec.ofInt 32 (b:Int)).toNat=b:=by rw[BitVec.ofInt_natCast,BitVec.toNat_ofNat];exact yW q_
 show IntKind.u32.wrap (((BitVec.ofInt 32 (a:Int) ^^^ BitVec.ofInt 32 (b:Int)).toNat:Nat):Int)=_
 have hlt:(BitVec.ofInt 32 (a:Int) ^^^ BitVec.ofInt 32 (b:Int)).toNat<4294967296:=BitVec.isLt _
 rw[BitVec.toNat_xor,x1,x2]at hlt ⊢
 rw[IntKind.wrap_u32]
 omega
theorem Axh (a x k:Nat) (ha:a<4294967296) (hx:x<4294967296) (hk:k≤32):(bits .andNot .u32 (bits .xor .u32 (a:Int) (x:Int)) ((2 ^ k-1:Nat):Int) == 0)=decide (a / 2 ^ k=x / 2 ^ k):=by
 have hxl:a ^^^ x<4294967296:=Nat.xor_lt_two_pow (n:=32) ha hx
 rw[Azd a x ha hx,Adx _ k hxl hk]
 have hd:(a ^^^ x)-(a ^^^ x) % 2 ^ k=2 ^ k * ((a ^^^ x) / 2 ^ k):=by have:=vJ (a ^^^ x) (2 ^ k);omega
 rw[hd,Nat.xor_div_two_pow]
 have h1:=wJ (n:=k)
 by_cases h:a / 2 ^ k=x / 2 ^ k
 ·rw[h,Nat.xor_self]
  simp
 ·rw[zJ h]
  have:a / 2 ^ k ^^^ x / 2 ^ k≠0:=λ e=>h (by
   have:=zD (λ z=>z ^^^ x / 2 ^ k) e
   simpa [Nat.xor_assoc] using this)
  rw[zO]
  intro e
  have e:=Int.natCast_eq_zero.1 e
  rcases Nat.mul_eq_zero.1 e with e | e
  ·omega
  ·exact this e
theorem Asu (a x q:Nat) (hq:0<q):(a / q=x / q)↔(a-a % q≤x∧x≤a-a % q+(q-1)):=by
 have h1:=vJ a q
 have hd:a-a % q=q * (a / q):=by omega
 rw[hd]
 constructor
 ·intro e
  have h2:=vJ x q
  have h3:=uY x hq
  rw[← e]at h2
  omega
 ·rintro ⟨h2,h3⟩
  symm
  rw[Nat.div_eq_iff hq]
  generalize a / q=m at *
  have:q * m=m * q:=vH ..
  constructor<;>omega
def Dd (n:Net):Prop:=∀ x∈n.irbs,0≤x.addr∧x.addr<4294967296
end Go.Sy.YtljngfegfclkpaaGreat
namespace Go.Sy.YtljngfegfclkpaaGreat
theorem Apd {α:Type} {l:List α} {i:Nat} {d:α} (h:i<l.length):l.getD i d=l[i]:=by simp[List.getD,h]
theorem Alq {n:Nat} (h:n≤65535):E8 n=n:=by
 unfold E8
 split<;>omega
theorem Apf {n:Nat} (h:65535<n):E8 (n / 65536+n % 65536)=E8 n∧n / 65536+n % 65536<n:=by
 unfold E8
 rw[zA q_,zA q_]
 omega
theorem Aun (a x:Nat) (hx:x≤65535):E8 (a+x)=if 65535<E8 a+x then E8 a+x-65535 else E8 a+x:=by
 unfold E8
 split<;>split<;>split<;>omega
theorem Alr (n:Nat):E8 n≤65535:=by
 unfold E8
 split<;>omega
def L8 (l:List UInt8):Nat→Nat
 | 0=>0
 | j+1=>L8 l j+((l.getD (2 * j) 0).toNat * 256+(l.getD (2 * j+1) 0).toNat)
theorem Aqg (l:List UInt8):∀ j,L8 l j≤65535 * j
 | 0=>zZ _
 | j+1=>by
  have ih:=Aqg l j
  have h1:=(l.getD (2 * j) 0).toNat_lt
  have h2:=(l.getD (2 * j+1) 0).toNat_lt
  rw[L8]
  omega
def Afa (l:List UInt8):Nat:=65535-E8 (L8 l (l.length / 2))
theorem Eb (n:Nat):(UInt8.ofNat n).toNat=n % 256:=by simp
end Go.Sy.YtljngfegfclkpaaGreat
namespace Go.Sy.YtljngfegfclkpaaGreat
open Go.Proofs
attribute [local irreducible] Go.Sy.G Go.Sy.DR
set_option maxRecDepth 100000
set_option maxHeartbeats 4000000
theorem J0 (a b:Nat) (ha:a<9223372036854775808) (hb:b<9223372036854775808):bits .and .i64 (a:Int) (b:Int)=((a &&& b:Nat):Int):=by
 have hx:a &&& b<2 ^ 63:=Nat.lt_of_le_of_lt Nat.and_le_left ha
 have h1:(BitVec.ofInt 64 (a:Int)).toNat=a:=by
  rw[BitVec.ofInt_natCast,BitVec.toNat_ofNat];exact yW q_
 have h2:(BitVec.ofInt 64 (b:Int)).toNat=b:=by
  rw[BitVec.ofInt_natCast,BitVec.toNat_ofNat];exact yW q_
 show IntKind.i64.wrap ((BitVec.ofInt 64 (a:Int) &&& BitVec.ofInt 64 (b:Int)).toNat:Int)=_
 rw[BitVec.toNat_and,h1,h2,IntKind.wrap_i64]
 omega
theorem D8 (a b:Nat) (ha:a<9223372036854775808) (hb:b<9223372036854775808):bits .or .i64 (a:Int) (b:Int)=((a ||| b:Nat):Int):=by
 have hx:a ||| b<2 ^ 63:=Nat.or_lt_two_pow q_ q_
 have h1:(BitVec.ofInt 64 (a:Int)).toNat=a:=by
  rw[BitVec.ofInt_natCast,BitVec.toNat_ofNat];exact yW q_
 have h2:(BitVec.ofInt 64 (b:Int)).toNat=b:=by
  rw[BitVec.ofInt_natCast,BitVec.toNat_ofNat];exact yW q_
 show IntKind.i64.wrap ((BitVec.ofInt 64 (a:Int) ||| BitVec.ofInt 64 (b:Int)).toNat:Int)=_
 rw[BitVec.toNat_or,h1,h2,IntKind.wrap_i64]
 omega
theorem Aqo (n k:Nat) (hk:k<64):(n:Int).fdiv (2 ^ (min (Int.toNat (k:Int)) IntKind.i64.bits))=((n / 2 ^ k:Nat):Int):=by
 have h1:min (Int.toNat (k:Int)) IntKind.i64.bits=k:=by simp[IntKind.bits];omega
 rw[h1,xY _ (by exact Int.pow_nonneg j_)]
 simp
theorem A06 (n:Nat) (h:n<9223372036854775808):bits .and .i64 (n:Int) 65535=((n % 65536:Nat):Int):=by
 have:=J0 n 65535 h j_
 rw[show ((65535:Nat):Int)=65535 from rfl]at this
 rw[this]
 have h2:=vQ n 16
 rw[show 2 ^ 16-1=65535 from rfl,show 2 ^ 16=65536 from rfl]at h2
 rw[h2]
theorem Auw (n:Nat) (h:n<9223372036854775808):Sq 242 [.ptr 0 0] [(0,.box [Aa n])] (.tup []) [(0,.box [Aa (n / 65536+n % 65536:Nat)])]:=cT F242 Tryz.ntmps242 λ F hF=>by
 have e1:(n:Int).fdiv (2 ^ (min (Int.toNat 16) IntKind.i64.bits))=((n / 65536:Nat):Int):=Aqo n 16 j_
 have e2:=A06 n h
 conv=>whnf
 first | (refine⟨by omega,?_⟩;(conv=>whnf)) | skip
 rw[e1,e2]
 refine iW ?_
 exact A4 E .nil [] [(0,.box [Aa (n / 65536+n % 65536:Nat)])] (λ _ h=>h) E E ⟨Y,⟨.inl E,E,Y⟩,E,E⟩
theorem Av1 (n:Nat) (h:n<9223372036854775808):Sp 180 [Aa n] (Aa (E8 n)):=cT F180 Tryz.ntmps180 λ F hF=>by
 conv=>whnf
 refine Tk (α:={m:Nat // E8 m=E8 n∧m≤n}) (λ m=>[(3,.clo (.func 242) [] [.ptr 1 0]),(1,.ptr 1 0)]) (λ m=>[(1,.box [Aa m.1])]) (λ m=>m.1) ⟨n,E,zZ _⟩ []
  ⟨⟨rfl,rfl,rfl,rfl,trivial⟩,⟨.inl rfl,rfl,trivial⟩,rfl,rfl⟩ ?_
 rintro ⟨m,h1,h2⟩
 dsimp only
 refine oO ?_
 constructor<;>intro h3
 ·have hmm:65535<m:=by have:=zK h3;omega
  obtain ⟨g1,g2⟩:=Apf hmm
  refine oO ?_
  refine Ag (Bz [(0,1)] (Cb E E F242) (Auw m q_) E ⟨E,Y⟩ E ⟨.inl E,Y⟩) E E ?_
  refine oO ?_
  exact U3 (α:={m:Nat // E8 m=E8 n∧m≤n}) (x:=⟨m,h1,h2⟩) ⟨m / 65536+m % 65536,by rw[g1,h1],by omega⟩ [] g2 ⟨⟨E,E,E,E,Y⟩,⟨.inl E,E,Y⟩,E,E⟩
 ·have hmm:m≤65535:=by have:=zN h3;omega
  have e:E8 n=m:=by rw[← h1,Alq hmm]
  refine oO ?_
  refine Ap E (.cons .tmp .nil) ?_ E
  exact zD (λ z:Nat=>Aa z) e
theorem H1 (a b:UInt8):bits .or .i64 (IntKind.i64.wrap ((IntKind.i64.wrap (a.toNat:Int)) * 2 ^ min (Int.toNat 8) IntKind.i64.bits)) (IntKind.i64.wrap (b.toNat:Int))=((a.toNat * 256+b.toNat:Nat):Int):=by
 have h1:=a.toNat_lt
 have h2:=b.toNat_lt
 have e1:IntKind.i64.wrap (a.toNat:Int)=(a.toNat:Int):=by rw[IntKind.wrap_i64];omega
 have e2:IntKind.i64.wrap (b.toNat:Int)=(b.toNat:Int):=by rw[IntKind.wrap_i64];omega
 rw[e1,e2]
 have h3:IntKind.i64.wrap ((a.toNat:Int) * 2 ^ min (Int.toNat 8) IntKind.i64.bits)=((a.toNat * 256:Nat):Int):=by
  show IntKind.i64.wrap ((a.toNat:Int) * 256)=_
  rw[IntKind.wrap_i64]
  omega
 rw[h3,D8 _ _ q_ q_]
 congr 1
 have h:=xI (i:=8) (b:=b.toNat) q_ a.toNat
 rw[vH a.toNat 256]
 exact h.symm
theorem Aqk (l:List UInt8) (hl:l.length<100000) (h2:l.length % 2=0):Sp 117 [.sl 1 Al l] (Aa (E8 (L8 l (l.length / 2)))):=cT F117 Tryz.ntmps117 λ F hF=>by
 conv=>whnf
 refine A5 (l.length / 2) (λ j=>[(0,.sl 1 Al l),(3,Aa (L8 l j)),(4,Aa (2 * (j:Int)))]) (λ _=>[]) [] ⟨⟨E,E,E,E,E,E,Y⟩,Y,E,E⟩ ?_
 intro j hj
 have hw:=Aqg l j
 refine oO ?_
 refine iW ?_
 constructor<;>intro h
 ·have hlt:2 * j+1<l.length:=qA h
  have hs:L8 l (j+1)=L8 l j+((l[2 * j]'q_).toNat * 256+(l[2 * j+1]'hlt).toNat):=by
   rw[L8,Apd (show 2 * j<l.length by omega),Apd hlt]
  have e1:l[(2 * (j:Int)).toNat]'q_=l[2 * j]'q_:=by congr 1
  have e2:l[(2 * (j:Int)+1).toNat]'q_=l[2 * j+1]'hlt:=by congr 1
  have hp:=H1 (l[2 * j]'q_) (l[2 * j+1]'hlt)
  have hb1:=(l[2 * j]'q_).toNat_lt
  have hb2:=(l[2 * j+1]'hlt).toNat_lt
  rw[← e1,← e2]at hp hs
  rw[← e1]at hb1
  rw[← e2]at hb2
  refine oO ?_
  refine⟨E,by omega,by omega,?_⟩
  conv=>whnf
  refine⟨by omega,?_⟩
  conv=>whnf
  refine iW ?_
  refine⟨E,by omega,by omega,?_⟩
  conv=>whnf
  refine⟨(by rw[hp];unfold I64;omega),?_⟩
  conv=>whnf
  refine kW ?_
  refine iW ?_
  refine Ax [] q_ ⟨⟨E,E,zD (λ z=>SV.val (.int .i64 z)) ?_,E,zD (λ z=>SV.val (.int .i64 z)) ?_,E,Y⟩,Y,E,E⟩
  ·rw[hp,hs];omega
  ·omega
 have hjl:j=l.length / 2:=by
  have:=zN h
  omega
 have hpar:¬ bits .and .i64 (l.length:Int) 1=1:=by
  have:=J0 l.length 1 q_ j_
  rw[show ((1:Nat):Int)=1 from rfl]at this
  rw[this,Nat.and_one_is_mod,h2]
  decide
 have hd:=Av1 (L8 l j) q_
 rw[hjl]at hd ⊢
 clear hjl
 refine oO ?_
 refine⟨λ h=>zW (zK h) hpar,λ _=>?_⟩
 refine oO ?_
 refine c0 hd F180 ?_
 refine oO ?_
 exact dN
theorem sumOfS (l:List UInt8) (hl:l.length<100000) (h2:l.length % 2=0):Sp 72 [.sl 1 Al l] (Aa (Afa l)):=cT F72 Tryz.ntmps72 λ F hF=>by
 have ha:=Aqk l hl h2
 have hle:=Alr (L8 l (l.length / 2))
 conv=>whnf
 refine c0 ha F117 ?_
 refine oO ?_
 refine iW ?_
 refine Ap E (.cons .tmp .nil) ?_ E
 refine zD Aa ?_
 rw[Afa]
 omega
def Aw6 (n:Nat):SV:=Aa n
def Lq (l:List Nat):List UInt8:=l.flatMap λ n=>[UInt8.ofNat (n / 256),UInt8.ofNat n]
theorem Aeg (l:List Nat):(Lq l).length=2 * l.length:=by
 induction l with
 | nil=>rfl
 | cons a l ih=>simp only[Lq,wY,zI,yJ,xA]at ih ⊢;omega
theorem Aki (l:List Nat) (n:Nat):Lq (l++[n])=Lq l++[UInt8.ofNat (n / 256),UInt8.ofNat n]:=by simp[Lq]
theorem Ag5 (a b:Int) (h:0≤a∧a≤b):Sp 70 [Aa a,Aa b] (Ac true):=cT F70 Tryz.ntmps70 λ F hF=>by
 conv=>whnf
 refine⟨λ _=>?_,λ h2=>zW (zN h2) q_⟩
 refine oO ?_
 refine Ap E (.cons .tmp .nil) ?_ E
 exact zD Ac (zL h.2).symm
theorem Axt (l:List Nat) (hl:l.length<100000):Sq 71 [.val (.slice none 0 0),.sl 1 Aw6 l] [] (.osl 0) [(0,.row 1 Al (Lq l))]:=cT F71 Tryz.ntmps71 λ F hF=>by
 conv=>whnf
 refine Co 0 1000 1 Al E E ?_
 refine A5 l.length (λ j=>[(0,.osl 1000),(7,.sl 1 Aw6 l),(8,Aa l.length),(9,Aa j)]) (λ j=>[(1000,.row 1 Al (Lq (l.take j)))]) [] ⟨⟨E,E,E,E,E,E,E,E,Y⟩,⟨.inl E,E,Y⟩,E,E⟩ ?_
 intro j hj
 have hpl:=Aeg (l.take j)
 refine oO ?_
 constructor<;>intro h
 ·have hlt:j<l.length:=by simpa using h
  have e1:l[(j:Int).toNat]'q_=l[j]:=rfl
  have hsucc:Lq (l.take (j+1))=Lq (l.take j)++[UInt8.ofNat (l[j] / 256),UInt8.ofNat l[j]]:=by
   rw[zY hlt,Aki]
  obtain ⟨n,hn⟩:∃ n,l[j]=n:=⟨_,rfl⟩
  rw[hn]at e1 hsucc
  have htb:=Hw n
  refine oO ?_
  refine⟨E,by omega,by omega,?_⟩
  rw[e1]
  conv=>whnf
  refine⟨by omega,?_⟩
  conv=>whnf
  refine Ag (Ah Γ.toTy 20 E E E E E (.row E) (.lit (e:=Al) (l:=[UInt8.ofNat (n / 256),UInt8.ofNat n]) E htb) y_ (by simp[hpl];omega) (by simp[hpl];omega)) E E ?_
  refine oO ?_
  refine iW ?_
  exact Ax [(1000,20)] hlt ⟨⟨E,E,E,E,E,E,E,E,Y⟩,⟨.inl (zD (Ob.row 1 Al) hsucc),E,Y⟩,E,E⟩
 ·have hjl:j=l.length:=by
   have:¬ j<l.length:=by simpa using h
   omega
  subst hjl
  rw[yG]
  refine oO ?_
  exact done E (.cons .tmp .nil) [(0,1000)] [(0,.row 1 Al (Lq l))] (λ _ h=>h) E E ⟨Y,⟨.inl E,E,Y⟩,E,E⟩
theorem u8_of (n:Nat):IntKind.u8.wrap (n:Int)=((UInt8.ofNat n).toNat:Int):=by
 rw[IntKind.wrap_u8]
 simp
theorem Aa6 {x:Int} (h0:0≤x) (h1:x<18446744073709551616):IntKind.u64.wrap x=x:=by rw[IntKind.wrap_u64];omega
theorem Af1 (ip:Nat) (h:ip<4294967296):Sp 28 [A8 ip] (Bb (hostN ip)):=cT F28 Tryz.ntmps28 λ F hF=>by
 conv=>whnf
 refine Ap E (.cons .tmp .nil) ?_ E
 refine zD (λ z=>SV.val (.int .u64 z)) ?_
 have e:IntKind.u64.wrap (ip:Int)=ip:=Aa6 q_ q_
 rw[e]
 have hb:=bits_or_u64_nat 2199023255552 ip j_ q_
 rw[show ((2199023255552:Nat):Int)=2199023255552 from rfl]at hb
 rw[hb,hostN,zR]
 have h2:=xI (i:=32) (b:=ip) q_ 512
 rw[show 2 ^ 32 * 512=2199023255552 from rfl]at h2
 rw[← h2]
end Go.Sy.YtljngfegfclkpaaGreat
