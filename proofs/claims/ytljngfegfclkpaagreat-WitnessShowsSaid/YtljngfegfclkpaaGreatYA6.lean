/-
  S3: parts of a proof, joined by program.
-/
import Derived.Test.YtljngfegfclkpaaGreatYA5
set_option linter.all false
set_option linter.unusedVariables false
set_option linter.unusedSimpArgs false
set_option linter.deprecated false
namespace Go.Sy.YtljngfegfclkpaaGreat
open Go.Proofs
attribute [local irreducible] Go.Sy.G Go.Sy.DR
set_option maxRecDepth 100000
set_option maxHeartbeats 4000000
theorem It {κ:Ka} {w:World} {k sz:Nat} {α:Type} {e:α→SV} {l:List α} (hne:l≠[]) (h:ObOK κ w k (.row sz e l)):∃ b n c,κ k=.row b n c:=by
 rcases h with ⟨_,h⟩ | ⟨b,cap,_,_,_,h,_⟩
 ·exact zW h hne
 ·exact⟨b,_,cap,h⟩
theorem Ais (l:List Device) (hl:l.length<2147483648):Sp 82 [.sl 5 Aq l] (.sl 5 Aq l):=cT F82 Tryz.ntmps82 λ F hF=>by
 conv=>whnf
 refine Du E (.inl E) E E E .sl E E ?_
 intro b hb
 cases b
 ·refine oF ?_
  refine Ag (Ah Γ.toTy 7 E E E E E (.lit (e:=Aq) (l:=[]) E E) .sl y_ (by simp;omega) (by simp;omega)) E E ?_
  refine Ai 7 E ?_
  refine oO ?_
  exact dN
 ·have h0:l=[]:=zQ (hb rfl)
  subst h0
  refine oT ?_
  refine Ao 2 5 Aq E ?_
  exact dN
theorem Apy (l:List Link) (hl:l.length<2147483648):Sp 84 [.sl 3 Br l] (.sl 3 Br l):=cT F84 Tryz.ntmps84 λ F hF=>by
 conv=>whnf
 refine Du E (.inl E) E E E .sl E E ?_
 intro b hb
 cases b
 ·refine oF ?_
  refine Ag (Ah Γ.toTy 7 E E E E E (.lit (e:=Br) (l:=[]) E E) .sl y_ (by simp;omega) (by simp;omega)) E E ?_
  refine Ai 7 E ?_
  refine oO ?_
  exact dN
 ·have h0:l=[]:=zQ (hb rfl)
  subst h0
  refine oT ?_
  refine Ao 2 3 Br E ?_
  exact dN
theorem Aip (l:List Static) (hl:l.length<2147483648):Sp 86 [.sl 4 As l] (.sl 4 As l):=cT F86 Tryz.ntmps86 λ F hF=>by
 conv=>whnf
 refine Du E (.inl E) E E E .sl E E ?_
 intro b hb
 cases b
 ·refine oF ?_
  refine Ag (Ah Γ.toTy 7 E E E E E (.lit (e:=As) (l:=[]) E E) .sl y_ (by simp;omega) (by simp;omega)) E E ?_
  refine Ai 7 E ?_
  refine oO ?_
  exact dN
 ·have h0:l=[]:=zQ (hb rfl)
  subst h0
  refine oT ?_
  refine Ao 2 4 As E ?_
  exact dN
theorem Au1 (l:List Irb) (hl:l.length<2147483648):Sp 89 [.sl 5 By l] (.sl 5 By l):=cT F89 Tryz.ntmps89 λ F hF=>by
 conv=>whnf
 refine Du E (.inl E) E E E .sl E E ?_
 intro b hb
 cases b
 ·refine oF ?_
  refine Ag (Ah Γ.toTy 7 E E E E E (.lit (e:=By) (l:=[]) E E) .sl y_ (by simp;omega) (by simp;omega)) E E ?_
  refine Ai 7 E ?_
  refine oO ?_
  exact dN
 ·have h0:l=[]:=zQ (hb rfl)
  subst h0
  refine oT ?_
  refine Ao 2 5 By E ?_
  exact dN
theorem D7 (l:List Int) (hl:l.length<2147483648):Sp 90 [.sl 1 Aa l] (.sl 1 Aa l):=cT F90 Tryz.ntmps90 λ F hF=>by
 conv=>whnf
 refine Du E (.inl E) E E E .sl E E ?_
 intro b hb
 cases b
 ·refine oF ?_
  refine Ag (Ah Γ.toTy 7 E E E E E (.lit (e:=Aa) (l:=[]) E E) .sl y_ (by simp;omega) (by simp;omega)) E E ?_
  refine Ai 7 E ?_
  refine oO ?_
  exact dN
 ·have h0:l=[]:=zQ (hb rfl)
  subst h0
  refine oT ?_
  refine Ao 2 1 Aa E ?_
  exact dN
theorem Y7 (l:List Int) (hl:l.length<2147483648):Sp 91 [.sl 1 A8 l] (.sl 1 A8 l):=cT F91 Tryz.ntmps91 λ F hF=>by
 conv=>whnf
 refine Du E (.inl E) E E E .sl E E ?_
 intro b hb
 cases b
 ·refine oF ?_
  refine Ag (Ah Γ.toTy 7 E E E E E (.lit (e:=A8) (l:=[]) E E) .sl y_ (by simp;omega) (by simp;omega)) E E ?_
  refine Ai 7 E ?_
  refine oO ?_
  exact dN
 ·have h0:l=[]:=zQ (hb rfl)
  subst h0
  refine oT ?_
  refine Ao 2 1 A8 E ?_
  exact dN
theorem Ap0 (l:List Bool) (hl:l.length<2147483648):Sp 39 [.sl 1 Ac l] (.sl 1 Ac l):=cT F39 Tryz.ntmps39 λ F hF=>by
 conv=>whnf
 refine Du E (.inl E) E E E .sl E E ?_
 intro b hb
 cases b
 ·refine oF ?_
  refine Ag (Ah Γ.toTy 7 E E E E E (.lit (e:=Ac) (l:=[]) E E) .sl y_ (by simp;omega) (by simp;omega)) E E ?_
  refine Ai 7 E ?_
  refine oO ?_
  exact dN
 ·have h0:l=[]:=zQ (hb rfl)
  subst h0
  refine oT ?_
  refine Ao 2 1 Ac E ?_
  exact dN
theorem Adq (l:List Port) (hl:l.length<2147483648):Sq 83 [.sl 7 Aw l] [] (.osl 0) [(0,.row 7 Aw l)]:=cT F83 Tryz.ntmps83 λ F hF=>by
 conv=>whnf
 refine Du E (.inl E) E E E .sl E E ?_
 intro b hb
 cases b
 ·refine oF ?_
  refine Ag (Ah Γ.toTy 7 E E E E E (.lit (e:=Aw) (l:=[]) E E) .sl y_ (by simp;omega) (by simp;omega)) E E ?_
  refine oO ?_
  exact done E (.cons .tmp .nil) [(0,7)] [(0,.row 7 Aw l)] (λ _ h=>h) E E ⟨Y,⟨.inl E,E,Y⟩,E,E⟩
 ·have h0:l=[]:=zQ (hb rfl)
  subst h0
  refine oT ?_
  refine Co 2 1000 7 Aw E E ?_
  exact done E (.cons .tmp .nil) [(0,1000)] [(0,.row 7 Aw [])] (λ _ h=>h) E E ⟨Y,⟨.inl E,E,Y⟩,E,E⟩
theorem Xt (l:List Domain) (hl:l.length<2147483648):Sq 85 [.sl 6 An l] [] (.osl 0) [(0,.row 6 An l)]:=cT F85 Tryz.ntmps85 λ F hF=>by
 conv=>whnf
 refine Du E (.inl E) E E E .sl E E ?_
 intro b hb
 cases b
 ·refine oF ?_
  refine Ag (Ah Γ.toTy 7 E E E E E (.lit (e:=An) (l:=[]) E E) .sl y_ (by simp;omega) (by simp;omega)) E E ?_
  refine oO ?_
  exact done E (.cons .tmp .nil) [(0,7)] [(0,.row 6 An l)] (λ _ h=>h) E E ⟨Y,⟨.inl E,E,Y⟩,E,E⟩
 ·have h0:l=[]:=zQ (hb rfl)
  subst h0
  refine oT ?_
  refine Co 2 1000 6 An E E ?_
  exact done E (.cons .tmp .nil) [(0,1000)] [(0,.row 6 An [])] (λ _ h=>h) E E ⟨Y,⟨.inl E,E,Y⟩,E,E⟩
theorem Aaa (l:List Flood) (hl:l.length<2147483648):Sq 87 [.sl 4 A3 l] [] (.osl 0) [(0,.row 4 A3 l)]:=cT F87 Tryz.ntmps87 λ F hF=>by
 conv=>whnf
 refine Du E (.inl E) E E E .sl E E ?_
 intro b hb
 cases b
 ·refine oF ?_
  refine Ag (Ah Γ.toTy 7 E E E E E (.lit (e:=A3) (l:=[]) E E) .sl y_ (by simp;omega) (by simp;omega)) E E ?_
  refine oO ?_
  exact done E (.cons .tmp .nil) [(0,7)] [(0,.row 4 A3 l)] (λ _ h=>h) E E ⟨Y,⟨.inl E,E,Y⟩,E,E⟩
 ·have h0:l=[]:=zQ (hb rfl)
  subst h0
  refine oT ?_
  refine Co 2 1000 4 A3 E E ?_
  exact done E (.cons .tmp .nil) [(0,1000)] [(0,.row 4 A3 [])] (λ _ h=>h) E E ⟨Y,⟨.inl E,E,Y⟩,E,E⟩
theorem Agm (l:List Vrf) (hl:l.length<2147483648):Sq 88 [.sl 5 B5 l] [] (.osl 0) [(0,.row 5 B5 l)]:=cT F88 Tryz.ntmps88 λ F hF=>by
 conv=>whnf
 refine Du E (.inl E) E E E .sl E E ?_
 intro b hb
 cases b
 ·refine oF ?_
  refine Ag (Ah Γ.toTy 7 E E E E E (.lit (e:=B5) (l:=[]) E E) .sl y_ (by simp;omega) (by simp;omega)) E E ?_
  refine oO ?_
  exact done E (.cons .tmp .nil) [(0,7)] [(0,.row 5 B5 l)] (λ _ h=>h) E E ⟨Y,⟨.inl E,E,Y⟩,E,E⟩
 ·have h0:l=[]:=zQ (hb rfl)
  subst h0
  refine oT ?_
  refine Co 2 1000 5 B5 E E ?_
  exact done E (.cons .tmp .nil) [(0,1000)] [(0,.row 5 B5 [])] (λ _ h=>h) E E ⟨Y,⟨.inl E,E,Y⟩,E,E⟩
theorem copyS (n:Net) (hn:n.Fin) :
  Sp 34 [Aj n] (Aj n):=cT F34 Tryz.ntmps34 λ F hF=>by
 have h1:n.devices.length<2147483648∧n.ports.length<2147483648∧n.links.length<2147483648∧n.domains.length<2147483648∧n.statics.length<2147483648∧n.floods.length<2147483648∧n.vrfs.length<2147483648∧n.irbs.length<2147483648:=⟨hn.devices,hn.ports,hn.links,hn.domains,hn.statics,hn.floods,hn.vrfs,hn.irbs⟩
 have h2:(∀ p∈n.ports,p.tagged.length<2147483648)∧(∀ p∈n.domains,p.peers.length<2147483648)∧(∀ p∈n.floods,p.addrs.length<2147483648)∧(∀ p∈n.vrfs,p.imports.length<2147483648∧p.exports.length<2147483648):=⟨hn.tagged,hn.peers,hn.addrs,λ v hv=>⟨hn.imports v hv,hn.exports v hv⟩⟩
 conv=>whnf
 refine cD (Ais n.devices h1.1) F82 ?_
 refine oD ?_
 refine Bs (Ad [(0,14)] E F83 (Adq n.ports h1.2.1) E Y E ⟨.inr E,Y⟩) z_ E ?_
 refine oD ?_
 refine cD (Apy n.links h1.2.2.1) F84 ?_
 refine oD ?_
 refine Bs (Ad [(0,20)] E F85 (Xt n.domains h1.2.2.2.1) E Y E ⟨.inr E,Y⟩) z_ E ?_
 refine oD ?_
 refine cD (Aip n.statics h1.2.2.2.2.1) F86 ?_
 refine oD ?_
 refine Bs (Ad [(0,26)] E F87 (Aaa n.floods h1.2.2.2.2.2.1) E Y E ⟨.inr E,Y⟩) z_ E ?_
 refine oD ?_
 refine Bs (Ad [(0,29)] E F88 (Agm n.vrfs h1.2.2.2.2.2.2.1) E Y E ⟨.inr E,Y⟩) z_ E ?_
 refine oD ?_
 refine cD (Au1 n.irbs h1.2.2.2.2.2.2.2) F89 ?_
 refine oD ?_
 refine kW ?_
 refine A5 n.ports.length (λ j=>[(2,.ptr 2 0),(3,.ptr 3 0),(36,Aa n.ports.length),(37,Aa j)]) (λ _=>[(2,.box [.val (.slice none 0 0),.val (.slice none 0 0),.val (.slice none 0 0),.val (.slice none 0 0),.val (.slice none 0 0),.val (.slice none 0 0),.val (.slice none 0 0),.val (.slice none 0 0)]),(3,.box [.sl 5 Aq n.devices,.osl 14,.sl 3 Br n.links,.osl 20,.sl 4 As n.statics,.osl 26,.osl 29,.sl 5 By n.irbs]),(14,.row 7 Aw n.ports),(20,.row 6 An n.domains),(26,.row 4 A3 n.floods),(29,.row 5 B5 n.vrfs)]) []
  ⟨⟨rfl,rfl,rfl,rfl,rfl,rfl,rfl,rfl,trivial⟩,⟨.inl rfl,rfl,.inl rfl,rfl,.inl rfl,rfl,.inl rfl,rfl,.inl rfl,rfl,.inl rfl,rfl,trivial⟩,rfl,rfl⟩ ?_
 intro j hj
 refine oO ?_
 constructor<;>intro h
 ·have hlt:j<n.ports.length:=by simpa using h
  obtain ⟨p,hp⟩:∃ p,n.ports[(j:Int).toNat]'q_=p:=⟨_,rfl⟩
  have hne:n.ports≠[]:=λ e=>by rw[e]at hlt;cases hlt
  have hset:n.ports.set (j:Int).toNat p=n.ports:=by rw[← hp];exact xZ _
  have hpl:=h2.1 p (by rw[← hp];exact zE _)
  refine oO ?_
  refine⟨by omega,by show _<n.ports.length;omega,?_⟩
  conv=>whnf
  refine⟨hne,?_⟩
  conv=>whnf
  refine⟨E,by omega,?_⟩
  rw[hp]
  conv=>whnf
  refine cD (D7 p.tagged hpl) F90 ?_
  refine oD ?_
  refine⟨by omega,by show _<n.ports.length;omega,?_⟩
  conv=>whnf
  refine⟨hne,?_⟩
  conv=>whnf
  refine⟨E,by omega,p,(by rw[hp];rfl),(by rw[hp];rfl),?_⟩
  conv=>whnf
  refine kW ?_
  refine iW ?_
  exact Ax [] hlt ⟨⟨E,E,E,E,E,E,E,E,Y⟩,⟨.inl E,E,.inl E,E,.inl (zD (Ob.row 7 Aw) hset.symm),E,.inl E,E,.inl E,E,.inl E,E,Y⟩,E,E⟩
 ·refine oO ?_
  refine A5 n.domains.length (λ j=>[(2,.ptr 2 0),(3,.ptr 3 0),(55,Aa n.domains.length),(56,Aa j)]) (λ _=>[(2,.box [.val (.slice none 0 0),.val (.slice none 0 0),.val (.slice none 0 0),.val (.slice none 0 0),.val (.slice none 0 0),.val (.slice none 0 0),.val (.slice none 0 0),.val (.slice none 0 0)]),(3,.box [.sl 5 Aq n.devices,.osl 14,.sl 3 Br n.links,.osl 20,.sl 4 As n.statics,.osl 26,.osl 29,.sl 5 By n.irbs]),(14,.row 7 Aw n.ports),(20,.row 6 An n.domains),(26,.row 4 A3 n.floods),(29,.row 5 B5 n.vrfs)]) []
   ⟨⟨rfl,rfl,rfl,rfl,rfl,rfl,rfl,rfl,trivial⟩,⟨.inl rfl,rfl,.inl rfl,rfl,.inl rfl,rfl,.inl rfl,rfl,.inl rfl,rfl,.inl rfl,rfl,trivial⟩,rfl,rfl⟩ ?_
  intro j hj
  refine oO ?_
  constructor<;>intro h
  ·have hlt:j<n.domains.length:=by simpa using h
   obtain ⟨p,hp⟩:∃ p,n.domains[(j:Int).toNat]'q_=p:=⟨_,rfl⟩
   have hne:n.domains≠[]:=λ e=>by rw[e]at hlt;cases hlt
   have hset:n.domains.set (j:Int).toNat p=n.domains:=by rw[← hp];exact xZ _
   have hpl:=h2.2.1 p (by rw[← hp];exact zE _)
   refine oO ?_
   refine⟨by omega,by show _<n.domains.length;omega,?_⟩
   conv=>whnf
   refine⟨hne,?_⟩
   conv=>whnf
   refine⟨E,by omega,?_⟩
   rw[hp]
   conv=>whnf
   refine cD (D7 p.peers hpl) F90 ?_
   refine oD ?_
   refine⟨by omega,by show _<n.domains.length;omega,?_⟩
   conv=>whnf
   refine⟨hne,?_⟩
   conv=>whnf
   refine⟨E,by omega,p,(by rw[hp];rfl),(by rw[hp];rfl),?_⟩
   conv=>whnf
   refine kW ?_
   refine iW ?_
   exact Ax [] hlt ⟨⟨E,E,E,E,E,E,E,E,Y⟩,⟨.inl E,E,.inl E,E,.inl E,E,.inl (zD (Ob.row 6 An) hset.symm),E,.inl E,E,.inl E,E,Y⟩,E,E⟩
  ·refine oO ?_
   refine A5 n.floods.length (λ j=>[(2,.ptr 2 0),(3,.ptr 3 0),(74,Aa n.floods.length),(75,Aa j)]) (λ _=>[(2,.box [.val (.slice none 0 0),.val (.slice none 0 0),.val (.slice none 0 0),.val (.slice none 0 0),.val (.slice none 0 0),.val (.slice none 0 0),.val (.slice none 0 0),.val (.slice none 0 0)]),(3,.box [.sl 5 Aq n.devices,.osl 14,.sl 3 Br n.links,.osl 20,.sl 4 As n.statics,.osl 26,.osl 29,.sl 5 By n.irbs]),(14,.row 7 Aw n.ports),(20,.row 6 An n.domains),(26,.row 4 A3 n.floods),(29,.row 5 B5 n.vrfs)]) []
    ⟨⟨rfl,rfl,rfl,rfl,rfl,rfl,rfl,rfl,trivial⟩,⟨.inl rfl,rfl,.inl rfl,rfl,.inl rfl,rfl,.inl rfl,rfl,.inl rfl,rfl,.inl rfl,rfl,trivial⟩,rfl,rfl⟩ ?_
   intro j hj
   refine oO ?_
   constructor<;>intro h
   ·have hlt:j<n.floods.length:=by simpa using h
    obtain ⟨p,hp⟩:∃ p,n.floods[(j:Int).toNat]'q_=p:=⟨_,rfl⟩
    have hne:n.floods≠[]:=λ e=>by rw[e]at hlt;cases hlt
    have hset:n.floods.set (j:Int).toNat p=n.floods:=by rw[← hp];exact xZ _
    have hpl:=h2.2.2.1 p (by rw[← hp];exact zE _)
    refine oO ?_
    refine⟨by omega,by show _<n.floods.length;omega,?_⟩
    conv=>whnf
    refine⟨hne,?_⟩
    conv=>whnf
    refine⟨E,by omega,?_⟩
    rw[hp]
    conv=>whnf
    refine cD (Y7 p.addrs hpl) F91 ?_
    refine oD ?_
    refine⟨by omega,by show _<n.floods.length;omega,?_⟩
    conv=>whnf
    refine⟨hne,?_⟩
    conv=>whnf
    refine⟨E,by omega,p,(by rw[hp];rfl),(by rw[hp];rfl),?_⟩
    conv=>whnf
    refine kW ?_
    refine iW ?_
    exact Ax [] hlt ⟨⟨E,E,E,E,E,E,E,E,Y⟩,⟨.inl E,E,.inl E,E,.inl E,E,.inl E,E,.inl (zD (Ob.row 4 A3) hset.symm),E,.inl E,E,Y⟩,E,E⟩
   ·refine oO ?_
    refine A5 n.vrfs.length (λ j=>[(2,.ptr 2 0),(3,.ptr 3 0),(93,Aa n.vrfs.length),(94,Aa j)]) (λ _=>[(2,.box [.val (.slice none 0 0),.val (.slice none 0 0),.val (.slice none 0 0),.val (.slice none 0 0),.val (.slice none 0 0),.val (.slice none 0 0),.val (.slice none 0 0),.val (.slice none 0 0)]),(3,.box [.sl 5 Aq n.devices,.osl 14,.sl 3 Br n.links,.osl 20,.sl 4 As n.statics,.osl 26,.osl 29,.sl 5 By n.irbs]),(14,.row 7 Aw n.ports),(20,.row 6 An n.domains),(26,.row 4 A3 n.floods),(29,.row 5 B5 n.vrfs)]) []
     ⟨⟨rfl,rfl,rfl,rfl,rfl,rfl,rfl,rfl,trivial⟩,⟨.inl rfl,rfl,.inl rfl,rfl,.inl rfl,rfl,.inl rfl,rfl,.inl rfl,rfl,.inl rfl,rfl,trivial⟩,rfl,rfl⟩ ?_
    intro j hj
    refine oO ?_
    constructor<;>intro h
    ·have hlt:j<n.vrfs.length:=by simpa using h
     obtain ⟨p,hp⟩:∃ p,n.vrfs[(j:Int).toNat]'q_=p:=⟨_,rfl⟩
     have hne:n.vrfs≠[]:=λ e=>by rw[e]at hlt;cases hlt
     have hset:n.vrfs.set (j:Int).toNat p=n.vrfs:=by rw[← hp];exact xZ _
     have hpl:=h2.2.2.2 p (by rw[← hp];exact zE _)
     refine oO ?_
     have hne2:n.vrfs.set (j:Int).toNat p≠[]:=by rw[hset];exact hne
     have hp2:(n.vrfs.set (j:Int).toNat p)[(j:Int).toNat]'(by rw[hset];omega)=p:=by simp
     have hset2:(n.vrfs.set (j:Int).toNat p).set (j:Int).toNat p=n.vrfs:=by rw[hset,hset]
     refine⟨by omega,by show _<n.vrfs.length;omega,?_⟩
     conv=>whnf
     refine Bs (Cu E (.inr (.inr (.inr ⟨29,5,_,0,E,λ κ w h=>It hne h,E⟩)))) z_ E ?_
     refine oD ?_
     refine⟨hne,?_⟩
     conv=>whnf
     refine⟨E,by omega,?_⟩
     rw[hp]
     conv=>whnf
     refine cD (D7 p.imports hpl.1) F90 ?_
     refine oD ?_
     refine Bs (Cu E (.inr (.inr (.inr ⟨29,5,_,0,E,λ κ w h=>It hne h,E⟩)))) z_ E ?_
     refine oD ?_
     refine⟨hne,?_⟩
     conv=>whnf
     refine⟨E,by omega,?_⟩
     rw[hp]
     conv=>whnf
     refine cD (D7 p.exports hpl.2) F90 ?_
     refine oD ?_
     refine Bs (Cu E (.inr (.inr (.inr ⟨29,5,_,0,E,λ κ w h=>It hne h,E⟩)))) z_ E ?_
     refine oD ?_
     refine⟨hne,?_⟩
     conv=>whnf
     refine⟨E,by omega,p,(by rw[hp];rfl),(by rw[hp];rfl),?_⟩
     conv=>whnf
     refine Bs (Cu E (.inr (.inr (.inr ⟨29,5,_,0,E,λ κ w h=>It hne2 h,E⟩)))) z_ E ?_
     refine oD ?_
     refine⟨hne2,?_⟩
     conv=>whnf
     refine⟨E,by rw[hset];omega,p,(by rw[hp2];rfl),(by rw[hp2];rfl),?_⟩
     conv=>whnf
     refine kW ?_
     refine iW ?_
     exact Ax [] hlt ⟨⟨E,E,E,E,E,E,E,E,Y⟩,⟨.inl E,E,.inl E,E,.inl E,E,.inl E,E,.inl E,E,.inl (zD (Ob.row 5 B5) hset2.symm),E,Y⟩,E,E⟩
    ·refine oO ?_
     refine Ai 14 E ?_
     refine Ai 20 E ?_
     refine Ai 26 E ?_
     refine Ai 29 E ?_
     exact dN
end Go.Sy.YtljngfegfclkpaaGreat
