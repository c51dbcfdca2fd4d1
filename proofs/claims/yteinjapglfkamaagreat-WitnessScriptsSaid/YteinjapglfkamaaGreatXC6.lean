/-
  S3 K1 K2 K3 K4 K5 K6 K7 K26 K27 K28 K29 Sy34 Sy35: parts of a proof, joined by program.
-/
import Derived.Test.YteinjapglfkamaaGreatXC5
import Derived.Test.YteinjapglfkamaaGreatXC3
namespace Go.Sy.YteinjapglfkamaaGreat
open Go.Proofs
attribute [local irreducible] Go.Sy.G Go.Sy.DR
set_option maxRecDepth 100000
set_option maxHeartbeats 4000000
theorem Sx {κ:Ka} {w:World} {k sz:Nat} {α:Type} {e:α→SV} {l:List α} (hne:l≠[]) (h:ObOK κ w k (.row sz e l)):∃ b n c,κ k=.row b n c:=by
 rcases h with ⟨_,h⟩ | ⟨b,cap,_,_,_,h,_⟩
 ·exact absurd h hne
 ·exact⟨b,_,cap,h⟩
theorem Af0 (l:List Device) (hl:l.length<2147483648):Sy.Spec Tryz.prog 162 [.sl 5 Bn l] [] (.sl 5 Bn l) []:=cT F162 Tryz.ntmps162 fun F hF=>by
 conv=>whnf
 refine E3 E (.inl E) E E E .sl E E ?_
 intro b hb
 cases b
 ·refine oF ?_
  refine Ae (Ad Γ.toTy 7 E E E E E (.lit (e:=Bn) (l:=[]) E E) .sl qz (by simp;omega) (by simp;omega)) E E ?_
  refine Ap 7 E ?_
  refine oO ?_
  exact dN
 ·have h0:l=[]:=List.eq_nil_of_length_eq_zero (hb rfl)
  subst h0
  refine oT ?_
  refine Ai 2 5 Bn E ?_
  exact dN
theorem Al1 (l:List Link) (hl:l.length<2147483648):Sy.Spec Tryz.prog 164 [.sl 3 Cp l] [] (.sl 3 Cp l) []:=cT F164 Tryz.ntmps164 fun F hF=>by
 conv=>whnf
 refine E3 E (.inl E) E E E .sl E E ?_
 intro b hb
 cases b
 ·refine oF ?_
  refine Ae (Ad Γ.toTy 7 E E E E E (.lit (e:=Cp) (l:=[]) E E) .sl qz (by simp;omega) (by simp;omega)) E E ?_
  refine Ap 7 E ?_
  refine oO ?_
  exact dN
 ·have h0:l=[]:=List.eq_nil_of_length_eq_zero (hb rfl)
  subst h0
  refine oT ?_
  refine Ai 2 3 Cp E ?_
  exact dN
theorem Afx (l:List Static) (hl:l.length<2147483648):Sy.Spec Tryz.prog 166 [.sl 4 Bk l] [] (.sl 4 Bk l) []:=cT F166 Tryz.ntmps166 fun F hF=>by
 conv=>whnf
 refine E3 E (.inl E) E E E .sl E E ?_
 intro b hb
 cases b
 ·refine oF ?_
  refine Ae (Ad Γ.toTy 7 E E E E E (.lit (e:=Bk) (l:=[]) E E) .sl qz (by simp;omega) (by simp;omega)) E E ?_
  refine Ap 7 E ?_
  refine oO ?_
  exact dN
 ·have h0:l=[]:=List.eq_nil_of_length_eq_zero (hb rfl)
  subst h0
  refine oT ?_
  refine Ai 2 4 Bk E ?_
  exact dN
theorem Apw (l:List Irb) (hl:l.length<2147483648):Sy.Spec Tryz.prog 169 [.sl 5 Cr l] [] (.sl 5 Cr l) []:=cT F169 Tryz.ntmps169 fun F hF=>by
 conv=>whnf
 refine E3 E (.inl E) E E E .sl E E ?_
 intro b hb
 cases b
 ·refine oF ?_
  refine Ae (Ad Γ.toTy 7 E E E E E (.lit (e:=Cr) (l:=[]) E E) .sl qz (by simp;omega) (by simp;omega)) E E ?_
  refine Ap 7 E ?_
  refine oO ?_
  exact dN
 ·have h0:l=[]:=List.eq_nil_of_length_eq_zero (hb rfl)
  subst h0
  refine oT ?_
  refine Ai 2 5 Cr E ?_
  exact dN
theorem M0 (l:List Int) (hl:l.length<2147483648):Sy.Spec Tryz.prog 170 [.sl 1 Aa l] [] (.sl 1 Aa l) []:=cT F170 Tryz.ntmps170 fun F hF=>by
 conv=>whnf
 refine E3 E (.inl E) E E E .sl E E ?_
 intro b hb
 cases b
 ·refine oF ?_
  refine Ae (Ad Γ.toTy 7 E E E E E (.lit (e:=Aa) (l:=[]) E E) .sl qz (by simp;omega) (by simp;omega)) E E ?_
  refine Ap 7 E ?_
  refine oO ?_
  exact dN
 ·have h0:l=[]:=List.eq_nil_of_length_eq_zero (hb rfl)
  subst h0
  refine oT ?_
  refine Ai 2 1 Aa E ?_
  exact dN
theorem Apv (l:List Int) (hl:l.length<2147483648):Sy.Spec Tryz.prog 171 [.sl 1 Bd l] [] (.sl 1 Bd l) []:=cT F171 Tryz.ntmps171 fun F hF=>by
 conv=>whnf
 refine E3 E (.inl E) E E E .sl E E ?_
 intro b hb
 cases b
 ·refine oF ?_
  refine Ae (Ad Γ.toTy 7 E E E E E (.lit (e:=Bd) (l:=[]) E E) .sl qz (by simp;omega) (by simp;omega)) E E ?_
  refine Ap 7 E ?_
  refine oO ?_
  exact dN
 ·have h0:l=[]:=List.eq_nil_of_length_eq_zero (hb rfl)
  subst h0
  refine oT ?_
  refine Ai 2 1 Bd E ?_
  exact dN
theorem Al2 (l:List Bool) (hl:l.length<2147483648):Sy.Spec Tryz.prog 118 [.sl 1 Ab l] [] (.sl 1 Ab l) []:=cT F118 Tryz.ntmps118 fun F hF=>by
 conv=>whnf
 refine E3 E (.inl E) E E E .sl E E ?_
 intro b hb
 cases b
 ·refine oF ?_
  refine Ae (Ad Γ.toTy 7 E E E E E (.lit (e:=Ab) (l:=[]) E E) .sl qz (by simp;omega) (by simp;omega)) E E ?_
  refine Ap 7 E ?_
  refine oO ?_
  exact dN
 ·have h0:l=[]:=List.eq_nil_of_length_eq_zero (hb rfl)
  subst h0
  refine oT ?_
  refine Ai 2 1 Ab E ?_
  exact dN
theorem Al0 (l:List Port) (hl:l.length<2147483648):Sy.Spec Tryz.prog 163 [.sl 7 A7 l] [] (.osl 0) [(0,.row 7 A7 l)]:=cT F163 Tryz.ntmps163 fun F hF=>by
 conv=>whnf
 refine E3 E (.inl E) E E E .sl E E ?_
 intro b hb
 cases b
 ·refine oF ?_
  refine Ae (Ad Γ.toTy 7 E E E E E (.lit (e:=A7) (l:=[]) E E) .sl qz (by simp;omega) (by simp;omega)) E E ?_
  refine oO ?_
  exact done E (.cons .tmp .nil) [(0,7)] [(0,.row 7 A7 l)] (fun _ h=>h) E E ⟨Y,⟨.inl E,E,Y⟩,E,E⟩
 ·have h0:l=[]:=List.eq_nil_of_length_eq_zero (hb rfl)
  subst h0
  refine oT ?_
  refine Bo 2 1000 7 A7 E E ?_
  exact done E (.cons .tmp .nil) [(0,1000)] [(0,.row 7 A7 [])] (fun _ h=>h) E E ⟨Y,⟨.inl E,E,Y⟩,E,E⟩
theorem Afz (l:List Domain) (hl:l.length<2147483648):Sy.Spec Tryz.prog 165 [.sl 6 Au l] [] (.osl 0) [(0,.row 6 Au l)]:=cT F165 Tryz.ntmps165 fun F hF=>by
 conv=>whnf
 refine E3 E (.inl E) E E E .sl E E ?_
 intro b hb
 cases b
 ·refine oF ?_
  refine Ae (Ad Γ.toTy 7 E E E E E (.lit (e:=Au) (l:=[]) E E) .sl qz (by simp;omega) (by simp;omega)) E E ?_
  refine oO ?_
  exact done E (.cons .tmp .nil) [(0,7)] [(0,.row 6 Au l)] (fun _ h=>h) E E ⟨Y,⟨.inl E,E,Y⟩,E,E⟩
 ·have h0:l=[]:=List.eq_nil_of_length_eq_zero (hb rfl)
  subst h0
  refine oT ?_
  refine Bo 2 1000 6 Au E E ?_
  exact done E (.cons .tmp .nil) [(0,1000)] [(0,.row 6 Au [])] (fun _ h=>h) E E ⟨Y,⟨.inl E,E,Y⟩,E,E⟩
theorem Ai3 (l:List Flood) (hl:l.length<2147483648):Sy.Spec Tryz.prog 167 [.sl 4 B1 l] [] (.osl 0) [(0,.row 4 B1 l)]:=cT F167 Tryz.ntmps167 fun F hF=>by
 conv=>whnf
 refine E3 E (.inl E) E E E .sl E E ?_
 intro b hb
 cases b
 ·refine oF ?_
  refine Ae (Ad Γ.toTy 7 E E E E E (.lit (e:=B1) (l:=[]) E E) .sl qz (by simp;omega) (by simp;omega)) E E ?_
  refine oO ?_
  exact done E (.cons .tmp .nil) [(0,7)] [(0,.row 4 B1 l)] (fun _ h=>h) E E ⟨Y,⟨.inl E,E,Y⟩,E,E⟩
 ·have h0:l=[]:=List.eq_nil_of_length_eq_zero (hb rfl)
  subst h0
  refine oT ?_
  refine Bo 2 1000 4 B1 E E ?_
  exact done E (.cons .tmp .nil) [(0,1000)] [(0,.row 4 B1 [])] (fun _ h=>h) E E ⟨Y,⟨.inl E,E,Y⟩,E,E⟩
theorem Apu (l:List Vrf) (hl:l.length<2147483648):Sy.Spec Tryz.prog 168 [.sl 5 C3 l] [] (.osl 0) [(0,.row 5 C3 l)]:=cT F168 Tryz.ntmps168 fun F hF=>by
 conv=>whnf
 refine E3 E (.inl E) E E E .sl E E ?_
 intro b hb
 cases b
 ·refine oF ?_
  refine Ae (Ad Γ.toTy 7 E E E E E (.lit (e:=C3) (l:=[]) E E) .sl qz (by simp;omega) (by simp;omega)) E E ?_
  refine oO ?_
  exact done E (.cons .tmp .nil) [(0,7)] [(0,.row 5 C3 l)] (fun _ h=>h) E E ⟨Y,⟨.inl E,E,Y⟩,E,E⟩
 ·have h0:l=[]:=List.eq_nil_of_length_eq_zero (hb rfl)
  subst h0
  refine oT ?_
  refine Bo 2 1000 5 C3 E E ?_
  exact done E (.cons .tmp .nil) [(0,1000)] [(0,.row 5 C3 [])] (fun _ h=>h) E E ⟨Y,⟨.inl E,E,Y⟩,E,E⟩
theorem copyS (n:Net) (hn:n.Fin) :
  Sy.Spec Tryz.prog 113 [Aj n] [] (Aj n) []:=cT F113 Tryz.ntmps113 fun F hF=>by
 have h1:n.devices.length<2147483648∧n.ports.length<2147483648∧n.links.length<2147483648∧n.domains.length<2147483648∧n.statics.length<2147483648∧n.floods.length<2147483648∧n.vrfs.length<2147483648∧n.irbs.length<2147483648:=⟨hn.devices,hn.ports,hn.links,hn.domains,hn.statics,hn.floods,hn.vrfs,hn.irbs⟩
 have h2:(∀ p∈n.ports,p.tagged.length<2147483648)∧(∀ p∈n.domains,p.peers.length<2147483648)∧(∀ p∈n.floods,p.addrs.length<2147483648)∧(∀ p∈n.vrfs,p.imports.length<2147483648∧p.exports.length<2147483648):=⟨hn.tagged,hn.peers,hn.addrs,fun v hv=>⟨hn.imports v hv,hn.exports v hv⟩⟩
 conv=>whnf
 refine cD (Af0 n.devices h1.1) F162 ?_
 refine oD ?_
 refine Bb (Ah [(0,14)] E F163 (Al0 n.ports h1.2.1) E Y E ⟨.inr E,Y⟩) qq E ?_
 refine oD ?_
 refine cD (Al1 n.links h1.2.2.1) F164 ?_
 refine oD ?_
 refine Bb (Ah [(0,20)] E F165 (Afz n.domains h1.2.2.2.1) E Y E ⟨.inr E,Y⟩) qq E ?_
 refine oD ?_
 refine cD (Afx n.statics h1.2.2.2.2.1) F166 ?_
 refine oD ?_
 refine Bb (Ah [(0,26)] E F167 (Ai3 n.floods h1.2.2.2.2.2.1) E Y E ⟨.inr E,Y⟩) qq E ?_
 refine oD ?_
 refine Bb (Ah [(0,29)] E F168 (Apu n.vrfs h1.2.2.2.2.2.2.1) E Y E ⟨.inr E,Y⟩) qq E ?_
 refine oD ?_
 refine cD (Apw n.irbs h1.2.2.2.2.2.2.2) F169 ?_
 refine oD ?_
 refine kW ?_
 refine Aq n.ports.length (fun j=>[(2,.ptr 2 0),(3,.ptr 3 0),(36,Aa n.ports.length),(37,Aa j)]) (fun _=>[(2,.box [.val (.slice none 0 0),.val (.slice none 0 0),.val (.slice none 0 0),.val (.slice none 0 0),.val (.slice none 0 0),.val (.slice none 0 0),.val (.slice none 0 0),.val (.slice none 0 0)]),(3,.box [.sl 5 Bn n.devices,.osl 14,.sl 3 Cp n.links,.osl 20,.sl 4 Bk n.statics,.osl 26,.osl 29,.sl 5 Cr n.irbs]),(14,.row 7 A7 n.ports),(20,.row 6 Au n.domains),(26,.row 4 B1 n.floods),(29,.row 5 C3 n.vrfs)]) []
  ⟨⟨rfl,rfl,rfl,rfl,rfl,rfl,rfl,rfl,trivial⟩,⟨.inl rfl,rfl,.inl rfl,rfl,.inl rfl,rfl,.inl rfl,rfl,.inl rfl,rfl,.inl rfl,rfl,trivial⟩,rfl,rfl⟩ ?_
 intro j hj
 refine oO ?_
 refine⟨fun h=>?_,fun h=>?_⟩
 ·have hlt:j<n.ports.length:=by simpa using h
  obtain ⟨p,hp⟩:∃ p,n.ports[(j:Int).toNat]'qn=p:=⟨_,rfl⟩
  have hne:n.ports≠[]:=fun e=>by rw[e]at hlt;cases hlt
  have hset:n.ports.set (j:Int).toNat p=n.ports:=by rw[← hp];exact List.set_getElem_self _
  have hpl:=h2.1 p (by rw[← hp];exact List.getElem_mem _)
  refine oO ?_
  refine⟨by omega,by show _<n.ports.length;omega,?_⟩
  conv=>whnf
  refine⟨hne,?_⟩
  conv=>whnf
  refine⟨E,by omega,?_⟩
  rw[hp]
  conv=>whnf
  refine cD (M0 p.tagged hpl) F170 ?_
  refine oD ?_
  refine⟨by omega,by show _<n.ports.length;omega,?_⟩
  conv=>whnf
  refine⟨hne,?_⟩
  conv=>whnf
  refine⟨E,by omega,p,(by rw[hp];rfl),(by rw[hp];rfl),?_⟩
  conv=>whnf
  refine kW ?_
  refine iW ?_
  exact An [] hlt ⟨⟨E,E,E,E,E,E,E,E,Y⟩,⟨.inl E,E,.inl E,E,.inl (congrArg (Ob.row 7 A7) hset.symm),E,.inl E,E,.inl E,E,.inl E,E,Y⟩,E,E⟩
 ·refine oO ?_
  refine Aq n.domains.length (fun j=>[(2,.ptr 2 0),(3,.ptr 3 0),(55,Aa n.domains.length),(56,Aa j)]) (fun _=>[(2,.box [.val (.slice none 0 0),.val (.slice none 0 0),.val (.slice none 0 0),.val (.slice none 0 0),.val (.slice none 0 0),.val (.slice none 0 0),.val (.slice none 0 0),.val (.slice none 0 0)]),(3,.box [.sl 5 Bn n.devices,.osl 14,.sl 3 Cp n.links,.osl 20,.sl 4 Bk n.statics,.osl 26,.osl 29,.sl 5 Cr n.irbs]),(14,.row 7 A7 n.ports),(20,.row 6 Au n.domains),(26,.row 4 B1 n.floods),(29,.row 5 C3 n.vrfs)]) []
   ⟨⟨rfl,rfl,rfl,rfl,rfl,rfl,rfl,rfl,trivial⟩,⟨.inl rfl,rfl,.inl rfl,rfl,.inl rfl,rfl,.inl rfl,rfl,.inl rfl,rfl,.inl rfl,rfl,trivial⟩,rfl,rfl⟩ ?_
  intro j hj
  refine oO ?_
  refine⟨fun h=>?_,fun h=>?_⟩
  ·have hlt:j<n.domains.length:=by simpa using h
   obtain ⟨p,hp⟩:∃ p,n.domains[(j:Int).toNat]'qn=p:=⟨_,rfl⟩
   have hne:n.domains≠[]:=fun e=>by rw[e]at hlt;cases hlt
   have hset:n.domains.set (j:Int).toNat p=n.domains:=by rw[← hp];exact List.set_getElem_self _
   have hpl:=h2.2.1 p (by rw[← hp];exact List.getElem_mem _)
   refine oO ?_
   refine⟨by omega,by show _<n.domains.length;omega,?_⟩
   conv=>whnf
   refine⟨hne,?_⟩
   conv=>whnf
   refine⟨E,by omega,?_⟩
   rw[hp]
   conv=>whnf
   refine cD (M0 p.peers hpl) F170 ?_
   refine oD ?_
   refine⟨by omega,by show _<n.domains.length;omega,?_⟩
   conv=>whnf
   refine⟨hne,?_⟩
   conv=>whnf
   refine⟨E,by omega,p,(by rw[hp];rfl),(by rw[hp];rfl),?_⟩
   conv=>whnf
   refine kW ?_
   refine iW ?_
   exact An [] hlt ⟨⟨E,E,E,E,E,E,E,E,Y⟩,⟨.inl E,E,.inl E,E,.inl E,E,.inl (congrArg (Ob.row 6 Au) hset.symm),E,.inl E,E,.inl E,E,Y⟩,E,E⟩
  ·refine oO ?_
   refine Aq n.floods.length (fun j=>[(2,.ptr 2 0),(3,.ptr 3 0),(74,Aa n.floods.length),(75,Aa j)]) (fun _=>[(2,.box [.val (.slice none 0 0),.val (.slice none 0 0),.val (.slice none 0 0),.val (.slice none 0 0),.val (.slice none 0 0),.val (.slice none 0 0),.val (.slice none 0 0),.val (.slice none 0 0)]),(3,.box [.sl 5 Bn n.devices,.osl 14,.sl 3 Cp n.links,.osl 20,.sl 4 Bk n.statics,.osl 26,.osl 29,.sl 5 Cr n.irbs]),(14,.row 7 A7 n.ports),(20,.row 6 Au n.domains),(26,.row 4 B1 n.floods),(29,.row 5 C3 n.vrfs)]) []
    ⟨⟨rfl,rfl,rfl,rfl,rfl,rfl,rfl,rfl,trivial⟩,⟨.inl rfl,rfl,.inl rfl,rfl,.inl rfl,rfl,.inl rfl,rfl,.inl rfl,rfl,.inl rfl,rfl,trivial⟩,rfl,rfl⟩ ?_
   intro j hj
   refine oO ?_
   refine⟨fun h=>?_,fun h=>?_⟩
   ·have hlt:j<n.floods.length:=by simpa using h
    obtain ⟨p,hp⟩:∃ p,n.floods[(j:Int).toNat]'qn=p:=⟨_,rfl⟩
    have hne:n.floods≠[]:=fun e=>by rw[e]at hlt;cases hlt
    have hset:n.floods.set (j:Int).toNat p=n.floods:=by rw[← hp];exact List.set_getElem_self _
    have hpl:=h2.2.2.1 p (by rw[← hp];exact List.getElem_mem _)
    refine oO ?_
    refine⟨by omega,by show _<n.floods.length;omega,?_⟩
    conv=>whnf
    refine⟨hne,?_⟩
    conv=>whnf
    refine⟨E,by omega,?_⟩
    rw[hp]
    conv=>whnf
    refine cD (Apv p.addrs hpl) F171 ?_
    refine oD ?_
    refine⟨by omega,by show _<n.floods.length;omega,?_⟩
    conv=>whnf
    refine⟨hne,?_⟩
    conv=>whnf
    refine⟨E,by omega,p,(by rw[hp];rfl),(by rw[hp];rfl),?_⟩
    conv=>whnf
    refine kW ?_
    refine iW ?_
    exact An [] hlt ⟨⟨E,E,E,E,E,E,E,E,Y⟩,⟨.inl E,E,.inl E,E,.inl E,E,.inl E,E,.inl (congrArg (Ob.row 4 B1) hset.symm),E,.inl E,E,Y⟩,E,E⟩
   ·refine oO ?_
    refine Aq n.vrfs.length (fun j=>[(2,.ptr 2 0),(3,.ptr 3 0),(93,Aa n.vrfs.length),(94,Aa j)]) (fun _=>[(2,.box [.val (.slice none 0 0),.val (.slice none 0 0),.val (.slice none 0 0),.val (.slice none 0 0),.val (.slice none 0 0),.val (.slice none 0 0),.val (.slice none 0 0),.val (.slice none 0 0)]),(3,.box [.sl 5 Bn n.devices,.osl 14,.sl 3 Cp n.links,.osl 20,.sl 4 Bk n.statics,.osl 26,.osl 29,.sl 5 Cr n.irbs]),(14,.row 7 A7 n.ports),(20,.row 6 Au n.domains),(26,.row 4 B1 n.floods),(29,.row 5 C3 n.vrfs)]) []
     ⟨⟨rfl,rfl,rfl,rfl,rfl,rfl,rfl,rfl,trivial⟩,⟨.inl rfl,rfl,.inl rfl,rfl,.inl rfl,rfl,.inl rfl,rfl,.inl rfl,rfl,.inl rfl,rfl,trivial⟩,rfl,rfl⟩ ?_
    intro j hj
    refine oO ?_
    refine⟨fun h=>?_,fun h=>?_⟩
    ·have hlt:j<n.vrfs.length:=by simpa using h
     obtain ⟨p,hp⟩:∃ p,n.vrfs[(j:Int).toNat]'qn=p:=⟨_,rfl⟩
     have hne:n.vrfs≠[]:=fun e=>by rw[e]at hlt;cases hlt
     have hset:n.vrfs.set (j:Int).toNat p=n.vrfs:=by rw[← hp];exact List.set_getElem_self _
     have hpl:=h2.2.2.2 p (by rw[← hp];exact List.getElem_mem _)
     refine oO ?_
     have hne2:n.vrfs.set (j:Int).toNat p≠[]:=by rw[hset];exact hne
     have hp2:(n.vrfs.set (j:Int).toNat p)[(j:Int).toNat]'(by rw[hset];omega)=p:=by simp
     have hset2:(n.vrfs.set (j:Int).toNat p).set (j:Int).toNat p=n.vrfs:=by rw[hset,hset]
     refine⟨by omega,by show _<n.vrfs.length;omega,?_⟩
     conv=>whnf
     refine Bb (D0 E (.inr (.inr (.inr ⟨29,5,_,0,E,fun κ w h=>Sx hne h,E⟩)))) qq E ?_
     refine oD ?_
     refine⟨hne,?_⟩
     conv=>whnf
     refine⟨E,by omega,?_⟩
     rw[hp]
     conv=>whnf
     refine cD (M0 p.imports hpl.1) F170 ?_
     refine oD ?_
     refine Bb (D0 E (.inr (.inr (.inr ⟨29,5,_,0,E,fun κ w h=>Sx hne h,E⟩)))) qq E ?_
     refine oD ?_
     refine⟨hne,?_⟩
     conv=>whnf
     refine⟨E,by omega,?_⟩
     rw[hp]
     conv=>whnf
     refine cD (M0 p.exports hpl.2) F170 ?_
     refine oD ?_
     refine Bb (D0 E (.inr (.inr (.inr ⟨29,5,_,0,E,fun κ w h=>Sx hne h,E⟩)))) qq E ?_
     refine oD ?_
     refine⟨hne,?_⟩
     conv=>whnf
     refine⟨E,by omega,p,(by rw[hp];rfl),(by rw[hp];rfl),?_⟩
     conv=>whnf
     refine Bb (D0 E (.inr (.inr (.inr ⟨29,5,_,0,E,fun κ w h=>Sx hne2 h,E⟩)))) qq E ?_
     refine oD ?_
     refine⟨hne2,?_⟩
     conv=>whnf
     refine⟨E,by rw[hset];omega,p,(by rw[hp2];rfl),(by rw[hp2];rfl),?_⟩
     conv=>whnf
     refine kW ?_
     refine iW ?_
     exact An [] hlt ⟨⟨E,E,E,E,E,E,E,E,Y⟩,⟨.inl E,E,.inl E,E,.inl E,E,.inl E,E,.inl E,E,.inl (congrArg (Ob.row 5 C3) hset2.symm),E,Y⟩,E,E⟩
    ·refine oO ?_
     refine Ap 14 E ?_
     refine Ap 20 E ?_
     refine Ap 26 E ?_
     refine Ap 29 E ?_
     exact dN
theorem Oz (l:List UInt8) (hl:l.length<2147483648):Sy.Spec Tryz.prog 290 [.sl 1 Af l] [] (.sl 1 Af l) []:=cT F290 Tryz.ntmps290 fun F hF=>by
 conv=>whnf
 refine E3 E (.inl E) E E E .sl E E ?_
 intro b hb
 cases b
 ·refine oF ?_
  refine Ae (Ad Γ.toTy 7 E E E E E (.lit (e:=Af) (l:=[]) E E) .sl qz (by simp;omega) (by simp;omega)) E E ?_
  refine Ap 7 E ?_
  refine oO ?_
  exact dN
 ·have h0:l=[]:=List.eq_nil_of_length_eq_zero (hb rfl)
  subst h0
  refine oT ?_
  refine Ai 2 1 Af E ?_
  exact dN
theorem cut6 (b:List UInt8) (k j:Nat) (hj:j<6) (h:k+6≤b.length):Hi (((b.drop k).take 6).take (j+1))=Hi (((b.drop k).take 6).take j) * 256+(b[k+j]'qn).toNat:=by
 rw[W1 _ (by rw[List.length_take,List.length_drop];omega)]
 congr 2
 rw[List.getElem_take,List.getElem_drop]
theorem Ahx (b:List UInt8) (k:Nat) (h:k+6≤b.length) (hb:b.length<100000):Sy.Spec Tryz.prog 181 [.sl 1 Af b,Aa k] [] (.tup [Aw (Hi ((b.drop k).take 6)),Ab true]) []:=cT F181 Tryz.ntmps181 fun F hF=>by
 ((conv=>whnf);refine aF ?_;refine rg ?_;conv=>whnf)
 refine iW ?_
 (refine⟨fun h=>False.elim (by simp at h;omega),fun _=>?_⟩;refine rg ?_;conv=>whnf)
 refine Aq 6 (fun j=>[(0,.sl 1 Af b),(1,Aa k),(6,Aw (Hi (((b.drop k).take 6).take j))),(17,Aa j)]) (fun _=>[]) [] ⟨⟨E,E,E,E,E,E,E,E,Y⟩,Y,E,E⟩ ?_
 intro j hj
 have hlt2:=Kc _ (((b.drop k).take 6).take j) rfl
 refine oO ?_
 refine⟨fun h2=>?_,fun h2=>?_⟩
 ·have hj6:j<6:=by have:=of_decide_eq_true h2;omega
  have hs:=cut6 b k j hj6 h
  have hll:(((b.drop k).take 6).take j).length=j:=by rw[List.length_take,List.length_take,List.length_drop];omega
  rw[hll]at hlt2
  have h5:Hi (((b.drop k).take 6).take j)<1099511627776:=Nat.lt_of_lt_of_le hlt2 (by
   have:(256:Nat) ^ j≤256 ^ 5:=Nat.pow_le_pow_right qy qn
   exact this)
  have hi0:((k:Int)+(j:Int)).toNat<b.length:=by omega
  obtain ⟨c,hc⟩:∃ c,b[((k:Int)+(j:Int)).toNat]'hi0=c:=⟨_,rfl⟩
  have hc':b[k+j]'qn=c:=by rw[← hc];congr 1
  rw[hc']at hs
  have hcat:=Atl _ c h5
  refine oO ?_
  refine⟨by decide,?_⟩
  conv=>whnf
  refine iW ?_
  refine⟨E,by omega,hi0,?_⟩
  rw[hc]
  conv=>whnf
  refine iW ?_
  exact An [] hj6 ⟨⟨E,E,E,E,congrArg (fun z:Int=>SV.val (.int .u64 z)) (hcat.trans (congrArg Int.ofNat hs.symm)).symm,E,E,E,Y⟩,Y,E,E⟩
 ·have hj6:j=6:=by have:=of_decide_eq_false h2;omega
  subst hj6
  rw[List.take_take,Nat.min_self]
  refine oO ?_
  exact dN
theorem Aex (l:List UInt8) (h:l.length≤6):Sy.Spec Tryz.prog 251 [.sl 1 Af l] [] (Aw (Hi l)) []:=cT F251 Tryz.ntmps251 fun F hF=>by
 conv=>whnf
 refine Aq l.length (fun j=>[(0,.sl 1 Af l),(3,Aw (Hi (l.take j))),(4,Aa j)]) (fun _=>[]) [] ⟨⟨E,E,E,E,E,E,Y⟩,Y,E,E⟩ ?_
 intro j hj
 have hlt2:=Kc _ (l.take j) rfl
 refine oO ?_
 refine⟨fun h2=>?_,fun h2=>?_⟩
 ·have hlt:j<l.length:=by have:=of_decide_eq_true h2;omega
  have hj0:((j:Nat):Int).toNat<l.length:=by simpa using hlt
  have hs:=W1 l hlt
  have hll:(l.take j).length=j:=by rw[List.length_take];omega
  rw[hll]at hlt2
  have h5:Hi (l.take j)<1099511627776:=Nat.lt_of_lt_of_le hlt2 (by
   have:(256:Nat) ^ j≤256 ^ 5:=Nat.pow_le_pow_right qy qn
   exact this)
  obtain ⟨c,hc⟩:∃ c,l[((j:Nat):Int).toNat]'hj0=c:=⟨_,rfl⟩
  have hc':l[j]=c:=hc
  rw[hc']at hs
  have hcn:=c.toNat_lt
  generalize Hi (l.take j)=m at *
  refine oO ?_
  refine⟨E,by omega,hj0,?_⟩
  rw[hc]
  conv=>whnf
  refine iW ?_
  refine An [] hlt ⟨⟨E,E,congrArg (fun z:Int=>SV.val (.int .u64 z)) ?_,E,E,E,Y⟩,Y,E,E⟩
  rw[hs,IntKind.wrap_u64,IntKind.wrap_u64,IntKind.wrap_u64]
  omega
 ·have hje:j=l.length:=by have:=of_decide_eq_false h2;omega
  subst hje
  rw[List.take_length]
  refine oO ?_
  exact dN
theorem Aap (b:List UInt8) (k:Nat) (h:k+6≤b.length) (hb:b.length<100000):Sy.Spec Tryz.prog 184 [.sl 1 Af b,Aa k] [] (.tup [Aw (Hi ((b.drop k).take 6)),Ab true]) []:=cT F184 Tryz.ntmps184 fun F hF=>by
 have e:(b.take (k+6)).drop k=(b.drop k).take 6:=by rw[List.drop_take];congr 1;omega
 have q:=Aex ((b.take (k+6)).drop k) (by rw[e,List.length_take];omega)
 rw[← e]
 ((conv=>whnf);refine aF ?_;refine rg ?_;conv=>whnf)
 (refine⟨fun h=>False.elim (by simp at h;omega),fun _=>?_⟩;refine rg ?_;conv=>whnf)
 refine iW ?_
 (refine⟨fun h=>False.elim (by simp at h;omega),fun _=>?_⟩;refine rg ?_;conv=>whnf)
 refine iW ?_
 refine Ae (Bc (lo:=k) (hi:=k+6) Γ.toTy E E E E (.inr ⟨_,_,E,E⟩) (.inr ⟨_,_,E,E⟩) qn h) E E ?_
 refine oO ?_
 refine c0 q F251 ?_
 refine oO ?_
 exact dN
theorem Zx (a b:UInt8):Hi [a,b]=a.toNat * 256+b.toNat:=by simp[Hi]
theorem Qi {b:List UInt8} {k:Nat} (h:k+2≤b.length):(b.drop k).take 2=[b[k]'qn,b[k+1]'qn]:=by
 rw[List.drop_eq_getElem_cons (by omega:k<b.length),List.drop_eq_getElem_cons (by omega:k+1<b.length)];rfl
theorem Ov (b:List UInt8) (hb:b.length<100000):Sy.Spec Tryz.prog 121 [.sl 1 Af b] [] (.tup [Bh (takeF b).1,Aa (takeF b).2]) []:=cT F121 Tryz.ntmps121 fun F hF=>by
 have hres:=takeF.eq_1 b
 generalize takeF b=res at *
 conv=>whnf
 refine⟨fun h=>?_,fun h=>?_⟩
 ·rw[if_pos (qA h)]at hres
  subst hres
  refine oO ?_
  refine Ar 2 [Aw 0,Aw 0,Aa 0,.sl 1 Af []] E (.cons (.refl _) (.cons (.refl _) (.cons (.refl _) (.cons .nil .nil)))) ?_
  exact dN
 rw[if_neg (qB h)]at hres
 have h14:14≤b.length:=qB h
 refine oO ?_
 refine⟨fun h=>?_,fun h=>?_⟩
 ·rw[if_pos (qA h)]at hres
  subst hres
  refine oO ?_
  refine Ar 2 [Aw 0,Aw 0,Aa 0,.sl 1 Af []] E (.cons (.refl _) (.cons (.refl _) (.cons (.refl _) (.cons .nil .nil)))) ?_
  exact dN
 rw[if_neg (qB h)]at hres
 have q1:=Ahx b 0 qn hb
 have q2:=Ahx b 6 qn hb
 rw[Qi qn,Zx]at hres
 have hp:=Hf (b[12]'qn) (b[13]'qn)
 have hdl:(b.drop 14).length=b.length-14:=List.length_drop
 have hn:((b.length:Int)-14)=((b.length-14:Nat):Int):=by omega
 have hcp:(b.drop 14).take (List.replicate (b.length-14) (0:UInt8)).length++(List.replicate (b.length-14) (0:UInt8)).drop (b.drop 14).length=b.drop 14:=by
  have e1:(List.replicate (b.length-14) (0:UInt8)).drop (b.length-14)=[]:=List.drop_eq_nil_of_le qz
  rw[List.length_replicate,hdl,e1,List.append_nil]
  exact List.take_of_length_le qn
 have etk:(b.take b.length).drop 14=b.drop 14:=by rw[List.take_length]
 have i12:(12:Int).toNat<b.length:=by show 12<_;omega
 have i13:(13:Int).toNat<b.length:=by show 13<_;omega
 refine oO ?_
 refine c0 q1 F181 ?_
 refine oO ?_
 refine c0 q2 F181 ?_
 refine oO ?_
 refine iW ?_
 refine Ae (Bm Γ.toTy (d:=32) (n:=b.length-14) Af 0 E E E E E E (congrArg (fun z=>SV.val (.int .i64 z)) hn) (congrArg (fun z=>SV.val (.int .i64 z)) hn) qn qn E E E) E E ?_
 refine oO ?_
 refine Ae (Bc (lo:=14) (hi:=b.length) Γ.toTy E E E E (.inr ⟨_,_,E,E⟩) (.inl ⟨E,E⟩) qn (Nat.le_refl _)) E E ?_
 rw[etk]
 refine oO ?_
 refine Ae (Xt Γ.toTy E E E E E .sl) E E ?_
 rw[hcp]
 refine Ap 32 E ?_
 refine oO ?_
 refine⟨E,by decide,i12,?_⟩
 conv=>whnf
 refine⟨by decide,?_⟩
 conv=>whnf
 refine⟨E,by decide,i13,?_⟩
 conv=>whnf
 refine kW ?_
 refine Ao E (.cons (.cell E E E E) (.cons .tmp .nil)) ?_ E
 rw[hres]
 show SV.tup [.agg [_,_,Aa ((b[12].toNat * 256+b[13].toNat:Nat):Int),_],_]=_
 rw[← hp]
 rfl
theorem Mo (m:Nat) (h:m<18446744073709551616):Sy.Spec Tryz.prog 226 [Aw m] [] (Ab (Ea m)) []:=cT F226 Tryz.ntmps226 fun F hF=>by
 have e:=Apj m h
 conv=>whnf
 refine Ao E (.cons .tmp .nil) ?_ E
 exact congrArg Ab e.symm
theorem Js (m:Nat) (h:m<18446744073709551616):Sy.Spec Tryz.prog 186 [Aw m] [] (Ab (Ea m)) []:=cT F186 Tryz.ntmps186 fun F hF=>by
 have e:=Ase m
 have hl:(be 6 m).length=6:=A3 m 6
 have h0:(0:Int).toNat<(be 6 m).length:=by rw[hl];decide
 have hg:(be 6 m)[(0:Int).toNat]'h0=UInt8.ofNat (m / 256 ^ 5):=rfl
 conv=>whnf
 refine Ae (Ah [(0,4)] E F110 (Al5 m h) E Y E ⟨.inr E,Y⟩) E E ?_
 refine Ap 4 E ?_
 refine oO ?_
 refine⟨E,by decide,h0,?_⟩
 rw[hg]
 conv=>whnf
 refine⟨by decide,?_⟩
 conv=>whnf
 refine Ao E (.cons .tmp .nil) ?_ E
 refine congrArg Ab ?_
 rw[← e,Bool.eq_iff_iff]
 rw[Int.tmod_eq_emod_of_nonneg qn]
 simp
 omega
theorem Sw (f:FrameM):Sy.Spec Tryz.prog 182 [Bh f] [] (Ab (decide (f.typ=33024))) []:=cT F182 Tryz.ntmps182 fun F hF=>by
 conv=>whnf
 refine Ao E (.cons .tmp .nil) ?_ E
 refine congrArg Ab ?_
 rw[Bool.eq_iff_iff];simp;omega
theorem Ow (p:Port) (tg:Bool) (vid:Int) (hl:Al p.tagged):Sy.Spec Tryz.prog 227 [A7 p,Ab tg,Aa vid] [] (.tup [Aa (vlanT p tg vid).1,Ab (vlanT p tg vid).2]) []:=cT F227 Tryz.ntmps227 fun F hF=>by
 have hres:=vlanT.eq_1 p tg vid
 generalize vlanT p tg vid=res at *
 have q:=Dm p.tagged vid hl
 have hz:decide (p.native≠0)=(p.native != 0):=by rw[Bool.eq_iff_iff];simp
 rw[hz]at hres
 cases tg
 ·rw[if_pos (.inl rfl)]at hres
  subst hres
  ((conv=>whnf);refine aT ?_;refine rg ?_;conv=>whnf)
  refine kW ?_
  exact dN
 ((conv=>whnf);refine aF ?_;refine rg ?_;conv=>whnf)
 refine⟨fun h=>?_,fun h=>?_⟩
 ·rw[if_pos (.inr (by simpa using h))]at hres
  subst hres
  refine oO ?_
  refine kW ?_
  exact dN
 rw[if_neg (by simpa using h)]at hres
 refine oO ?_
 refine c0 q F25 ?_
 cases hi:inB p.tagged vid
 ·rw[if_neg (by simp[hi])]at hres
  subst hres
  refine oF ?_
  exact dN
 ·rw[if_pos hi]at hres
  subst hres
  refine oT ?_
  exact dN
theorem Aal (p:Port) (tg:Bool) (vid:Int) (hl:Al p.tagged):Sy.Spec Tryz.prog 187 [A7 p,Ab tg,Aa vid] [] (.tup [Aa (vlanT p tg vid).1,Ab (vlanT p tg vid).2]) []:=cT F187 Tryz.ntmps187 fun F hF=>by
 have hres:=vlanT.eq_1 p tg vid
 generalize vlanT p tg vid=res at *
 have q:=Dn p.tagged vid hl
 have hz:decide (p.native≠0)=(p.native != 0):=by rw[Bool.eq_iff_iff];simp
 rw[hz]at hres
 cases tg
 ·rw[if_pos (.inl rfl)]at hres
  subst hres
  ((conv=>whnf);refine aT ?_;refine rg ?_;(conv=>whnf);refine aT ?_;refine rg ?_;conv=>whnf)
  refine kW ?_
  exact dN
 ((conv=>whnf);refine aF ?_;refine rg ?_;conv=>whnf)
 refine⟨fun h=>?_,fun h=>?_⟩
 ·rw[if_pos (.inr (by simpa using h))]at hres
  subst hres
  refine oO ?_
  refine kW ?_
  exact dN
 rw[if_neg (by simpa using h)]at hres
 refine oO ?_
 refine c0 q F36 ?_
 cases hi:inB p.tagged vid
 ·rw[if_neg (by simp[hi])]at hres
  subst hres
  refine oF ?_
  exact dN
 ·rw[if_pos hi]at hres
  subst hres
  refine oT ?_
  exact dN
theorem Ml (a b:UInt8):IntKind.i64.wrap (a.toNat:Int) * 256+IntKind.i64.wrap (b.toNat:Int)=((a.toNat * 256+b.toNat:Nat):Int):=by
 have h1:=a.toNat_lt
 have h2:=b.toNat_lt
 rw[IntKind.wrap_i64,IntKind.wrap_i64];omega
theorem Oi (b:List UInt8) (hb:b.length<100000):Sy.Spec Tryz.prog 124 [.sl 1 Af b] [] (.tup [Bh (takeF b).1,Aa (takeF b).2]) []:=cT F124 Tryz.ntmps124 fun F hF=>by
 have hres:=takeF.eq_1 b
 generalize takeF b=res at *
 conv=>whnf
 refine⟨fun h=>?_,fun h=>?_⟩
 ·rw[if_pos (qA h)]at hres
  subst hres
  refine oO ?_
  refine Ar 2 [Aw 0,Aw 0,Aa 0,.sl 1 Af []] E (.cons (.refl _) (.cons (.refl _) (.cons (.refl _) (.cons .nil .nil)))) ?_
  exact dN
 rw[if_neg (qB h)]at hres
 have h14:14≤b.length:=qB h
 refine oO ?_
 refine⟨fun h=>?_,fun h=>?_⟩
 ·rw[if_pos (qA h)]at hres
  subst hres
  refine oO ?_
  refine Ar 2 [Aw 0,Aw 0,Aa 0,.sl 1 Af []] E (.cons (.refl _) (.cons (.refl _) (.cons (.refl _) (.cons .nil .nil)))) ?_
  exact dN
 rw[if_neg (qB h)]at hres
 have q1:=Aap b 0 qn hb
 have q2:=Aap b 6 qn hb
 rw[Qi qn,Zx]at hres
 have hp:=Ml (b[12]'qn) (b[13]'qn)
 have hx1:=(b[12]'qn).toNat_lt
 have hx2:=(b[13]'qn).toNat_lt
 have etk:(b.take b.length).drop 14=b.drop 14:=by rw[List.take_length]
 have hdl:(b.drop 14).length=b.length-14:=List.length_drop
 have i12:(12:Int).toNat<b.length:=by show 12<_;omega
 have i13:(13:Int).toNat<b.length:=by show 13<_;omega
 have e12:b[(12:Int).toNat]'i12=b[12]'qn:=rfl
 have e13:b[(13:Int).toNat]'i13=b[13]'qn:=rfl
 generalize b[12]'qn=x at *
 generalize b[13]'qn=y at *
 have w1:IntKind.i64.wrap (x.toNat:Int)=x.toNat:=by rw[IntKind.wrap_i64];omega
 refine oO ?_
 refine c0 q1 F184 ?_
 refine oO ?_
 refine c0 q2 F184 ?_
 refine oO ?_
 refine⟨E,by decide,i12,?_⟩
 rw[e12]
 conv=>whnf
 refine⟨by rw[w1];unfold I64;omega,?_⟩
 conv=>whnf
 refine⟨E,by decide,i13,?_⟩
 rw[e13]
 conv=>whnf
 refine⟨by rw[hp];unfold I64;omega,?_⟩
 rw[hp]
 conv=>whnf
 refine Bb (Bc (lo:=14) (hi:=b.length) Γ.toTy E E E E (.inr ⟨_,_,E,E⟩) (.inl ⟨E,E⟩) qn (Nat.le_refl _)) qq E ?_
 refine oD ?_
 refine Bb (Ad Γ.toTy 41 E E E E E (.lit (e:=Af) (l:=[]) E E) .sl qz (by simp;omega) (by simp;omega)) qq E ?_
 refine oD ?_
 refine kW ?_
 refine Ap 41 E ?_
 refine Ao E (.cons (.cell E E E E) (.cons .tmp .nil)) ?_ E
 rw[hres]
 show SV.tup [.agg [_,_,_,.sl 1 Af (b.drop 14)],_]=SV.tup [.agg [_,_,_,.sl 1 Af ([]++(b.take b.length).drop 14)],_]
 rw[etk]
 rfl
theorem As5 (n:Nat) (h:n<9223372036854775808):bits .and .i64 (n:Int) 4095=((n % 4096:Nat):Int):=by
 have:=Jl n 4095 h qy
 rw[show ((4095:Nat):Int)=4095 from rfl]at this
 rw[this]
 have h2:=Nat.and_two_pow_sub_one_eq_mod n 12
 rw[show 2 ^ 12-1=4095 from rfl,show 2 ^ 12=4096 from rfl]at h2
 rw[h2]
theorem Af3 {b:List UInt8} (h:4≤b.length):b.take 2=[b[0]'qn,b[1]'qn]∧(b.drop 2).take 2=[b[2]'qn,b[3]'qn]:=by
 have h1:=Qi (b:=b) (k:=0) qn
 have h2:=Qi (b:=b) (k:=2) qn
 exact⟨h1,h2⟩
abbrev zF:List SV:=[Aw 0,Aw 0,Aa 0,.sl 1 Af []]
theorem Ans (f:FrameM) (hb:f.body.length<100000):Sy.Spec Tryz.prog 225 [Bh f] [] (.tup [Bh (stripT f).1,Aa (stripT f).2.1,Aa (stripT f).2.2.1,Aa (stripT f).2.2.2]) []:=cT F225 Tryz.ntmps225 fun F hF=>by
 have hres:=stripT.eq_1 f
 generalize stripT f=res at *
 have q0:=Sw f
 obtain ⟨d,s,t,b⟩:=f
 dsimp only at hres hb q0
 conv=>whnf
 refine c0 q0 F182 ?_
 by_cases ht:t=33024
 rotate_left
 ·rw[if_pos ht]at hres
  subst hres
  rw[decide_eq_false ht]
  refine oT ?_
  refine Ar 2 zF E (.cons (.refl _) (.cons (.refl _) (.cons (.refl _) (.cons .nil .nil)))) ?_
  exact dN
 rw[if_neg (by simpa using ht)]at hres
 rw[decide_eq_true ht]
 refine oF ?_
 refine⟨fun h=>?_,fun h=>?_⟩
 ·rw[if_pos (by have:=of_decide_eq_true h;dsimp only at this;omega)]at hres
  subst hres
  refine oO ?_
  refine Ar 2 zF E (.cons (.refl _) (.cons (.refl _) (.cons (.refl _) (.cons .nil .nil)))) ?_
  exact dN
 have h4:4≤b.length:=by have:=of_decide_eq_false h;dsimp only at this;omega
 rw[if_neg qn,(Af3 h4).1,(Af3 h4).2,Zx,Zx]at hres
 have c1:=Oz (b.drop 4) (by rw[List.length_drop];omega)
 have etk:(b.take b.length).drop 4=b.drop 4:=by rw[List.take_length]
 rw[← etk]at c1
 have i0:(0:Int).toNat<b.length:=by show 0<_;omega
 have i1:(1:Int).toNat<b.length:=by show 1<_;omega
 have i2:(2:Int).toNat<b.length:=by show 2<_;omega
 have i3:(3:Int).toNat<b.length:=by show 3<_;omega
 have e0:b[(0:Int).toNat]'i0=b[0]'qn:=rfl
 have e1:b[(1:Int).toNat]'i1=b[1]'qn:=rfl
 have e2:b[(2:Int).toNat]'i2=b[2]'qn:=rfl
 have e3:b[(3:Int).toNat]'i3=b[3]'qn:=rfl
 have hp1:=Hf (b[0]'qn) (b[1]'qn)
 have hp2:=Hf (b[2]'qn) (b[3]'qn)
 have l0:=(b[0]'qn).toNat_lt
 have l1:=(b[1]'qn).toNat_lt
 obtain ⟨P,hP⟩:∃ P,(b[0]'qn).toNat * 256+(b[1]'qn).toNat=P:=⟨_,rfl⟩
 obtain ⟨Q,hQ⟩:∃ Q,(b[2]'qn).toNat * 256+(b[3]'qn).toNat=Q:=⟨_,rfl⟩
 have hPl:P<65536:=by omega
 rw[hP]at hp1 hres
 rw[hQ]at hp2 hres
 have ha:=As5 P qn
 have hs:(P:Int).fdiv (2 ^ (min (Int.toNat 12) IntKind.i64.bits))=((P / 4096:Nat):Int):=Amm P 12 qy
 refine oO ?_
 refine⟨E,by decide,i0,?_⟩
 rw[e0]
 conv=>whnf
 refine⟨by decide,?_⟩
 conv=>whnf
 refine⟨E,by decide,i1,?_⟩
 rw[e1]
 conv=>whnf
 refine⟨qq,?_⟩
 rw[hp1]
 conv=>whnf
 refine⟨E,by decide,i2,?_⟩
 rw[e2]
 conv=>whnf
 refine⟨by decide,?_⟩
 conv=>whnf
 refine⟨E,by decide,i3,?_⟩
 rw[e3]
 conv=>whnf
 refine⟨qq,?_⟩
 rw[hp2]
 conv=>whnf
 refine⟨by decide,?_⟩
 rw[ha,hs]
 conv=>whnf
 refine⟨fun h=>?_,fun h=>?_⟩
 ·rw[if_pos (.inl (qA h))]at hres
  subst hres
  refine oO ?_
  refine Ar 2 zF E (.cons (.refl _) (.cons (.refl _) (.cons (.refl _) (.cons .nil .nil)))) ?_
  exact dN
 have h5:¬ 4094<P % 4096:=qB h
 refine oO ?_
 refine⟨fun h=>?_,fun h=>?_⟩
 ·rw[if_pos (.inr (by have:(Q:Int)=33024:=(by simpa using h);omega))]at hres
  subst hres
  refine oO ?_
  refine Ar 2 zF E (.cons (.refl _) (.cons (.refl _) (.cons (.refl _) (.cons .nil .nil)))) ?_
  exact dN
 have h6:¬ Q=33024:=fun e=>by rw[e]at h;simp at h
 rw[if_neg qn]at hres
 subst hres
 refine oO ?_
 refine Bb (Bc (lo:=4) (hi:=b.length) Γ.toTy E E E E (.inr ⟨_,_,E,E⟩) (.inl ⟨E,E⟩) h4 (Nat.le_refl _)) qq E ?_
 refine oD ?_
 refine cD c1 F290 ?_
 refine oD ?_
 refine kW ?_
 refine Ao E (.cons (.cell E E E E) (.cons .tmp (.cons .tmp (.cons .tmp .nil)))) ?_ E
 show SV.tup [.agg [_,_,_,.sl 1 Af (b.drop 4)],_,_,_]=SV.tup [.agg [_,_,_,.sl 1 Af ((b.take b.length).drop 4)],_,_,_]
 rw[etk]
 rfl
theorem Ahf (f:FrameM) (hb:f.body.length<100000):Sy.Spec Tryz.prog 185 [Bh f] [] (.tup [Bh (stripT f).1,Aa (stripT f).2.1,Aa (stripT f).2.2.1,Aa (stripT f).2.2.2]) []:=cT F185 Tryz.ntmps185 fun F hF=>by
 have hres:=stripT.eq_1 f
 generalize stripT f=res at *
 obtain ⟨d,s,t,b⟩:=f
 dsimp only at hres hb
 conv=>whnf
 by_cases ht:t=33024
 rotate_left
 ·rw[if_pos ht]at hres
  subst hres
  refine⟨fun _=>?_,fun h=>absurd (show (t:Int)=33024 by simpa using h) qn⟩
  refine oO ?_
  refine Ar 2 zF E (.cons (.refl _) (.cons (.refl _) (.cons (.refl _) (.cons .nil .nil)))) ?_
  exact dN
 rw[if_neg (by simpa using ht)]at hres
 refine⟨fun h=>absurd (show (t:Int)≠33024 by simpa using h) qn,fun _=>?_⟩
 refine oO ?_
 refine⟨fun h=>?_,fun h=>?_⟩
 ·rw[if_pos (by have:=of_decide_eq_true h;dsimp only at this;omega)]at hres
  subst hres
  refine oO ?_
  refine Ar 2 zF E (.cons (.refl _) (.cons (.refl _) (.cons (.refl _) (.cons .nil .nil)))) ?_
  exact dN
 have h4:4≤b.length:=by have:=of_decide_eq_false h;dsimp only at this;omega
 rw[if_neg qn,(Af3 h4).1,(Af3 h4).2,Zx,Zx]at hres
 have etk:(b.take b.length).drop 4=b.drop 4:=by rw[List.take_length]
 have hdl:(b.drop 4).length=b.length-4:=List.length_drop
 have i0:(0:Int).toNat<b.length:=by show 0<_;omega
 have i1:(1:Int).toNat<b.length:=by show 1<_;omega
 have i2:(2:Int).toNat<b.length:=by show 2<_;omega
 have i3:(3:Int).toNat<b.length:=by show 3<_;omega
 have e0:b[(0:Int).toNat]'i0=b[0]'qn:=rfl
 have e1:b[(1:Int).toNat]'i1=b[1]'qn:=rfl
 have e2:b[(2:Int).toNat]'i2=b[2]'qn:=rfl
 have e3:b[(3:Int).toNat]'i3=b[3]'qn:=rfl
 have hp1:=Ml (b[0]'qn) (b[1]'qn)
 have hp2:=Ml (b[2]'qn) (b[3]'qn)
 have l0:=(b[0]'qn).toNat_lt
 have l1:=(b[1]'qn).toNat_lt
 have l2:=(b[2]'qn).toNat_lt
 have l3:=(b[3]'qn).toNat_lt
 generalize b[0]'qn=x0 at *
 generalize b[1]'qn=x1 at *
 generalize b[2]'qn=x2 at *
 generalize b[3]'qn=x3 at *
 have w0:IntKind.i64.wrap (x0.toNat:Int)=x0.toNat:=by rw[IntKind.wrap_i64];omega
 have w2:IntKind.i64.wrap (x2.toNat:Int)=x2.toNat:=by rw[IntKind.wrap_i64];omega
 obtain ⟨P,hP⟩:∃ P,x0.toNat * 256+x1.toNat=P:=⟨_,rfl⟩
 obtain ⟨Q,hQ⟩:∃ Q,x2.toNat * 256+x3.toNat=Q:=⟨_,rfl⟩
 have hPl:P<65536:=by omega
 have hQl:Q<65536:=by omega
 rw[hP]at hp1 hres
 rw[hQ]at hp2 hres
 have hmm:(P:Int).tmod 4096=((P % 4096:Nat):Int):=by rw[Int.tmod_eq_emod_of_nonneg qn];omega
 have hd:IntKind.i64.wrap ((P:Int).tdiv 4096)=((P / 4096:Nat):Int):=by rw[Int.tdiv_eq_ediv_of_nonneg qn,IntKind.wrap_i64];omega
 refine oO ?_
 refine⟨E,by decide,i0,?_⟩
 rw[e0]
 conv=>whnf
 refine⟨by rw[w0];unfold I64;omega,?_⟩
 conv=>whnf
 refine⟨E,by decide,i1,?_⟩
 rw[e1]
 conv=>whnf
 refine⟨by rw[hp1];unfold I64;omega,?_⟩
 rw[hp1]
 conv=>whnf
 refine kW ?_
 refine⟨E,by decide,i2,?_⟩
 rw[e2]
 conv=>whnf
 refine⟨by rw[w2];unfold I64;omega,?_⟩
 conv=>whnf
 refine⟨E,by decide,i3,?_⟩
 rw[e3]
 conv=>whnf
 refine⟨by rw[hp2];unfold I64;omega,?_⟩
 rw[hp2]
 conv=>whnf
 refine kW ?_
 refine⟨by decide,?_⟩
 rw[hmm]
 conv=>whnf
 refine⟨fun h=>?_,fun h=>?_⟩
 ·rw[if_pos (.inl (by have:((P % 4096:Nat):Int)=4095:=(by simpa using h);omega))]at hres
  subst hres
  refine oT ?_
  refine Ar 2 zF E (.cons (.refl _) (.cons (.refl _) (.cons (.refl _) (.cons .nil .nil)))) ?_
  exact dN
 have h5:¬ P % 4096=4095:=fun e=>by rw[e]at h;simp at h
 refine oO ?_
 refine⟨fun h=>?_,fun h=>?_⟩
 ·rw[if_pos (.inr (by have:(Q:Int)=33024:=(by simpa using h);omega))]at hres
  subst hres
  refine oO ?_
  refine Ar 2 zF E (.cons (.refl _) (.cons (.refl _) (.cons (.refl _) (.cons .nil .nil)))) ?_
  exact dN
 have h6:¬ Q=33024:=fun e=>by rw[e]at h;simp at h
 rw[if_neg qn]at hres
 subst hres
 refine oO ?_
 refine Bb (Bc (lo:=4) (hi:=b.length) Γ.toTy E E E E (.inr ⟨_,_,E,E⟩) (.inl ⟨E,E⟩) h4 (Nat.le_refl _)) qq E ?_
 refine oD ?_
 refine Bb (Ad Γ.toTy 58 E E E E E (.lit (e:=Af) (l:=[]) E E) .sl qz (by simp;omega) (by simp;omega)) qq E ?_
 refine oD ?_
 refine⟨by decide,?_⟩
 conv=>whnf
 refine⟨by decide,?_⟩
 conv=>whnf
 refine kW ?_
 refine Ap 58 E ?_
 refine Ao E (.cons (.cell E E E E) (.cons .tmp (.cons .tmp (.cons .tmp .nil)))) ?_ E
 show SV.tup [.agg [_,_,_,.sl 1 Af (b.drop 4)],Aa ((P % 4096:Nat):Int),Aa ((P / 4096:Nat):Int),_]=SV.tup [.agg [_,_,_,.sl 1 Af ([]++(b.take b.length).drop 4)],Aa ((P:Int).tmod 4096),Aa (IntKind.i64.wrap ((P:Int).tdiv 4096)),_]
 rw[etk,hmm,hd]
 rfl
theorem Kq (f:FrameM) (h:FrameOK f):Sy.Spec Tryz.prog 45 [Bh f] [] (.tup [.osl 0,Aa 0]) [(0,.row 1 Af (Qb f))]:=Aio f.dst f.src f.typ f.body h.dst h.src h.typ h.body
theorem Kp (f:FrameM) (h:FrameOK f):Sy.Spec Tryz.prog 49 [Bh f] [] (.tup [.osl 0,Aa 0]) [(0,.row 1 Af (Qb f))]:=Aom f.dst f.src f.typ f.body h.dst h.src h.typ h.body
theorem Agk (f:FrameM) (v:Nat) (h:FrameOK f) (hv:v≤4094):Sy.Spec Tryz.prog 122 [Bh f,Aa v,Aa 0] [] (.tup [Bh (tagT f v).1,Aa (tagT f v).2]) []:=by
 have hres:=tagT.eq_1 f v
 have q0:=Sw f
 obtain ⟨d,s,t,b⟩:=f
 have h1:=h.typ
 have h2:=h.body
 dsimp only at hres q0 h1 h2
 by_cases ht:t=33024
 ·rw[if_pos ht]at hres
  rw[hres]
  rw[decide_eq_true ht]at q0
  refine Mz Γ hm 100 F122 Tryz.ntmps122 E fun F hF=>by
   conv=>whnf
   refine c0 q0 F182 ?_
   (refine oT ?_;refine bT ?_;refine bT ?_;refine bT ?_;refine bT ?_)
   refine Ar 6 zF E (.cons (.refl _) (.cons (.refl _) (.cons (.refl _) (.cons .nil .nil)))) ?_
   exact dN
 rw[if_neg ht]at hres
 by_cases hb:1500<b.length
 ·rw[if_pos hb]at hres
  rw[hres]
  rw[decide_eq_false ht]at q0
  refine Mz Γ hm 100 F122 Tryz.ntmps122 E fun F hF=>by
   conv=>whnf
   refine c0 q0 F182 ?_
   (refine oF ?_;refine bF ?_)
   (refine⟨fun h=>False.elim (by simp at h;omega),fun _=>?_⟩;refine rg ?_;(conv=>whnf);refine aF ?_;refine rg ?_;(conv=>whnf);refine aF ?_;refine rg ?_;(conv=>whnf);refine aF ?_;refine rg ?_;(conv=>whnf);refine⟨fun h=>False.elim (by simp at h;omega),fun _=>?_⟩;refine rg ?_;(conv=>whnf);refine⟨fun _=>?_,fun h=>False.elim (by simp at h;omega)⟩;refine rg ?_;conv=>whnf)
   refine Ar 6 zF E (.cons (.refl _) (.cons (.refl _) (.cons (.refl _) (.cons .nil .nil)))) ?_
   exact dN
 rw[if_neg hb]at hres
 rw[hres]
 exact Ato d s t v b ht h1 hv qn
theorem Aao (f:FrameM) (v:Nat) (h:FrameOK f) (hv:v≤4094):Sy.Spec Tryz.prog 125 [Bh f,Aa v,Aa 0] [] (.tup [Bh (tagT f v).1,Aa (tagT f v).2]) []:=by
 have hres:=tagT.eq_1 f v
 obtain ⟨d,s,t,b⟩:=f
 have h1:=h.typ
 have h2:=h.body
 dsimp only at hres h1 h2
 by_cases ht:t=33024
 ·subst ht
  rw[if_pos rfl]at hres
  rw[hres]
  refine Mz Γ hm 100 F125 Tryz.ntmps125 E fun F hF=>by
   ((conv=>whnf);refine aT ?_;refine rg ?_;(conv=>whnf);refine aT ?_;refine rg ?_;(conv=>whnf);refine aT ?_;refine rg ?_;(conv=>whnf);refine aT ?_;refine rg ?_;(conv=>whnf);refine aT ?_;refine rg ?_;conv=>whnf)
   (skip)
   refine Ar 6 zF E (.cons (.refl _) (.cons (.refl _) (.cons (.refl _) (.cons .nil .nil)))) ?_
   exact dN
 rw[if_neg ht]at hres
 by_cases hb:1500<b.length
 ·rw[if_pos hb]at hres
  rw[hres]
  refine Mz Γ hm 100 F125 Tryz.ntmps125 E fun F hF=>by
   conv=>whnf
   (refine⟨fun h=>False.elim (by simp at h;omega),fun _=>?_⟩;refine rg ?_;(conv=>whnf);refine aF ?_;refine rg ?_;(conv=>whnf);refine⟨fun h=>False.elim (by simp at h;omega),fun _=>?_⟩;refine rg ?_;(conv=>whnf);refine aF ?_;refine rg ?_;(conv=>whnf);refine aF ?_;refine rg ?_;(conv=>whnf);refine aF ?_;refine rg ?_;(conv=>whnf);refine⟨fun h=>False.elim (by simp at h;omega),fun _=>?_⟩;refine rg ?_;(conv=>whnf);refine⟨fun _=>?_,fun h=>False.elim (by simp at h;omega)⟩;refine rg ?_;conv=>whnf)
   refine Ar 6 zF E (.cons (.refl _) (.cons (.refl _) (.cons (.refl _) (.cons .nil .nil)))) ?_
   exact dN
 rw[if_neg hb]at hres
 rw[hres]
 exact Aj2 d s t v b ht h1 hv qn
theorem Anr {b:List UInt8} (h:(takeF b).2≠0):(takeF b).1=noF:=by
 unfold takeF at h ⊢
 split
 ·rfl
 rw[if_neg (by assumption)]at h
 split
 ·rfl
 rw[if_neg (by assumption)]at h
 exact absurd E h
theorem Z0 {b:List UInt8} (h:(takeF b).2=0):FrameOK (takeF b).1:=by
 unfold takeF at h ⊢
 split
 ·rw[if_pos (by assumption)]at h;cases h
 rw[if_neg (by assumption)]at h
 split
 ·rw[if_pos (by assumption)]at h;cases h
 rename_i h1 h2
 have l1:((b.take 6).length)=6:=by rw[List.length_take];omega
 have l2:(((b.drop 6).take 6).length)=6:=by rw[List.length_take,List.length_drop];omega
 have l3:(((b.drop 12).take 2).length)=2:=by rw[List.length_take,List.length_drop];omega
 have a1:=Kc _ _ l1
 have a2:=Kc _ _ l2
 have a3:=Kc _ _ l3
 refine⟨a1,a2,?_,?_⟩
 ·dsimp only;exact Nat.le_of_lt_succ a3
 ·dsimp only;rw[List.length_drop];omega
theorem Aqr {f:FrameM} (hf:FrameOK f) (h:(stripT f).2.2.2=0):FrameOK (stripT f).1:=by
 unfold stripT at h ⊢
 split
 ·rw[if_pos (by assumption)]at h;cases h
 rw[if_neg (by assumption)]at h
 split
 ·rw[if_pos (by assumption)]at h;cases h
 rw[if_neg (by assumption)]at h
 split
 ·rw[if_pos (by assumption)]at h;cases h
 rename_i h1 h2 h3
 have l3:(((f.body.drop 2).take 2).length)=2:=by rw[List.length_take,List.length_drop];omega
 have a3:=Kc _ _ l3
 have hb:=hf.body
 refine⟨hf.dst,hf.src,?_,?_⟩
 ·dsimp only;exact Nat.le_of_lt_succ a3
 ·dsimp only;rw[List.length_drop];omega
theorem strip_bad {f:FrameM} (h:(stripT f).2.2.2≠0):(stripT f).1=noF∧(stripT f).2.1=0:=by
 unfold stripT at h ⊢
 split
 ·exact⟨E,E⟩
 rw[if_neg (by assumption)]at h
 split
 ·exact⟨E,E⟩
 rw[if_neg (by assumption)]at h
 split
 ·exact⟨E,E⟩
 rw[if_neg (by assumption)]at h
 exact absurd E h
theorem Aiq (n:Net) (hn:n.Fin) (port:Int) (b:List UInt8) (hb:b.length<100000) :
  Sy.Spec Tryz.prog 172 [Aj n,Aa port,.sl 1 Af b] [] (.tup [Aa (enterT n port b).1,Bh (enterT n port b).2.1,Aa (enterT n port b).2.2]) []:=cT F172 Tryz.ntmps172 fun F hF=>by
 have hres:=enterT.eq_1 n port b
 generalize enterT n port b=res at *
 have hr:=Br n hn
 conv=>whnf
 by_cases hneg:port<0
 ·rw[if_pos (.inl (by rw[Ak,decide_eq_false qn];rfl))]at hres
  subst hres
  (refine⟨fun _=>?_,fun h=>False.elim (by simp at h;omega)⟩;refine rg ?_;(conv=>whnf);refine aT ?_;refine rg ?_;(conv=>whnf);refine aT ?_;refine rg ?_;conv=>whnf)
  refine Ar 7 zF E (.cons (.refl _) (.cons (.refl _) (.cons (.refl _) (.cons .nil .nil)))) ?_
  exact dN
 refine⟨fun h=>absurd (of_decide_eq_true h) hneg,fun _=>?_⟩
 refine A0 3 8 (Aj n) E E E ?_
 by_cases hge:(n.ports.length:Int)≤port
 ·rw[if_pos (.inl (by rw[Ak,decide_eq_false (by omega:¬ port<_),Bool.and_false]))]at hres
  subst hres
  refine oO ?_
  (refine⟨fun _=>?_,fun h=>False.elim (by simp at h;omega)⟩;refine rg ?_;(conv=>whnf);refine aT ?_;refine rg ?_;conv=>whnf)
  refine Ar 7 zF E (.cons (.refl _) (.cons (.refl _) (.cons (.refl _) (.cons .nil .nil)))) ?_
  exact dN
 have hpl:Ak port n.ports.length=true:=by rw[Ak,decide_eq_true qn,decide_eq_true qn];rfl
 refine oO ?_
 (refine⟨fun h=>False.elim (by simp at h;omega),fun _=>?_⟩;refine rg ?_;conv=>whnf)
 refine c0 hr F23 ?_
 cases hbn:Ac n
 ·rw[if_pos (.inr hbn)]at hres
  subst hres
  refine oT ?_
  refine Ar 7 zF E (.cons (.refl _) (.cons (.refl _) (.cons (.refl _) (.cons .nil .nil)))) ?_
  exact dN
 rw[if_neg (by simp[hbn,hpl])]at hres
 have hp0:0≤port:=by omega
 have hk:port.toNat<n.ports.length:=by omega
 have e1:nth n.ports port=n.ports[port.toNat]:=Ag hk
 have hsh:=hn.tagged _ (List.getElem_mem hk)
 obtain ⟨p,hp⟩:∃ p,n.ports[port.toNat]'hk=p:=⟨_,rfl⟩
 rw[hp]at e1 hsh
 have qt:=Ov b hb
 have hto:=@Z0 b
 have htb:=@Anr b
 generalize takeF b=tf at *
 obtain ⟨f,e⟩:=tf
 dsimp only at hres qt hto htb
 have qi:=Sw f
 refine oF ?_
 refine c0 qt F121 ?_
 refine oO ?_
 refine c0 qi F182 ?_
 by_cases he:e=0
 rotate_left
 ·rw[if_pos he]at hres
  subst hres
  obtain rfl:=htb he
  refine oO ?_
  (refine⟨fun h=>False.elim (by simp at h;omega),fun _=>?_⟩;refine rg ?_;(conv=>whnf);refine aF ?_;refine rg ?_;conv=>whnf)
  (refine⟨fun h=>False.elim (by simp at h;omega),fun _=>?_⟩;refine rg ?_;(conv=>whnf);refine aF ?_;refine rg ?_;conv=>whnf)
  refine⟨E,hp0,hk,?_⟩
  rw[hp]
  conv=>whnf
  refine c0 (Ow p false 0 hsh) F227 ?_
  refine oO ?_
  (refine⟨fun h=>False.elim (by simp at h;omega),fun _=>?_⟩;refine rg ?_;(conv=>whnf);refine aF ?_;refine rg ?_;(conv=>whnf);refine⟨fun _=>?_,fun h=>False.elim (by simp at h;omega)⟩;refine rg ?_;conv=>whnf)
  refine Ar 7 zF E (.cons (.refl _) (.cons (.refl _) (.cons (.refl _) (.cons .nil .nil)))) ?_
  exact dN
 subst he
 rw[if_neg qy]at hres
 have hfo:=hto rfl
 by_cases ht:f.typ=33024
 ·rw[if_pos ht]at hres
  rw[decide_eq_true ht]
  have qs:=Ans f (by have:=hfo.body;omega)
  have hso:=@Aqr f hfo
  have hsb:=@strip_bad f
  generalize stripT f=st at *
  obtain ⟨g,vid,prio,e2⟩:=st
  dsimp only at hres qs hso hsb
  (refine oT ?_;refine bT ?_)
  refine c0 qs F225 ?_
  by_cases he2:e2=0
  rotate_left
  ·rw[if_pos he2]at hres
   subst hres
   obtain ⟨rfl,rfl⟩:=hsb he2
   refine oO ?_
   (refine⟨fun h=>False.elim (by simp at h;omega),fun _=>?_⟩;refine rg ?_;(conv=>whnf);refine aF ?_;refine rg ?_;conv=>whnf)
   refine⟨E,hp0,hk,?_⟩
   rw[hp]
   conv=>whnf
   refine c0 (Ow p true 0 hsh) F227 ?_
   refine oO ?_
   (refine⟨fun h=>False.elim (by simp at h;omega),fun _=>?_⟩;refine rg ?_;(conv=>whnf);refine aF ?_;refine rg ?_;(conv=>whnf);refine⟨fun _=>?_,fun h=>False.elim (by simp at h;omega)⟩;refine rg ?_;conv=>whnf)
   refine Ar 7 zF E (.cons (.refl _) (.cons (.refl _) (.cons (.refl _) (.cons .nil .nil)))) ?_
   exact dN
  subst he2
  rw[if_neg qy]at hres
  have hgo:=hso rfl
  have hgs:=hgo.src
  have qg:=Mo g.src qn
  rw[Jk,e1]at hres
  have qv:=Ow p true vid hsh
  have qd:=Kj n hn p.dev (vlanT p true vid).1
  refine oT ?_
  refine c0 qg F226 ?_
  cases hgb:Ea g.src
  rotate_left
  ·rw[if_pos hgb]at hres
   subst hres
   refine oT ?_
   refine⟨E,hp0,hk,?_⟩
   rw[hp]
   conv=>whnf
   refine c0 qv F227 ?_
   (refine oF ?_;refine bF ?_;refine bT ?_)
   (skip)
   refine Ar 7 zF E (.cons (.refl _) (.cons (.refl _) (.cons (.refl _) (.cons .nil .nil)))) ?_
   exact dN
  rw[if_neg (by simp[hgb])]at hres
  refine oF ?_
  refine⟨E,hp0,hk,?_⟩
  rw[hp]
  conv=>whnf
  refine c0 qv F227 ?_
  generalize vlanT p true vid=vl at *
  obtain ⟨vl,vok⟩:=vl
  dsimp only at hres qd ⊢
  cases vok
  ·rw[if_pos rfl]at hres
   subst hres
   (refine oT ?_;refine bT ?_;refine bT ?_)
   refine Ar 7 zF E (.cons (.refl _) (.cons (.refl _) (.cons (.refl _) (.cons .nil .nil)))) ?_
   exact dN
  rw[if_neg qz]at hres
  subst hres
  (refine oT ?_;refine bF ?_;refine bF ?_)
  refine cD qd F89 ?_
  refine oD ?_
  refine kW ?_
  exact dN
 ·rw[if_neg ht]at hres
  rw[decide_eq_false ht]
  have hgo:=hfo
  have hgs:=hgo.src
  have qg:=Mo f.src qn
  rw[Jk,e1]at hres
  have qv:=Ow p false 0 hsh
  have qd:=Kj n hn p.dev (vlanT p false 0).1
  (refine oT ?_;refine bF ?_;refine bT ?_)
  refine c0 qg F226 ?_
  cases hgb:Ea f.src
  rotate_left
  ·rw[if_pos hgb]at hres
   subst hres
   refine oT ?_
   refine⟨E,hp0,hk,?_⟩
   rw[hp]
   conv=>whnf
   refine c0 qv F227 ?_
   (refine oF ?_;refine bF ?_;refine bT ?_)
   (skip)
   refine Ar 7 zF E (.cons (.refl _) (.cons (.refl _) (.cons (.refl _) (.cons .nil .nil)))) ?_
   exact dN
  rw[if_neg (by simp[hgb])]at hres
  refine oF ?_
  refine⟨E,hp0,hk,?_⟩
  rw[hp]
  conv=>whnf
  refine c0 qv F227 ?_
  generalize vlanT p false 0=vl at *
  obtain ⟨vl,vok⟩:=vl
  dsimp only at hres qd ⊢
  cases vok
  ·rw[if_pos rfl]at hres
   subst hres
   (refine oT ?_;refine bT ?_;refine bT ?_)
   refine Ar 7 zF E (.cons (.refl _) (.cons (.refl _) (.cons (.refl _) (.cons .nil .nil)))) ?_
   exact dN
  rw[if_neg qz]at hres
  subst hres
  (refine oT ?_;refine bF ?_;refine bF ?_)
  refine cD qd F89 ?_
  refine oD ?_
  refine kW ?_
  exact dN
theorem Bs {i:Int} {n:Nat} (h:Ak i n=true):0≤i∧i<n:=by simpa [Ak] using h
theorem Aha (n:Net) (hn:n.Fin) (port:Int) (b:List UInt8) (hb:b.length<100000) :
  Sy.Spec Tryz.prog 126 [Aj n,Aa port,.sl 1 Af b] [] (.tup [Aa (enterT n port b).1,Bh (enterT n port b).2.1,Aa (enterT n port b).2.2]) []:=cT F126 Tryz.ntmps126 fun F hF=>by
 have hres:=enterT.eq_1 n port b
 generalize enterT n port b=res at *
 have hr:=Dy n hn
 have hpS:=A1 port n.ports.length
 conv=>whnf
 refine c0 hr F10 ?_
 cases hbn:Ac n
 ·rw[if_pos (.inr hbn)]at hres
  subst hres
  (refine oT ?_;refine bT ?_)
  refine Ar 7 zF E (.cons (.refl _) (.cons (.refl _) (.cons (.refl _) (.cons .nil .nil)))) ?_
  exact dN
 refine A0 3 8 (Aj n) E E E ?_
 refine oF ?_
 refine c0 hpS F46 ?_
 cases hpl:Ak port n.ports.length
 ·rw[if_pos (.inl hpl)]at hres
  subst hres
  refine oT ?_
  refine Ar 7 zF E (.cons (.refl _) (.cons (.refl _) (.cons (.refl _) (.cons .nil .nil)))) ?_
  exact dN
 rw[if_neg (by simp[hbn,hpl])]at hres
 have hpi:=Bs hpl
 have hp0:0≤port:=hpi.1
 have hk:port.toNat<n.ports.length:=by omega
 have e1:nth n.ports port=n.ports[port.toNat]:=Ag hk
 have hsh:=hn.tagged _ (List.getElem_mem hk)
 obtain ⟨p,hp⟩:∃ p,n.ports[port.toNat]'hk=p:=⟨_,rfl⟩
 rw[hp]at e1 hsh
 have qt:=Oi b hb
 have hto:=@Z0 b
 generalize takeF b=tf at *
 obtain ⟨f,e⟩:=tf
 dsimp only at hres qt hto
 refine oF ?_
 refine c0 qt F124 ?_
 refine oO ?_
 by_cases he:e=0
 rotate_left
 ·rw[if_pos he]at hres
  subst hres
  (refine⟨fun _=>?_,fun h=>False.elim (by simp at h;omega)⟩;refine rg ?_;conv=>whnf)
  refine Ar 7 zF E (.cons (.refl _) (.cons (.refl _) (.cons (.refl _) (.cons .nil .nil)))) ?_
  exact dN
 subst he
 rw[if_neg qy]at hres
 have hfo:=hto rfl
 (refine⟨fun h=>False.elim (absurd h qy),fun _=>?_⟩;refine rg ?_;conv=>whnf)
 by_cases ht:f.typ=33024
 ·rw[if_pos ht]at hres
  have qs:=Ahf f (by have:=hfo.body;omega)
  have hso:=@Aqr f hfo
  generalize stripT f=st at *
  obtain ⟨g,vid,prio,e2⟩:=st
  dsimp only at hres qs hso
  rw[show ((f.typ:Int) == 33024)=true by rw[ht];rfl]
  refine⟨fun _=>?_,fun h=>absurd h qy⟩
  refine oO ?_
  refine c0 qs F185 ?_
  refine oO ?_
  by_cases he2:e2=0
  rotate_left
  ·rw[if_pos he2]at hres
   subst hres
   (refine⟨fun _=>?_,fun h=>False.elim (by simp at h;omega)⟩;refine rg ?_;conv=>whnf)
   refine Ar 7 zF E (.cons (.refl _) (.cons (.refl _) (.cons (.refl _) (.cons .nil .nil)))) ?_
   exact dN
  subst he2
  rw[if_neg qy]at hres
  have hgo:=hso rfl
  (refine⟨fun h=>False.elim (absurd h qy),fun _=>?_⟩;refine rg ?_;conv=>whnf)
  have hgs:=hgo.src
  have qg:=Js g.src qn
  rw[Jk,e1]at hres
  have qv:=Aal p true vid hsh
  have qd:=Is n p.dev (vlanT p true vid).1 hn.domains
  have hdt:∀ x,B6 n p.dev x=Ox n p.dev x:=fun x=>by rw[B6,if_pos hbn]
  refine c0 qg F186 ?_
  cases hgb:Ea g.src
  rotate_left
  ·rw[if_pos hgb]at hres
   subst hres
   refine oT ?_
   refine Ar 7 zF E (.cons (.refl _) (.cons (.refl _) (.cons (.refl _) (.cons .nil .nil)))) ?_
   exact dN
  rw[if_neg (by simp[hgb])]at hres
  refine oF ?_
  refine⟨E,hp0,hk,?_⟩
  rw[hp]
  conv=>whnf
  refine c0 qv F187 ?_
  generalize vlanT p true vid=vl at *
  obtain ⟨vl,vok⟩:=vl
  dsimp only at hres qd ⊢
  cases vok
  ·rw[if_pos rfl]at hres
   subst hres
   refine oT ?_
   refine Ar 7 zF E (.cons (.refl _) (.cons (.refl _) (.cons (.refl _) (.cons .nil .nil)))) ?_
   exact dN
  rw[if_neg qz,hdt]at hres
  subst hres
  refine oF ?_
  refine⟨E,hp0,hk,?_⟩
  rw[hp]
  conv=>whnf
  refine cD qd F35 ?_
  refine oD ?_
  refine kW ?_
  exact dN
 ·rw[if_neg ht]at hres
  have hgo:=hfo
  rw[show ((f.typ:Int) == 33024)=false by simp;omega]
  refine⟨fun h=>absurd h qy,fun _=>?_⟩
  refine oO ?_
  have hgs:=hgo.src
  have qg:=Js f.src qn
  rw[Jk,e1]at hres
  have qv:=Aal p false 0 hsh
  have qd:=Is n p.dev (vlanT p false 0).1 hn.domains
  have hdt:∀ x,B6 n p.dev x=Ox n p.dev x:=fun x=>by rw[B6,if_pos hbn]
  refine c0 qg F186 ?_
  cases hgb:Ea f.src
  rotate_left
  ·rw[if_pos hgb]at hres
   subst hres
   refine oT ?_
   refine Ar 7 zF E (.cons (.refl _) (.cons (.refl _) (.cons (.refl _) (.cons .nil .nil)))) ?_
   exact dN
  rw[if_neg (by simp[hgb])]at hres
  refine oF ?_
  refine⟨E,hp0,hk,?_⟩
  rw[hp]
  conv=>whnf
  refine c0 qv F187 ?_
  generalize vlanT p false 0=vl at *
  obtain ⟨vl,vok⟩:=vl
  dsimp only at hres qd ⊢
  cases vok
  ·rw[if_pos rfl]at hres
   subst hres
   refine oT ?_
   refine Ar 7 zF E (.cons (.refl _) (.cons (.refl _) (.cons (.refl _) (.cons .nil .nil)))) ?_
   exact dN
  rw[if_neg qz,hdt]at hres
  subst hres
  refine oF ?_
  refine⟨E,hp0,hk,?_⟩
  rw[hp]
  conv=>whnf
  refine cD qd F35 ?_
  refine oD ?_
  refine kW ?_
  exact dN
theorem Lr (i:Int) (n:Nat):Sy.Spec Tryz.prog 300 [Aa i,Aa n] [] (Ab (Ak i n)) []:=cT F300 Tryz.ntmps300 fun F hF=>by
 conv=>whnf
 (repeat' (first | (refine⟨fun h=>?_,fun h=>?_⟩<;>(repeat (first | simp only[decide_eq_true_eq]at h | simp only[decide_eq_false_iff_not]at h))<;>((refine oO ?_))) | (refine Ao rfl (.cons .tmp .nil) ?_ rfl)))
 all_goals (refine congrArg Ab ?_)
 all_goals grind [Ak]
theorem Ala (n:Net) (f:FrameM) (h:FrameOK f) (v:Int):Sy.Spec Tryz.prog 302 [Aj n,Bh f,Aa v] [] (.tup [.sl 1 Af (Qb f),Aa 0]) []:=cT F302 Tryz.ntmps302 fun F hF=>by
 conv=>whnf
 refine Ae (Ah [(0,55)] E F45 (Kq f h) E Y E ⟨.inr E,Y⟩) E E ?_
 refine Ap 55 E ?_
 refine oO ?_
 exact dN
theorem Ajm {f:FrameM} (hf:FrameOK f) (v:Nat) (_hv:v≤4094) (h:(tagT f v).2=0):FrameOK (tagT f v).1:=by
 unfold tagT at h ⊢
 split
 ·rw[if_pos (by assumption)]at h;cases h
 rw[if_neg (by assumption)]at h
 split
 ·rw[if_pos (by assumption)]at h;cases h
 refine⟨hf.dst,hf.src,?_,?_⟩
 ·show (33024:Nat)≤65535;decide
 ·dsimp only;simp;omega
theorem Afb (n:Net) (f:FrameM) (h:FrameOK f) (v:Nat) (hv:v≤4094) :
  Sy.Spec Tryz.prog 301 [Aj n,Bh f,Aa v] [] (.tup [.sl 1 Af (if (tagT f v).2≠0 then [] else Qb (tagT f v).1),Aa (if (tagT f v).2≠0 then (tagT f v).2 else 0)]) []:=by
 have q:=Agk f v h hv
 have ho:=Ajm h v hv
 generalize tagT f v=t at *
 obtain ⟨g,e⟩:=t
 dsimp only at q ho ⊢
 refine Mz Γ hm 100 F301 Tryz.ntmps301 E fun F hF=>by
  conv=>whnf
  refine c0 q F122 ?_
  refine oO ?_
  by_cases he:e=0
  ·subst he
   (refine⟨fun h=>False.elim (absurd h qy),fun _=>?_⟩;refine rg ?_;conv=>whnf)
   refine A0 8 4 (Bh g) E E E ?_
   refine oO ?_
   refine Ae (Ah [(0,55)] E F45 (Kq g (ho E)) E Y E ⟨.inr E,Y⟩) E E ?_
   refine Ap 55 E ?_
   refine oO ?_
   exact dN
  ·rw[if_pos he,if_pos he]
   (refine⟨fun _=>?_,fun h=>False.elim (by simp at h;omega)⟩;refine rg ?_;conv=>whnf)
   refine Ai 6 1 Af E ?_
   exact dN
theorem Lf {n:Net} (h:Ac n=true) {i:Nat} (hi:i<n.domains.length):1≤n.domains[i].vlan∧n.domains[i].vlan≤4094:=by
 simp only[Ac,Bool.and_eq_true]at h
 have hb:Dc (I4 n) n.domains=true:=h.1.1.1.1.1.1.1.2
 have:=allB_iff.1 hb i hi
 simp only[I4,Bool.and_eq_true,decide_eq_true_eq]at this
 omega
theorem Ar3 (n:Net) (hn:n.Fin) (port dom:Int) (f:FrameM) (h:FrameOK f) :
  Sy.Spec Tryz.prog 236 [Aj n,Aa port,Aa dom,Bh f] [] (.tup [.sl 1 Af (leaveT n port dom f).1,Aa (leaveT n port dom f).2]) []:=cT F236 Tryz.ntmps236 fun F hF=>by
 have hres:=leaveT.eq_1 n port dom f
 generalize leaveT n port dom f=res at *
 have hr:=Br n hn
 have hpS:=Lr port n.ports.length
 have hdS:=Lr dom n.domains.length
 conv=>whnf
 refine c0 hpS F300 ?_
 cases hpl:Ak port n.ports.length
 ·rw[if_pos (.inl hpl)]at hres
  subst hres
  (refine oT ?_;refine bT ?_;refine bT ?_)
  refine Ai 8 1 Af E ?_
  exact dN
 refine oF ?_
 refine c0 hdS F300 ?_
 cases hdl:Ak dom n.domains.length
 ·rw[if_pos (.inr (.inl hdl))]at hres
  subst hres
  (refine oT ?_;refine bT ?_)
  refine Ai 8 1 Af E ?_
  exact dN
 refine oF ?_
 refine c0 hr F23 ?_
 cases hbn:Ac n
 ·rw[if_pos (.inr (.inr hbn))]at hres
  subst hres
  refine oT ?_
  refine Ai 8 1 Af E ?_
  exact dN
 rw[if_neg (by simp[hbn,hpl,hdl])]at hres
 have hpi:=Bs hpl
 have hdi:=Bs hdl
 have hp0:0≤port:=hpi.1
 have hd0:0≤dom:=hdi.1
 have hk:port.toNat<n.ports.length:=by omega
 have hkd:dom.toNat<n.domains.length:=by omega
 have e1:nth n.ports port=n.ports[port.toNat]:=Ag hk
 have e2:nth n.domains dom=n.domains[dom.toNat]:=Ag hkd
 have hsh:=hn.tagged _ (List.getElem_mem hk)
 have hv:=Lf hbn hkd
 obtain ⟨p,hp⟩:∃ p,n.ports[port.toNat]'hk=p:=⟨_,rfl⟩
 obtain ⟨d,hd⟩:∃ d,n.domains[dom.toNat]'hkd=d:=⟨_,rfl⟩
 rw[hp]at e1 hsh
 rw[hd]at e2 hv
 rw[e1,e2]at hres
 have qm:=Zk p d.vlan hsh
 refine oF ?_
 refine⟨E,hp0,hk,E,hd0,hkd,?_⟩
 rw[hp,hd]
 conv=>whnf
 refine kW ?_
 refine⟨fun h1=>?_,fun h1=>?_⟩
 ·rw[if_pos (.inl (by simpa using h1))]at hres
  subst hres
  refine oT ?_
  refine Ai 8 1 Af E ?_
  exact dN
 refine A0 10 7 (A7 p) E E E ?_
 refine oO ?_
 refine c0 qm F93 ?_
 cases hm1:Da p d.vlan
 ·rw[if_pos (.inr hm1)]at hres
  subst hres
  refine oT ?_
  refine Ai 8 1 Af E ?_
  exact dN
 rw[if_neg (by simp at h1;simp[hm1,h1])]at hres
 have qt:=Sw f
 by_cases ht:f.typ=33024
 ·rw[if_pos ht]at hres
  subst hres
  rw[decide_eq_true ht]at qt
  refine oF ?_
  refine c0 qt F182 ?_
  refine oT ?_
  refine Ai 8 1 Af E ?_
  exact dN
 rw[if_neg ht]at hres
 rw[decide_eq_false ht]at qt
 refine oF ?_
 refine c0 qt F182 ?_
 refine oF ?_
 refine⟨fun h2=>?_,fun h2=>?_⟩
 ·rw[if_pos (by simpa using h2)]at hres
  subst hres
  refine oO ?_
  refine Ex ⟨⟨_,_,F302⟩,Ala n f h d.vlan⟩ E E E E E E ?_
  refine oO ?_
  exact dN
 rw[if_neg (by simpa using h2)]at hres
 refine oO ?_
 have hv0:(d.vlan.toNat:Int)=d.vlan:=by omega
 have qg:=Afb n f h d.vlan.toNat qn
 rw[hv0]at qg
 refine Ex ⟨⟨_,_,F301⟩,qg⟩ E E E E E E ?_
 refine oO ?_
 by_cases he:(tagT f d.vlan).2=0
 ·rw[if_neg (by simpa using he)]at hres
  subst hres
  rw[if_neg (by simpa using he),if_neg (by simpa using he)]
  exact dN
 ·rw[if_pos he]at hres
  subst hres
  rw[if_pos he,if_pos he]
  exact dN
theorem inB_mem {l:List Int} {x:Int}:inB l x=true↔x∈l:=by
 simp[inB]
theorem Ak3 {n:Net} {dom port:Int} (hk:Ak port n.ports.length=true):inB (Az n dom) port=((nth n.ports port).dev == (nth n.domains dom).dev && Da (nth n.ports port) (nth n.domains dom).vlan):=by
 have hp:=Bs hk
 rw[Bool.eq_iff_iff,inB_mem,Az,filtI_mem,Jw]
 rw[show ((port.toNat:Nat):Int)=port by omega]
 exact⟨fun h=>h.2.2,fun h=>⟨hp.1,hp.2,h⟩⟩
theorem dm_iff {a b:Int} {c:Bool}:(a == b && c)=false↔(a≠b∨c=false):=by
 cases c<;>simp
theorem Aak (n:Net) (hn:n.Fin) (port dom:Int) (f:FrameM) (h:FrameOK f) :
  Sy.Spec Tryz.prog 257 [Aj n,Aa port,Aa dom,Bh f] [] (.tup [.sl 1 Af (leaveT n port dom f).1,Aa (leaveT n port dom f).2]) []:=cT F257 Tryz.ntmps257 fun F hF=>by
 have hres:=leaveT.eq_1 n port dom f
 generalize leaveT n port dom f=res at *
 have hr:=Dy n hn
 have hpS:=A1 port n.ports.length
 have hdS:=A1 dom n.domains.length
 conv=>whnf
 refine c0 hr F10 ?_
 cases hbn:Ac n
 ·rw[if_pos (.inr (.inr hbn))]at hres
  subst hres
  (refine oT ?_;refine bT ?_;refine bT ?_)
  refine Ai 8 1 Af E ?_
  exact dN
 refine oF ?_
 refine c0 hpS F46 ?_
 cases hpl:Ak port n.ports.length
 ·rw[if_pos (.inl hpl)]at hres
  subst hres
  (refine oT ?_;refine bT ?_)
  refine Ai 8 1 Af E ?_
  exact dN
 refine oF ?_
 refine c0 hdS F46 ?_
 cases hdl:Ak dom n.domains.length
 ·rw[if_pos (.inr (.inl hdl))]at hres
  subst hres
  refine oT ?_
  refine Ai 8 1 Af E ?_
  exact dN
 rw[if_neg (by simp[hbn,hpl,hdl])]at hres
 have hin:=Ak3 (dom:=dom) hpl
 have hpi:=Bs hpl
 have hdi:=Bs hdl
 have hp0:0≤port:=hpi.1
 have hd0:0≤dom:=hdi.1
 have hk:port.toNat<n.ports.length:=by omega
 have hkd:dom.toNat<n.domains.length:=by omega
 have e1:nth n.ports port=n.ports[port.toNat]:=Ag hk
 have e2:nth n.domains dom=n.domains[dom.toNat]:=Ag hkd
 have hv:=Lf hbn hkd
 have qm:=E5 n hn hbn dom
 have qi:=Dn (A4 n dom) port (Co n hn dom)
 have hmt:A4 n dom=Az n dom:=by rw[A4,if_pos ⟨⟨hdi.1,hdi.2⟩,hbn⟩]
 rw[hmt]at qm qi
 obtain ⟨p,hp⟩:∃ p,n.ports[port.toNat]'hk=p:=⟨_,rfl⟩
 obtain ⟨d,hd⟩:∃ d,n.domains[dom.toNat]'hkd=d:=⟨_,rfl⟩
 rw[hp]at e1
 rw[hd]at e2 hv
 rw[e1,e2]at hres hin
 generalize Az n dom=ml at *
 refine oF ?_
 refine c0 qm F37 ?_
 refine oO ?_
 refine c0 qi F36 ?_
 cases hi:inB ml port
 ·rw[hi]at hin
  rw[if_pos (dm_iff.1 hin.symm)]at hres
  subst hres
  refine oT ?_
  refine Ai 8 1 Af E ?_
  exact dN
 rw[hi]at hin
 rw[if_neg (fun h=>by rw[dm_iff.2 h]at hin;cases hin)]at hres
 refine oF ?_
 refine⟨fun h1=>?_,fun h1=>?_⟩
 ·rw[if_pos (by simp at h1;omega)]at hres
  subst hres
  refine oO ?_
  refine Ai 8 1 Af E ?_
  exact dN
 rw[if_neg (by simp at h1;omega)]at hres
 refine oO ?_
 refine⟨E,hd0,hkd,?_⟩
 rw[hd]
 conv=>whnf
 refine⟨E,hp0,hk,?_⟩
 rw[hp]
 conv=>whnf
 refine⟨fun h2=>?_,fun h2=>?_⟩
 ·rw[if_pos (by simp at h2;omega)]at hres
  subst hres
  refine oO ?_
  refine Ae (Ah [(0,55)] E F49 (Kp f h) E Y E ⟨.inr E,Y⟩) E E ?_
  refine Ap 55 E ?_
  refine oO ?_
  exact dN
 rw[if_neg (by simp at h2;omega)]at hres
 have hv0:(d.vlan.toNat:Int)=d.vlan:=by omega
 have qg:=Aao f d.vlan.toNat h qn
 have ho:=Ajm h d.vlan.toNat qn
 rw[hv0]at qg ho
 generalize tagT f d.vlan=t at *
 obtain ⟨g,e⟩:=t
 dsimp only at qg ho hres
 refine oO ?_
 refine c0 qg F125 ?_
 refine oO ?_
 by_cases he:e=0
 ·subst he
  rw[if_neg qy]at hres
  subst hres
  (refine⟨fun h=>False.elim (absurd h qy),fun _=>?_⟩;refine rg ?_;conv=>whnf)
  refine A0 11 4 (Bh g) E E E ?_
  refine oO ?_
  refine Ae (Ah [(0,55)] E F49 (Kp g (ho E)) E Y E ⟨.inr E,Y⟩) E E ?_
  refine Ap 55 E ?_
  refine oO ?_
  exact dN
 ·rw[if_pos he]at hres
  subst hres
  (refine⟨fun _=>?_,fun h=>False.elim (by simp at h;omega)⟩;refine rg ?_;conv=>whnf)
  refine Ai 8 1 Af E ?_
  exact dN
theorem Ak8 (n:Net) (hn:n.Fin) (port:Int) (b:List UInt8) (hb:b.length<100000) :
  Sy.Spec Tryz.prog 241 [Aj n,Aa port,.sl 1 Af b] [] (.tup [Aa (linkT n port b).1,Aa (linkT n port b).2.1,Bh (linkT n port b).2.2.1,Aa (linkT n port b).2.2.2]) []:=cT F241 Tryz.ntmps241 fun F hF=>by
 have hres:=linkT.eq_1 n port b
 generalize linkT n port b=res at *
 have qo:=V0 n hn port
 have qe:=Aiq n hn (Cv n port) b hb
 generalize Cv n port=o at *
 conv=>whnf
 refine c0 qo F268 ?_
 refine oO ?_
 refine⟨fun h1=>?_,fun h1=>?_⟩
 ·rw[if_pos (by simpa using h1)]at hres
  subst hres
  refine oO ?_
  refine Ar 8 zF E (.cons (.refl _) (.cons (.refl _) (.cons (.refl _) (.cons .nil .nil)))) ?_
  exact dN
 rw[if_neg (by simpa using h1)]at hres
 refine oO ?_
 refine c0 qe F172 ?_
 generalize enterT n o b=en at *
 obtain ⟨x1,g,x2⟩:=en
 subst hres
 refine oO ?_
 refine kW ?_
 exact dN
theorem Akb (n:Net) (hn:n.Fin) (port:Int) (b:List UInt8) (hb:b.length<100000) :
  Sy.Spec Tryz.prog 260 [Aj n,Aa port,.sl 1 Af b] [] (.tup [Aa (linkT n port b).1,Aa (linkT n port b).2.1,Bh (linkT n port b).2.2.1,Aa (linkT n port b).2.2.2]) []:=cT F260 Tryz.ntmps260 fun F hF=>by
 have hres:=linkT.eq_1 n port b
 generalize linkT n port b=res at *
 have hr:=Dy n hn
 conv=>whnf
 refine c0 hr F10 ?_
 cases hbn:Ac n
 ·have ho:Cv n port=-1:=by
   rw[Cv,if_neg (by simp[hbn])]
  rw[if_pos (by rw[ho];decide)]at hres
  subst hres
  (refine oT ?_;refine bT ?_)
  refine Ar 8 zF E (.cons (.refl _) (.cons (.refl _) (.cons (.refl _) (.cons .nil .nil)))) ?_
  exact dN
 have qo:=Ac9 n hn hbn port
 have qe:=Aha n hn (Cv n port) b hb
 generalize Cv n port=o at *
 refine oF ?_
 refine c0 qo F211 ?_
 refine oO ?_
 refine⟨fun h1=>?_,fun h1=>?_⟩
 ·rw[if_pos (by simpa using h1)]at hres
  subst hres
  refine oO ?_
  refine Ar 8 zF E (.cons (.refl _) (.cons (.refl _) (.cons (.refl _) (.cons .nil .nil)))) ?_
  exact dN
 rw[if_neg (by simpa using h1)]at hres
 refine oO ?_
 refine c0 qo F211 ?_
 refine oO ?_
 refine c0 qe F126 ?_
 generalize enterT n o b=en at *
 obtain ⟨x1,g,x2⟩:=en
 subst hres
 refine oO ?_
 refine kW ?_
 exact dN
end Go.Sy.YteinjapglfkamaaGreat
namespace Go.Sy.YteinjapglfkamaaGreat
open Go.Proofs
theorem Jm (l:List Nat):(B8 l).length=2 * l.length:=by
 induction l with
 | nil=>rfl
 | cons a l ih=>simp only[B8,List.flatMap_cons,List.length_append,List.length_cons,List.length_nil]at ih ⊢;omega
theorem Jp (l:List Nat) (n:Nat):B8 (l++[n])=B8 l++[UInt8.ofNat (n / 256),UInt8.ofNat n]:=by simp[B8]
theorem Ht (b:List UInt8) (k m:Nat):numAt b k m<256 ^ m:=by
 have h:=Kc _ ((b.drop k).take m) rfl
 have h2:((b.drop k).take m).length≤m:=by rw[List.length_take];omega
 exact Nat.lt_of_lt_of_le h (Nat.pow_le_pow_right qy h2)
theorem K7 {b:List UInt8} {k:Nat} (h:k+2≤b.length):numAt b k 2=(b[k]'qn).toNat * 256+(b[k+1]'qn).toNat:=by
 rw[numAt,Qi h,Zx]
theorem Sm {b:List UInt8} {k:Nat} (h:k<b.length):bAt b k=b[k]:=Abq h
theorem Aqo {b:List UInt8} {k:Nat} (h:k+3≤b.length):(b.drop k).take 3=[b[k]'qn,b[k+1]'qn,b[k+2]'qn]:=by
 rw[List.drop_eq_getElem_cons qn,List.drop_eq_getElem_cons (i:=k+1) qn,List.drop_eq_getElem_cons (i:=k+2) qn]
 rfl
theorem Z1 {b:List UInt8} {k:Nat} (h:k+4≤b.length):(b.drop k).take 4=[b[k]'qn,b[k+1]'qn,b[k+2]'qn,b[k+3]'qn]:=by
 rw[List.drop_eq_getElem_cons qn,List.drop_eq_getElem_cons (i:=k+1) qn,List.drop_eq_getElem_cons (i:=k+2) qn,List.drop_eq_getElem_cons (i:=k+3) qn]
 rfl
theorem Ak0 {b:List UInt8} {k:Nat} (h:k+3≤b.length):numAt b k 3=((b[k]'qn).toNat * 256+(b[k+1]'qn).toNat) * 256+(b[k+2]'qn).toNat:=by
 rw[numAt,Aqo h]
 simp[Hi]
theorem numAt4 {b:List UInt8} {k:Nat} (h:k+4≤b.length):numAt b k 4=numAt b k 2 * 65536+numAt b (k+2) 2:=by
 have e:b[k+2+1]'qn=b[k+3]'qn:=rfl
 rw[numAt,Z1 h,K7 qn,K7 qn,e]
 simp[Hi]
 omega
theorem E6 (f:FrameM):(Qb f).length=14+f.body.length:=by
 simp[Qb,frame,A3]
 omega
theorem L7 (p:PacketM) (s:Nat):(Hk p s).length=20:=by rw[Hk,Jm];rfl
theorem Q2 (p:PacketM):(V3 p).length=20+p.body.length:=by rw[V3,List.length_append,L7]
theorem Agi (s d:Nat) (b:List UInt8):(Agj s d b).length=8+b.length:=by rw[Agj,List.length_append,Jm];rfl
theorem En (v:Nat):(I0 v).length=8:=rfl
theorem Dp:FrameOK noF:=⟨by decide,by decide,by decide,by decide⟩
theorem Abk (ip:Nat) (h:ip<4294967296):Ev ip<281474976710656:=by rw[Ev,Int.toNat_natCast];omega
theorem Acn (n:Net) (port dom:Int) (f:FrameM) (hf:FrameOK f):(leaveT n port dom f).1.length≤1518:=by
 have h4:=hf.body
 unfold leaveT
 split
 ·simp
 split
 ·simp
 split
 ·simp
 split
 ·rw[E6];omega
 split
 ·simp
 ·rw[E6]
  rename_i h
  have h2:(tagT f (nth n.domains dom).vlan).2=0:=Classical.byContradiction h
  unfold tagT at h2 ⊢
  split
  ·rw[if_pos (by assumption)]at h2;cases h2
  rw[if_neg (by assumption)]at h2
  split
  ·rw[if_pos (by assumption)]at h2;cases h2
  ·dsimp only
   simp
   omega
theorem Abe {b:List UInt8} (h:(ipTakeT b).2=0):PacketOK (ipTakeT b).1∧(ipTakeT b).1.body.length+20≤b.length:=by
 unfold ipTakeT at h ⊢
 split
 ·rw[if_pos (by assumption)]at h;cases h
 rw[if_neg (by assumption)]at h
 split
 ·rw[if_pos (by assumption)]at h;cases h
 rw[if_neg (by assumption)]at h
 split
 ·rw[if_pos (by assumption)]at h;cases h
 rw[if_neg (by assumption)]at h
 split
 ·rw[if_pos (by assumption)]at h;cases h
 rw[if_neg (by assumption)]at h
 split
 ·rw[if_pos (by assumption)]at h;cases h
 have l1:=(bAt b 1).toNat_lt
 have l8:=(bAt b 8).toNat_lt
 have l9:=(bAt b 9).toNat_lt
 have n4:=Ht b 4 2
 have n12:=Ht b 12 4
 have n16:=Ht b 16 4
 refine⟨⟨?_,?_,?_,?_,?_,?_⟩,?_⟩
 ·show (bAt b 1).toNat≤255;omega
 ·show numAt b 4 2≤65535;omega
 ·show (bAt b 8).toNat≤255;omega
 ·show (bAt b 9).toNat≤255;omega
 ·exact n12
 ·exact n16
 ·show ((b.take (numAt b 2 2)).drop 20).length+20≤b.length
  rw[List.length_drop,List.length_take]
  omega
theorem Ava {b:List UInt8} (h:(ipTakeT b).2≠0):(ipTakeT b).1=noP:=by
 unfold ipTakeT at h ⊢
 split
 ·rfl
 rw[if_neg (by assumption)]at h
 split
 ·rfl
 rw[if_neg (by assumption)]at h
 split
 ·rfl
 rw[if_neg (by assumption)]at h
 split
 ·rfl
 rw[if_neg (by assumption)]at h
 split
 ·rfl
 rw[if_neg (by assumption)]at h
 exact absurd E h
theorem Ak1:PacketOK noP:=⟨by decide,by decide,by decide,by decide,by decide,by decide⟩
theorem Uc:∀ (l:List Nat) (j:Nat),j≤l.length→(∀ n∈l,n<4294967296)→I6 (B8 l) j=((l.take j).map (· % 65536)).sum
 | l,0,_,_=>by simp[I6]
 | l,j+1,h,hl=>by
  have ih:=Uc l j qn hl
  have hj:j<l.length:=by omega
  have e1:(B8 l).getD (2 * j) 0=UInt8.ofNat (l[j] / 256)∧(B8 l).getD (2 * j+1) 0=UInt8.ofNat l[j]:=by
   clear ih hl
   induction l generalizing j with
   | nil=>simp at hj
   | cons a l ih2 =>
    cases j with
    | zero=>simp[B8]
    | succ j =>
     have:=ih2 j (by simpa using h) (by simpa using hj)
     rw[B8,List.flatMap_cons,show 2 * (j+1)+1=(2 * j+1)+1+1 by omega,show 2 * (j+1)=2 * j+1+1 by omega]
     simpa [B8] using this
  rw[I6,ih,e1.1,e1.2,List.take_succ_eq_append_getElem hj,List.map_append,List.sum_append]
  have hx:=hl l[j] (List.getElem_mem hj)
  generalize l[j]=x at *
  simp only[List.map_cons,List.map_nil,List.sum_cons,List.sum_nil,Lp]
  omega
def S8 (p:PacketM):List UInt8:=[69,UInt8.ofNat p.tos]++be 2 (20+p.body.length)++be 2 p.id++[0,0,UInt8.ofNat p.ttl,UInt8.ofNat p.proto]++(be 4 p.src++be 4 p.dst)
theorem Q1 (p:PacketM):(S8 p).length=18:=by simp[S8,A3]
theorem be2 (m:Nat):be 2 m=B8 [m]:=by simp[be,B8]
theorem be4 (m:Nat):be 4 m=B8 [m / 65536,m]:=by simp[be,B8,Nat.div_div_eq_div_mul]
theorem Acp {p:PacketM} (hp:PacketOK p):S8 p=B8 [17664+p.tos,20+p.body.length,p.id,0,p.ttl * 256+p.proto,p.src / 65536,p.src,p.dst / 65536,p.dst]:=by
 have h1:=hp.tos
 have h2:=hp.proto
 have h3:=hp.ttl
 have e1:(17664+p.tos) / 256=69:=by omega
 have e2:UInt8.ofNat (17664+p.tos)=UInt8.ofNat p.tos:=by apply UInt8.toNat_inj.1;simp
 have e3:(p.ttl * 256+p.proto) / 256=p.ttl:=by omega
 have e4:UInt8.ofNat (p.ttl * 256+p.proto)=UInt8.ofNat p.proto:=by apply UInt8.toNat_inj.1;simp
 rw[S8,be2,be2,be4,be4]
 simp only[B8,List.flatMap_cons,List.flatMap_nil,List.cons_append,List.nil_append,List.append_nil,e1,e2,e3,e4]
 rfl
theorem Ago {p:PacketM} (hp:PacketOK p) (hb:p.body.length≤1480) (s:Nat) (hs:s≤65535):∀ n∈[17664+p.tos,20+p.body.length,p.id,0,p.ttl * 256+p.proto,s,p.src / 65536,p.src,p.dst / 65536,p.dst],n<4294967296:=by
 have h1:=hp.tos
 have h2:=hp.proto
 have h3:=hp.ttl
 have h4:=hp.id
 have h5:=hp.src
 have h6:=hp.dst
 intro n hn
 simp only[List.mem_cons,List.not_mem_nil,or_false]at hn
 rcases hn with rfl | rfl | rfl | rfl | rfl | rfl | rfl | rfl | rfl | rfl<;>omega
theorem Aib {p:PacketM} (hp:PacketOK p) (hb:p.body.length≤1480):Ve (S8 p)=Mr p:=by
 have hw:=Ago hp hb 0 qy
 rw[Mr,Ve,Ve,Q1,L7,Acp hp,Hk]
 rw[show 18 / 2=9 from rfl,show 20 / 2=10 from rfl,Uc _ 9 qz (fun n hn=>hw n (by
  simp only[List.mem_cons,List.not_mem_nil,or_false]at hn ⊢
  rcases hn with h | h | h | h | h | h | h | h | h<;>simp[h])),Uc _ 10 qz hw]
 simp
theorem Aic {p:PacketM} (hp:PacketOK p):[69,UInt8.ofNat p.tos]++be 2 (20+p.body.length)++be 2 p.id++[0,0,UInt8.ofNat p.ttl,UInt8.ofNat p.proto]++be 2 (Mr p)++(be 4 p.src++be 4 p.dst)=Hk p (Mr p):=by
 have h1:=hp.tos
 have h2:=hp.proto
 have h3:=hp.ttl
 have e1:(17664+p.tos) / 256=69:=by omega
 have e2:UInt8.ofNat (17664+p.tos)=UInt8.ofNat p.tos:=by apply UInt8.toNat_inj.1;simp
 have e3:(p.ttl * 256+p.proto) / 256=p.ttl:=by omega
 have e4:UInt8.ofNat (p.ttl * 256+p.proto)=UInt8.ofNat p.proto:=by apply UInt8.toNat_inj.1;simp
 rw[Hk,be2,be2,be2,be4,be4]
 simp only[B8,List.flatMap_cons,List.flatMap_nil,List.cons_append,List.nil_append,List.append_nil,e1,e2,e3,e4]
 rfl
theorem Alg (p:PacketM) (s:Nat):((Hk p 0).set 10 (UInt8.ofNat (s / 256))).set 11 (UInt8.ofNat s)=Hk p s:=by
 simp only[Hk,B8,List.flatMap_cons,List.flatMap_nil,List.cons_append,List.nil_append,List.set_cons_succ,List.set_cons_zero]
theorem Af4 (a b v:Nat) (f:FrameM) (ha:a<4294967296) (hb:b<4294967296):PacketOK (Qc a b v f):=⟨Nat.zero_le _,Nat.zero_le _,by show (64:Nat)≤255;decide,by show (17:Nat)≤255;decide,ha,hb⟩
theorem Ip (a b v:Nat) (f:FrameM):(Qc a b v f).body.length=30+f.body.length:=by
 simp only[Qc,Agi,List.length_append,En,E6];omega
theorem Aed (a b:Nat) (v:Int) (f:FrameM):(wrapT a b v f).1.length≤1514:=by
 unfold wrapT
 split
 ·simp
 split
 ·simp
 split
 ·simp
 ·simp only[frame,List.length_append,A3,Q2,Ip,List.length_cons,List.length_nil];omega
theorem Ae7 (n:Net) (dom peer:Int) (f:FrameM):(meshT n dom peer f).1.length≤1514:=by
 unfold meshT
 split
 ·simp
 split
 ·simp
 ·exact Aed _ _ _ _
theorem Atd {b:List UInt8}:(udpTakeT b).2.2.1.length≤b.length:=by
 unfold udpTakeT
 repeat' split
 all_goals first | (simp;done) | (simp only[List.length_drop,List.length_take];omega)
theorem vniT_body {b:List UInt8}:(vniT b).2.1.length≤b.length:=by
 unfold vniT
 repeat' split
 all_goals first | (simp;done) | (simp only[List.length_drop];omega)
theorem Xi (b:List UInt8):PacketOK (outerT b).1∧(outerT b).1.body.length≤b.length:=by
 unfold outerT
 split
 ·exact⟨Ak1,by simp[noP]⟩
 split
 ·exact⟨Ak1,by simp[noP]⟩
 split
 ·exact⟨Ak1,by simp[noP]⟩
 ·rename_i h1 h2 h3
  have h4:(takeF b).2=0:=Classical.byContradiction h1
  have h5:(ipTakeT (takeF b).1.body).2=0:=Classical.byContradiction h3
  obtain ⟨h6,h7⟩:=Abe h5
  refine⟨h6,?_⟩
  have h8:(takeF b).1.body.length≤b.length:=by
   unfold takeF
   repeat' split
   all_goals simp[noF]
  dsimp only
  omega
theorem Adr (b:List UInt8):FrameOK (innerT b).2.1∧0≤(innerT b).1:=by
 unfold innerT
 repeat' split
 all_goals first | exact⟨Dp,Int.le_refl _⟩ | skip
 rename_i h1 h2 h3 h4 h5
 refine⟨Z0 (Classical.byContradiction h4),?_⟩
 show 0≤(vniT (udpTakeT b).2.2.1).1
 unfold vniT
 repeat' split
 all_goals omega
theorem Ue (b:List UInt8):(unwrapT b).1<4294967296∧(unwrapT b).2.1<4294967296∧0≤(unwrapT b).2.2.1∧FrameOK (unwrapT b).2.2.2.1:=by
 unfold unwrapT
 split
 ·exact⟨Nat.zero_lt_succ _,Nat.zero_lt_succ _,Int.le_refl _,Dp⟩
 split
 ·exact⟨Nat.zero_lt_succ _,Nat.zero_lt_succ _,Int.le_refl _,Dp⟩
 ·exact⟨(Xi b).1.src,(Xi b).1.dst,(Adr _).2,(Adr _).1⟩
theorem Ad0 (n:Net) (port:Int) (f:FrameM) (hf:FrameOK f) (tg:Bool) (vid:Int):FrameOK (Jk n port f tg vid).2.1:=by
 unfold Jk
 split
 ·exact Dp
 split
 ·exact Dp
 ·exact hf
theorem Ta (n:Net) (port:Int) (b:List UInt8):FrameOK (enterT n port b).2.1:=by
 unfold enterT
 split
 ·exact Dp
 split
 ·exact Dp
 rename_i h1 h2
 have h3:=Z0 (Classical.byContradiction h2)
 split
 ·split
  ·exact Dp
  ·rename_i h5
   exact Ad0 _ _ _ (Aqr h3 (Classical.byContradiction h5)) _ _
 ·exact Ad0 _ _ _ h3 _ _
theorem Aa5 (n:Net) (port:Int) (b:List UInt8):FrameOK (linkT n port b).2.2.1:=by
 unfold linkT
 split
 ·exact Dp
 ·exact Ta _ _ _
theorem Ab2 (n:Net) (b:List UInt8):FrameOK (comeT n b).2.2.1:=by
 unfold comeT
 split
 ·exact Dp
 split
 ·exact Dp
 split
 ·exact Dp
 split
 ·exact Dp
 ·exact(Ue b).2.2.2
theorem Auh (n:Net) (hm:n.Num) (irb:Int) (f:FrameM) (hin:∀ (d:Int),(lookT n irb d).2=true→0≤(lookT n irb d).1∧(lookT n irb d).1.toNat<n.irbs.length):FrameOK (hopT n irb f).2.1:=by
 unfold hopT
 split
 ·exact Dp
 split
 ·exact Dp
 split
 ·exact Dp
 split
 ·exact Dp
 split
 ·exact Dp
 split
 ·exact Dp
 rename_i h1 h2 h3 h4 h5 h6
 have hp:=(Abe (Classical.byContradiction h3)).1
 have hl:=hin ((ipTakeT f.body).1.dst:Int) (by simpa using h5)
 have ha:=hm.addr _ (List.getElem_mem hl.2)
 rw[← Ag hl.2]at ha
 refine⟨Abk _ hp.dst,?_,?_,?_⟩
 ·show Ev (nth n.irbs _).addr<_
  rw[Ev];omega
 ·show (2048:Nat)≤65535;decide
 ·show (V3 (Aie (ipTakeT f.body).1)).length≤1504
  rw[Q2]
  show 20+(ipTakeT f.body).1.body.length≤1504
  omega
end Go.Sy.YteinjapglfkamaaGreat
namespace Go.Sy.YteinjapglfkamaaGreat
open Go.Proofs
attribute [local irreducible] Go.Sy.G Go.Sy.DR
set_option maxRecDepth 100000
set_option maxHeartbeats 4000000
theorem Zg (a b:Nat) (ha:a<4294967296) (hb:b<4294967296):bits .or .u32 (a:Int) (b:Int)=((a ||| b:Nat):Int):=by
 have hx:a ||| b<2 ^ 32:=Nat.or_lt_two_pow qn qn
 have h1:(BitVec.ofInt 32 (a:Int)).toNat=a:=by
  rw[BitVec.ofInt_natCast,BitVec.toNat_ofNat];exact Nat.mod_eq_of_lt qn
 have h2:(BitVec.ofInt 32 (b:Int)).toNat=b:=by
  rw[BitVec.ofInt_natCast,BitVec.toNat_ofNat];exact Nat.mod_eq_of_lt qn
 show IntKind.u32.wrap ((BitVec.ofInt 32 (a:Int) ||| BitVec.ofInt 32 (b:Int)).toNat:Int)=_
 rw[BitVec.toNat_or,h1,h2,IntKind.wrap_u32]
 omega
theorem Zq (x:UInt8) (k:UInt8):((x.toNat:Int) != (k.toNat:Int))=decide (x≠k):=by
 rw[Bool.eq_iff_iff]
 simp only[bne_iff_ne,decide_eq_true_eq,ne_eq,← UInt8.toNat_inj]
 omega
theorem V2 (b:List UInt8) (k:Nat) (h:k+2≤b.length) (hb:b.length<100000):Sy.Spec Tryz.prog 345 [.sl 1 Af b,Aa k] [] (Aa (numAt b k 2)) []:=cT F345 Tryz.ntmps345 fun F hF=>by
 have i0:((k:Nat):Int).toNat<b.length:=by simpa using (by omega:k<b.length)
 have i1:((k:Int)+1).toNat<b.length:=by omega
 have e0:b[((k:Nat):Int).toNat]'i0=b[k]'qn:=rfl
 have e1:b[((k:Int)+1).toNat]'i1=b[k+1]'qn:=rfl
 have hp:=Hf (b[k]'qn) (b[k+1]'qn)
 have hn:=K7 h
 rw[← hn]at hp
 conv=>whnf
 refine⟨E,by omega,i0,?_⟩
 rw[e0]
 conv=>whnf
 refine⟨by decide,?_⟩
 conv=>whnf
 refine iW ?_
 refine⟨E,by omega,i1,?_⟩
 rw[e1]
 conv=>whnf
 refine⟨qq,?_⟩
 rw[hp]
 conv=>whnf
 exact dN
theorem Aqk (x y:Nat) (hx:x<65536) (hy:y<65536):bits .or .u32 (IntKind.u32.wrap ((IntKind.u32.wrap (x:Int)) * 2 ^ min (Int.toNat 16) IntKind.u32.bits)) (IntKind.u32.wrap (y:Int))=((x * 65536+y:Nat):Int):=by
 have e1:IntKind.u32.wrap (x:Int)=(x:Int):=by rw[IntKind.wrap_u32];omega
 have e2:IntKind.u32.wrap (y:Int)=(y:Int):=by rw[IntKind.wrap_u32];omega
 rw[e1,e2]
 have e3:IntKind.u32.wrap ((x:Int) * 2 ^ min (Int.toNat 16) IntKind.u32.bits)=((x * 65536:Nat):Int):=by
  show IntKind.u32.wrap ((x:Int) * 65536)=_
  rw[IntKind.wrap_u32]
  omega
 rw[e3,Zg _ _ qn qn]
 congr 1
 have h:=Nat.two_pow_add_eq_or_of_lt (i:=16) (b:=y) qn x
 rw[Nat.mul_comm x 65536]
 exact h.symm
theorem Am5 (b:List UInt8) (k:Nat) (h:k+4≤b.length) (hb:b.length<100000):Sy.Spec Tryz.prog 347 [.sl 1 Af b,Aa k] [] (Bd (numAt b k 4)) []:=cT F347 Tryz.ntmps347 fun F hF=>by
 have q1:=V2 b k qn hb
 have q2:=V2 b (k+2) qn hb
 rw[show ((k+2:Nat):Int)=(k:Int)+2 by omega]at q2
 have hf:=Aqk (numAt b k 2) (numAt b (k+2) 2) (by have:=Ht b k 2;omega) (by have:=Ht b (k+2) 2;omega)
 rw[← numAt4 h]at hf
 conv=>whnf
 refine c0 q1 F345 ?_
 refine oO ?_
 refine⟨by decide,?_⟩
 conv=>whnf
 refine iW ?_
 refine c0 q2 F345 ?_
 refine oO ?_
 rw[hf]
 exact dN
theorem Anu (l:List UInt8) (hl:l.length<100000) (h2:l.length % 2=0):Sy.Spec Tryz.prog 346 [.sl 1 Af l] [] (Ab (decide (Dq (I6 l (l.length / 2))=65535))) []:=cT F346 Tryz.ntmps346 fun F hF=>by
 have ha:=Amk l hl h2
 conv=>whnf
 refine c0 ha F156 ?_
 refine oO ?_
 refine Ao E (.cons .tmp .nil) (congrArg Ab ?_) E
 rw[Bool.eq_iff_iff]
 simp only[beq_iff_eq,decide_eq_true_eq]
 omega
theorem Ahe (l:List UInt8) (hl:l.length<100000) (h2:l.length % 2=0):Sy.Spec Tryz.prog 366 [.sl 1 Af l] [] (Ab (decide (Dq (I6 l (l.length / 2))=65535))) []:=cT F366 Tryz.ntmps366 fun F hF=>by
 have ha:=Ams l hl h2
 conv=>whnf
 refine c0 ha F158 ?_
 refine oO ?_
 refine Ao E (.cons .tmp .nil) (congrArg Ab ?_) E
 rw[Bool.eq_iff_iff]
 simp only[beq_iff_eq,decide_eq_true_eq]
 omega
abbrev zP:List SV:=[Aa 0,Aa 0,Aa 0,Aa 0,Bd 0,Bd 0,.sl 1 Af []]
theorem Am4 (b:List UInt8) (hb:b.length<100000):Sy.Spec Tryz.prog 297 [.sl 1 Af b] [] (.tup [Jt (ipTakeT b).1,Aa (ipTakeT b).2]) []:=cT F297 Tryz.ntmps297 fun F hF=>by
 have hres:=ipTakeT.eq_1 b
 generalize ipTakeT b=res at *
 conv=>whnf
 refine⟨fun h=>?_,fun h=>?_⟩
 ·rw[if_pos (qA h)]at hres
  subst hres
  refine oO ?_
  refine Ar 2 zP E (.cons (.refl _) (.cons (.refl _) (.cons (.refl _) (.cons (.refl _) (.cons (.refl _) (.cons (.refl _) (.cons .nil .nil))))))) ?_
  exact dN
 have h20:20≤b.length:=qB h
 rw[if_neg qn]at hres
 clear h
 have i0:(0:Int).toNat<b.length:=by show 0<_;omega
 have i1:(1:Int).toNat<b.length:=by show 1<_;omega
 have i8:(8:Int).toNat<b.length:=by show 8<_;omega
 have i9:(9:Int).toNat<b.length:=by show 9<_;omega
 have e0:b[(0:Int).toNat]'i0=bAt b 0:=(Sm qn).symm
 have q2:=V2 b 2 qn hb
 have q4:=V2 b 4 qn hb
 have q6:=V2 b 6 qn hb
 have q12:=Am5 b 12 qn hb
 have q16:=Am5 b 16 qn hb
 have hl20:(b.take 20).length=20:=by rw[List.length_take];omega
 have hdiv:(b.take 20).length / 2=10:=by rw[hl20]
 have qs:=Anu (b.take 20) qn (by rw[hl20])
 rw[hdiv]at qs
 refine oO ?_
 refine⟨E,by decide,i0,?_⟩
 rw[e0]
 conv=>whnf
 refine⟨fun h=>?_,fun h=>?_⟩
 ·rw[if_pos (.inl (by rw[show ((69:Int))=((69:UInt8).toNat:Int) from rfl,Zq]at h;exact of_decide_eq_true h))]at hres
  subst hres
  refine oT ?_
  refine Ar 2 zP E (.cons (.refl _) (.cons (.refl _) (.cons (.refl _) (.cons (.refl _) (.cons (.refl _) (.cons (.refl _) (.cons .nil .nil))))))) ?_
  exact dN
 have h69:¬ bAt b 0≠69:=by rw[show ((69:Int))=((69:UInt8).toNat:Int) from rfl,Zq]at h;exact of_decide_eq_false h
 clear h
 refine oO ?_
 refine c0 q2 F345 ?_
 refine oO ?_
 refine⟨fun h=>?_,fun h=>?_⟩
 ·rw[if_pos (.inr (qA h))]at hres
  subst hres
  refine oO ?_
  refine Ar 2 zP E (.cons (.refl _) (.cons (.refl _) (.cons (.refl _) (.cons (.refl _) (.cons (.refl _) (.cons (.refl _) (.cons .nil .nil))))))) ?_
  exact dN
 have hs20:20≤numAt b 2 2:=qB h
 rw[if_neg (fun h=>h.elim h69 qn)]at hres
 clear h
 refine oO ?_
 refine c0 q2 F345 ?_
 refine oO ?_
 refine⟨fun h=>?_,fun h=>?_⟩
 ·rw[if_pos (qA h)]at hres
  subst hres
  refine oO ?_
  refine Ar 2 zP E (.cons (.refl _) (.cons (.refl _) (.cons (.refl _) (.cons (.refl _) (.cons (.refl _) (.cons (.refl _) (.cons .nil .nil))))))) ?_
  exact dN
 have hsl:numAt b 2 2≤b.length:=qB h
 rw[if_neg qn]at hres
 clear h
 refine oO ?_
 refine c0 q6 F345 ?_
 refine oO ?_
 refine⟨fun h=>?_,fun h=>?_⟩
 ·rw[if_pos (by have:(numAt b 6 2:Int)≠0:=(by simpa using h);omega)]at hres
  subst hres
  refine oO ?_
  refine Ar 2 zP E (.cons (.refl _) (.cons (.refl _) (.cons (.refl _) (.cons (.refl _) (.cons (.refl _) (.cons (.refl _) (.cons .nil .nil))))))) ?_
  exact dN
 rw[if_neg (by have:(numAt b 6 2:Int)=0:=(by simpa using h);omega)]at hres
 clear h
 refine oO ?_
 refine Ae (Bc (lo:=0) (hi:=20) Γ.toTy E E E E (.inl ⟨E,E⟩) (.inr ⟨_,_,E,E⟩) qn h20) E E ?_
 refine oO ?_
 refine c0 qs F346 ?_
 by_cases hsum:Dq (I6 (b.take 20) 10)=65535
 rotate_left
 ·rw[if_pos hsum]at hres
  subst hres
  rw[decide_eq_false hsum]
  refine oT ?_
  refine Ar 2 zP E (.cons (.refl _) (.cons (.refl _) (.cons (.refl _) (.cons (.refl _) (.cons (.refl _) (.cons (.refl _) (.cons .nil .nil))))))) ?_
  exact dN
 rw[if_neg (fun h=>h hsum)]at hres
 subst hres
 rw[decide_eq_true hsum]
 have qc:=Oz ((b.take (numAt b 2 2)).drop 20) (by rw[List.length_drop,List.length_take];omega)
 have w1:IntKind.i64.wrap ((b[(1:Int).toNat]'i1).toNat:Int)=((bAt b 1).toNat:Int):=by
  rw[Sm (show 1<b.length by omega)]
  have:=(b[1]'qn).toNat_lt
  show IntKind.i64.wrap ((b[1]'qn).toNat:Int)=_
  rw[IntKind.wrap_i64];omega
 have w8:IntKind.i64.wrap ((b[(8:Int).toNat]'i8).toNat:Int)=((bAt b 8).toNat:Int):=by
  rw[Sm (show 8<b.length by omega)]
  have:=(b[8]'qn).toNat_lt
  show IntKind.i64.wrap ((b[8]'qn).toNat:Int)=_
  rw[IntKind.wrap_i64];omega
 have w9:IntKind.i64.wrap ((b[(9:Int).toNat]'i9).toNat:Int)=((bAt b 9).toNat:Int):=by
  rw[Sm (show 9<b.length by omega)]
  have:=(b[9]'qn).toNat_lt
  show IntKind.i64.wrap ((b[9]'qn).toNat:Int)=_
  rw[IntKind.wrap_i64];omega
 refine oF ?_
 refine⟨E,by decide,i1,?_⟩
 conv=>whnf
 refine cD q4 F345 ?_
 refine oD ?_
 refine⟨E,by decide,i8,?_⟩
 conv=>whnf
 refine⟨E,by decide,i9,?_⟩
 conv=>whnf
 refine cD q12 F347 ?_
 refine oD ?_
 refine cD q16 F347 ?_
 refine oD ?_
 refine cD q2 F345 ?_
 refine oD ?_
 refine Bb (Bc (lo:=20) (hi:=numAt b 2 2) Γ.toTy E E E E (.inr ⟨_,_,E,E⟩) (.inr ⟨_,_,E,E⟩) hs20 hsl) qq E ?_
 refine oD ?_
 refine cD qc F290 ?_
 refine oD ?_
 refine kW ?_
 refine Ao E (.cons (.cell E E E E) (.cons .tmp .nil)) ?_ E
 show SV.tup [.agg [Aa (bAt b 1).toNat,_,Aa (bAt b 8).toNat,Aa (bAt b 9).toNat,_,_,_],_]=SV.tup [.agg [Aa (IntKind.i64.wrap ((b[(1:Int).toNat]'i1).toNat:Int)),_,Aa (IntKind.i64.wrap ((b[(8:Int).toNat]'i8).toNat:Int)),Aa (IntKind.i64.wrap ((b[(9:Int).toNat]'i9).toNat:Int)),_,_,_],_]
 rw[w1,w8,w9]
 rfl
theorem Aew (l:List UInt8) (h:l.length≤6):Sy.Spec Tryz.prog 365 [.sl 1 Af l] [] (Aa (Hi l)) []:=cT F365 Tryz.ntmps365 fun F hF=>by
 conv=>whnf
 refine Aq l.length (fun j=>[(0,.sl 1 Af l),(3,Aa (Hi (l.take j))),(4,Aa j)]) (fun _=>[]) [] ⟨⟨E,E,E,E,E,E,Y⟩,Y,E,E⟩ ?_
 intro j hj
 have hlt2:=Kc _ (l.take j) rfl
 refine oO ?_
 refine⟨fun h2=>?_,fun h2=>?_⟩
 ·have hlt:j<l.length:=by have:=of_decide_eq_true h2;omega
  have hj0:((j:Nat):Int).toNat<l.length:=by simpa using hlt
  have hs:=W1 l hlt
  have hll:(l.take j).length=j:=by rw[List.length_take];omega
  rw[hll]at hlt2
  have h5:Hi (l.take j)<1099511627776:=Nat.lt_of_lt_of_le hlt2 (by
   have:(256:Nat) ^ j≤256 ^ 5:=Nat.pow_le_pow_right qy qn
   exact this)
  obtain ⟨c,hc⟩:∃ c,l[((j:Nat):Int).toNat]'hj0=c:=⟨_,rfl⟩
  have hc':l[j]=c:=hc
  rw[hc']at hs
  have hcn:=c.toNat_lt
  generalize Hi (l.take j)=m at *
  have w0:IntKind.i64.wrap (c.toNat:Int)=c.toNat:=by rw[IntKind.wrap_i64];omega
  refine oO ?_
  refine iW ?_
  refine⟨E,by omega,hj0,?_⟩
  rw[hc]
  conv=>whnf
  rw[w0]
  refine iW ?_
  refine iW ?_
  refine An [] hlt ⟨⟨E,E,congrArg (fun z:Int=>SV.val (.int .i64 z)) ?_,E,E,E,Y⟩,Y,E,E⟩
  rw[hs]
  omega
 ·have hje:j=l.length:=by have:=of_decide_eq_false h2;omega
  subst hje
  rw[List.take_length]
  refine oO ?_
  exact dN
theorem Kz (b:List UInt8) (k m:Nat) (hm:m≤6):Sy.Spec Tryz.prog 365 [.sl 1 Af ((b.take (k+m)).drop k)] [] (Aa (numAt b k m)) []:=by
 have e:(b.take (k+m)).drop k=(b.drop k).take m:=by rw[List.drop_take];congr 1;omega
 rw[e]
 exact Aew _ (by rw[List.length_take];omega)
theorem Aan (b:List UInt8) (hb:b.length<100000):Sy.Spec Tryz.prog 317 [.sl 1 Af b] [] (.tup [Jt (ipTakeT b).1,Aa (ipTakeT b).2]) []:=cT F317 Tryz.ntmps317 fun F hF=>by
 have hres:=ipTakeT.eq_1 b
 generalize ipTakeT b=res at *
 conv=>whnf
 refine⟨fun h=>?_,fun h=>?_⟩
 ·rw[if_pos (qA h)]at hres
  subst hres
  refine oO ?_
  refine Ar 2 zP E (.cons (.refl _) (.cons (.refl _) (.cons (.refl _) (.cons (.refl _) (.cons (.refl _) (.cons (.refl _) (.cons .nil .nil))))))) ?_
  exact dN
 have h20:20≤b.length:=qB h
 rw[if_neg qn]at hres
 clear h
 have i0:(0:Int).toNat<b.length:=by show 0<_;omega
 have i1:(1:Int).toNat<b.length:=by show 1<_;omega
 have i8:(8:Int).toNat<b.length:=by show 8<_;omega
 have i9:(9:Int).toNat<b.length:=by show 9<_;omega
 have e0:b[(0:Int).toNat]'i0=bAt b 0:=(Sm qn).symm
 have q2:=Kz b 2 2 qy
 have q4:=Kz b 4 2 qy
 have q6:=Kz b 6 2 qy
 have q12:=Kz b 12 4 qy
 have q16:=Kz b 16 4 qy
 have hl20:(b.take 20).length=20:=by rw[List.length_take];omega
 have hdiv:(b.take 20).length / 2=10:=by rw[hl20]
 have qs:=Ahe (b.take 20) qn (by rw[hl20])
 rw[hdiv]at qs
 refine oO ?_
 refine Ae (Bc (lo:=2) (hi:=4) Γ.toTy E E E E (.inr ⟨_,_,E,E⟩) (.inr ⟨_,_,E,E⟩) qn qn) E E ?_
 refine oO ?_
 refine c0 q2 F365 ?_
 refine oO ?_
 refine⟨E,by decide,i0,?_⟩
 rw[e0]
 conv=>whnf
 refine⟨fun h=>?_,fun h=>?_⟩
 ·rw[if_pos (.inl (by rw[show ((69:Int))=((69:UInt8).toNat:Int) from rfl,Zq]at h;exact of_decide_eq_true h))]at hres
  subst hres
  refine oT ?_
  refine Ar 2 zP E (.cons (.refl _) (.cons (.refl _) (.cons (.refl _) (.cons (.refl _) (.cons (.refl _) (.cons (.refl _) (.cons .nil .nil))))))) ?_
  exact dN
 have h69:¬ bAt b 0≠69:=by rw[show ((69:Int))=((69:UInt8).toNat:Int) from rfl,Zq]at h;exact of_decide_eq_false h
 clear h
 refine oO ?_
 refine⟨fun h=>?_,fun h=>?_⟩
 ·rw[if_pos (.inr (qA h))]at hres
  subst hres
  refine oO ?_
  refine Ar 2 zP E (.cons (.refl _) (.cons (.refl _) (.cons (.refl _) (.cons (.refl _) (.cons (.refl _) (.cons (.refl _) (.cons .nil .nil))))))) ?_
  exact dN
 have hs20:20≤numAt b 2 2:=qB h
 rw[if_neg (fun h=>h.elim h69 qn)]at hres
 clear h
 refine oO ?_
 refine⟨fun h=>?_,fun h=>?_⟩
 ·rw[if_pos (qA h)]at hres
  subst hres
  refine oO ?_
  refine Ar 2 zP E (.cons (.refl _) (.cons (.refl _) (.cons (.refl _) (.cons (.refl _) (.cons (.refl _) (.cons (.refl _) (.cons .nil .nil))))))) ?_
  exact dN
 have hsl:numAt b 2 2≤b.length:=qB h
 rw[if_neg qn]at hres
 clear h
 refine oO ?_
 refine Ae (Bc (lo:=6) (hi:=8) Γ.toTy E E E E (.inr ⟨_,_,E,E⟩) (.inr ⟨_,_,E,E⟩) qn qn) E E ?_
 refine oO ?_
 refine c0 q6 F365 ?_
 refine oO ?_
 refine⟨fun h=>?_,fun h=>?_⟩
 ·rw[if_pos (by have:(numAt b 6 2:Int)≠0:=(by simpa using h);omega)]at hres
  subst hres
  refine oO ?_
  refine Ar 2 zP E (.cons (.refl _) (.cons (.refl _) (.cons (.refl _) (.cons (.refl _) (.cons (.refl _) (.cons (.refl _) (.cons .nil .nil))))))) ?_
  exact dN
 rw[if_neg (by have:(numAt b 6 2:Int)=0:=(by simpa using h);omega)]at hres
 clear h
 refine oO ?_
 refine Ae (Bc (lo:=0) (hi:=20) Γ.toTy E E E E (.inl ⟨E,E⟩) (.inr ⟨_,_,E,E⟩) qn h20) E E ?_
 refine oO ?_
 refine c0 qs F366 ?_
 by_cases hsum:Dq (I6 (b.take 20) 10)=65535
 rotate_left
 ·rw[if_pos hsum]at hres
  subst hres
  rw[decide_eq_false hsum]
  refine oT ?_
  refine Ar 2 zP E (.cons (.refl _) (.cons (.refl _) (.cons (.refl _) (.cons (.refl _) (.cons (.refl _) (.cons (.refl _) (.cons .nil .nil))))))) ?_
  exact dN
 rw[if_neg (fun h=>h hsum)]at hres
 subst hres
 rw[decide_eq_true hsum]
 have w1:IntKind.i64.wrap ((b[(1:Int).toNat]'i1).toNat:Int)=((bAt b 1).toNat:Int):=by
  rw[Sm (show 1<b.length by omega)]
  have:=(b[1]'qn).toNat_lt
  show IntKind.i64.wrap ((b[1]'qn).toNat:Int)=_
  rw[IntKind.wrap_i64];omega
 have w8:IntKind.i64.wrap ((b[(8:Int).toNat]'i8).toNat:Int)=((bAt b 8).toNat:Int):=by
  rw[Sm (show 8<b.length by omega)]
  have:=(b[8]'qn).toNat_lt
  show IntKind.i64.wrap ((b[8]'qn).toNat:Int)=_
  rw[IntKind.wrap_i64];omega
 have w9:IntKind.i64.wrap ((b[(9:Int).toNat]'i9).toNat:Int)=((bAt b 9).toNat:Int):=by
  rw[Sm (show 9<b.length by omega)]
  have:=(b[9]'qn).toNat_lt
  show IntKind.i64.wrap ((b[9]'qn).toNat:Int)=_
  rw[IntKind.wrap_i64];omega
 have u12:IntKind.u32.wrap (numAt b 12 4:Int)=(numAt b 12 4:Int):=by have:=Ht b 12 4;rw[IntKind.wrap_u32];omega
 have u16:IntKind.u32.wrap (numAt b 16 4:Int)=(numAt b 16 4:Int):=by have:=Ht b 16 4;rw[IntKind.wrap_u32];omega
 refine oF ?_
 refine⟨E,by decide,i1,?_⟩
 conv=>whnf
 refine Bb (Bc (lo:=4) (hi:=6) Γ.toTy E E E E (.inr ⟨_,_,E,E⟩) (.inr ⟨_,_,E,E⟩) qn qn) qq E ?_
 refine oD ?_
 refine cD q4 F365 ?_
 refine oD ?_
 refine⟨E,by decide,i8,?_⟩
 conv=>whnf
 refine⟨E,by decide,i9,?_⟩
 conv=>whnf
 refine⟨qq,?_⟩
 rw[w1,w8,w9]
 conv=>whnf
 refine Ae (Bc (lo:=12) (hi:=16) Γ.toTy E E E E (.inr ⟨_,_,E,E⟩) (.inr ⟨_,_,E,E⟩) qn qn) E E ?_
 refine oO ?_
 refine c0 q12 F365 ?_
 refine oO ?_
 rw[u12]
 refine Ae (Bc (lo:=16) (hi:=20) Γ.toTy E E E E (.inr ⟨_,_,E,E⟩) (.inr ⟨_,_,E,E⟩) qn qn) E E ?_
 refine oO ?_
 refine c0 q16 F365 ?_
 refine oO ?_
 rw[u16]
 refine Ae (Bc (lo:=20) (hi:=numAt b 2 2) Γ.toTy E E E E (.inr ⟨_,_,E,E⟩) (.inr ⟨_,_,E,E⟩) hs20 hsl) E E ?_
 refine oO ?_
 refine Ae (Ad Γ.toTy 67 E E E E E (.lit (e:=Af) (l:=[]) E E) .sl qz (by simp;omega) (by simp;omega)) E E ?_
 refine Ap 67 E ?_
 refine oO ?_
 exact dN
theorem Arl (t:Nat) (h:t≤255):bits .or .i64 17664 (t:Int)=((17664+t:Nat):Int):=by
 have h1:=Dw 17664 t qy qn
 rw[show ((17664:Nat):Int)=17664 from rfl]at h1
 rw[h1]
 congr 1
 have h2:=Nat.two_pow_add_eq_or_of_lt (i:=8) (b:=t) qn 69
 rw[show 2 ^ 8 * 69=17664 from rfl]at h2
 rw[← h2]
theorem At0 (x y:Nat) (hx:x≤255) (hy:y≤255):bits .or .i64 (IntKind.i64.wrap ((x:Int) * 2 ^ min (Int.toNat 8) IntKind.i64.bits)) (y:Int)=((x * 256+y:Nat):Int):=by
 have h3:IntKind.i64.wrap ((x:Int) * 2 ^ min (Int.toNat 8) IntKind.i64.bits)=((x * 256:Nat):Int):=by
  show IntKind.i64.wrap ((x:Int) * 256)=_
  rw[IntKind.wrap_i64]
  omega
 rw[h3,Dw _ _ qn qn]
 congr 1
 have h:=Nat.two_pow_add_eq_or_of_lt (i:=8) (b:=y) qn x
 rw[Nat.mul_comm x 256]
 exact h.symm
theorem Aif (x:Nat) (h:x<4294967296):IntKind.i64.wrap ((x:Int).fdiv (2 ^ (min (Int.toNat 16) IntKind.u32.bits)))=((x / 65536:Nat):Int):=by
 show IntKind.i64.wrap ((x:Int).fdiv 65536)=_
 rw[Int.fdiv_eq_ediv_of_nonneg _ qy,IntKind.wrap_i64]
 omega
theorem Zl (x:Nat) (h:x<4294967296):IntKind.i64.wrap (x:Int)=(x:Int):=by rw[IntKind.wrap_i64];omega
theorem Aff (p:PacketM) (hp:PacketOK p) (hb:p.body.length<100000):Sy.Spec Tryz.prog 43 [Jt p] [] (.tup [.sl 1 Af (ipPutT p).1,Aa (ipPutT p).2]) []:=cT F43 Tryz.ntmps43 fun F hF=>by
 have hres:=ipPutT.eq_1 p
 generalize ipPutT p=res at *
 have h1:=hp.tos
 have h2:=hp.id
 have h3:=hp.ttl
 have h4:=hp.proto
 have h5:=hp.src
 have h6:=hp.dst
 conv=>whnf
 refine Ex ⟨⟨_,_,F103⟩,Aek p.tos 255 qn⟩ E E E E E E ?_
 refine oF ?_
 refine Ex ⟨⟨_,_,F103⟩,Aek p.ttl 255 qn⟩ E E E E E E ?_
 refine oF ?_
 refine Ex ⟨⟨_,_,F103⟩,Aek p.proto 255 qn⟩ E E E E E E ?_
 refine oF ?_
 refine Ex ⟨⟨_,_,F103⟩,Aek p.id 65535 qn⟩ E E E E E E ?_
 refine oF ?_
 refine⟨fun h=>?_,fun h=>?_⟩
 ·rw[if_pos (qA h)]at hres
  subst hres
  refine oO ?_
  refine Ai 2 1 Af E ?_
  exact dN
 have hl:p.body.length≤1480:=qB h
 rw[if_neg qn]at hres
 subst hres
 clear h
 have hsz:V3 p=((Hk p 0).set 10 (UInt8.ofNat (Mr p / 256))).set 11 (UInt8.ofNat (Mr p))++p.body:=by rw[Alg,V3]
 rw[hsz]
 have hil:=L7 p 0
 have hs:=sumOfS (Hk p 0) (by rw[hil];decide) (by rw[hil])
 have hput:=Ar5 [17664+p.tos,20+p.body.length,p.id,0,p.ttl * 256+p.proto,0,p.src / 65536,p.src,p.dst / 65536,p.dst] qz
 rw[show K5 [17664+p.tos,20+p.body.length,p.id,0,p.ttl * 256+p.proto,0,p.src / 65536,p.src,p.dst / 65536,p.dst]=Hk p 0 from rfl]at hput
 have hss:Ve (Hk p 0)=Mr p:=rfl
 rw[hss]at hs
 have hsl:Mr p≤65535:=Nat.sub_le _ _
 generalize Mr p=s at *
 have htb:=E9 s
 have o1:=Arl p.tos h1
 have o2:=At0 p.ttl p.proto h3 h4
 have g1:=Aif p.src h5
 have g2:=Zl p.src h5
 have g3:=Aif p.dst h6
 have g4:=Zl p.dst h6
 generalize Hk p 0=b at *
 refine oO ?_
 refine iW ?_
 refine⟨by decide,?_⟩
 conv=>whnf
 refine⟨by decide,?_⟩
 conv=>whnf
 refine⟨by decide,?_⟩
 conv=>whnf
 refine Ajg 68 (e:=Ars) (l:=[17664+p.tos,20+p.body.length,p.id,0,p.ttl * 256+p.proto,0,p.src / 65536,p.src,p.dst / 65536,p.dst]) E ?_ ?_
 ·show _=[SV.val (.int .i64 (bits .or .i64 17664 (p.tos:Int))),SV.val _,SV.val _,SV.val _,SV.val (.int .i64 (bits .or .i64 (IntKind.i64.wrap ((p.ttl:Int) * 2 ^ min (Int.toNat 8) IntKind.i64.bits)) (p.proto:Int))),SV.val _,
   SV.val (.int .i64 (IntKind.i64.wrap ((p.src:Int).fdiv (2 ^ (min (Int.toNat 16) IntKind.u32.bits))))),SV.val (.int .i64 (IntKind.i64.wrap (p.src:Int))),SV.val (.int .i64 (IntKind.i64.wrap ((p.dst:Int).fdiv (2 ^ (min (Int.toNat 16) IntKind.u32.bits))))),SV.val (.int .i64 (IntKind.i64.wrap (p.dst:Int)))]
  rw[o1,o2,g1,g2,g3,g4]
  rfl
 refine Ap 68 E ?_
 refine Ae (Ah [(0,69)] E F104 hput E Y E ⟨.inr E,Y⟩) E E ?_
 refine oO ?_
 refine Ad6 [69] hs F105 E (.cons (.row E E) .nil) E E E ?_
 refine oO ?_
 have hb1:=(List.cons.inj htb).1
 have hb2:=(List.cons.inj (List.cons.inj htb).2).1
 refine⟨by omega,?_⟩
 conv=>whnf
 refine⟨by decide,by rw[hil];decide,?_⟩
 conv=>whnf
 refine⟨E,by rw[hil];decide,UInt8.ofNat (s / 256),congrArg (fun z=>[z]) hb1,E,?_⟩
 conv=>whnf
 refine⟨by decide,by simp[hil],?_⟩
 conv=>whnf
 refine⟨E,by simp[hil],UInt8.ofNat s,congrArg (fun z=>[z]) hb2,E,?_⟩
 conv=>whnf
 refine Ae (Ad Γ.toTy 84 E E E E E (.row E) .sl qy (by simp[hil];omega) (by simp[hil];omega)) E E ?_
 refine Ap 84 E ?_
 refine oO ?_
 exact dN
theorem Zz (n:Nat):IntKind.u8.wrap (n:Int)=((UInt8.ofNat n).toNat:Int):=Au7 n
theorem Xc (p:PacketM) (hp:PacketOK p) (hb:p.body.length<100000):Sy.Spec Tryz.prog 48 [Jt p] [] (.tup [.sl 1 Af (ipPutT p).1,Aa (ipPutT p).2]) []:=cT F48 Tryz.ntmps48 fun F hF=>by
 have hres:=ipPutT.eq_1 p
 generalize ipPutT p=res at *
 have h1:=hp.tos
 have h2:=hp.id
 have h3:=hp.ttl
 have h4:=hp.proto
 have h5:=hp.src
 have h6:=hp.dst
 conv=>whnf
 refine c0 (Aty p.tos 255 qn) F107 ?_
 refine oF ?_
 refine c0 (Aty p.ttl 255 qn) F107 ?_
 refine oF ?_
 refine c0 (Aty p.proto 255 qn) F107 ?_
 refine oF ?_
 refine c0 (Aty p.id 65535 qn) F107 ?_
 refine oF ?_
 refine⟨fun h=>?_,fun h=>?_⟩
 ·rw[if_pos (qA h)]at hres
  subst hres
  refine oO ?_
  refine Ai 2 1 Af E ?_
  exact dN
 have hl:p.body.length≤1480:=qB h
 rw[if_neg qn]at hres
 subst hres
 clear h
 have hall:=Aic hp
 have hsum:=Aib hp hl
 have h2l:=Q1 p
 have hs:=Aok (S8 p) (by rw[h2l];decide) (by rw[h2l])
 rw[hsum]at hs
 have hsl:Mr p≤65535:=Nat.sub_le _ _
 have hby:V3 p=[69,UInt8.ofNat p.tos]++be 2 (20+p.body.length)++be 2 p.id++[0,0,UInt8.ofNat p.ttl,UInt8.ofNat p.proto]++be 2 (Mr p)++(be 4 p.src++be 4 p.dst)++p.body:=by rw[hall,V3]
 rw[hby]
 clear hby hall
 generalize Mr p=s at *
 have g2:=Zl p.src h5
 have g4:=Zl p.dst h6
 have b2:=Mk p.src 4 qn qy
 have b4:=Mk p.dst 4 qn qy
 rw[← g2]at b2
 rw[← g4]at b4
 have hu1:=Zz p.tos
 have hu3:=Zz p.ttl
 have hu4:=Zz p.proto
 have hm1:[69,UInt8.ofNat p.tos].map Af=[SV.val (.int .u8 69),SV.val (.int .u8 (IntKind.u8.wrap (p.tos:Int)))]:=by rw[hu1];rfl
 have hm2:[0,0,UInt8.ofNat p.ttl,UInt8.ofNat p.proto].map Af=[SV.val (.int .u8 0),SV.val (.int .u8 0),SV.val (.int .u8 (IntKind.u8.wrap (p.ttl:Int))),SV.val (.int .u8 (IntKind.u8.wrap (p.proto:Int)))]:=by rw[hu3,hu4];rfl
 refine oO ?_
 refine iW ?_
 refine Ae (Ah [(0,39)] E F108 (Mk (20+p.body.length) 2 qn qy) E Y E ⟨.inr E,Y⟩) E E ?_
 refine oO ?_
 refine Ae (Ad Γ.toTy 40 E E E E E (.lit (e:=Af) (l:=[69,UInt8.ofNat p.tos]) E hm1) (.row E) qy (by simp[A3]) (by simp[A3])) E E ?_
 refine oO ?_
 refine Ae (Ah [(0,44)] E F108 (Mk p.id 2 qn qy) E Y E ⟨.inr E,Y⟩) E E ?_
 refine oO ?_
 refine Ae (Ad Γ.toTy 45 E E E E E (.row E) (.row E) qy (by simp[A3]) (by simp[A3])) E E ?_
 refine oO ?_
 refine Ae (Ad Γ.toTy 54 E E E E E (.row E) (.lit (e:=Af) (l:=[0,0,UInt8.ofNat p.ttl,UInt8.ofNat p.proto]) E hm2) qy (by simp[A3]) (by simp[A3])) E E ?_
 refine oO ?_
 refine Bb (Ah [(0,58)] E F108 b2 E Y E ⟨.inr E,Y⟩) qq E ?_
 refine oD ?_
 refine Bb (Ah [(0,62)] E F108 b4 E Y E ⟨.inr E,Y⟩) qq E ?_
 refine oD ?_
 refine Bb (Ad Γ.toTy 63 E E E E E (.row E) (.row E) qy (by simp[A3]) (by simp[A3])) qq E ?_
 refine oD ?_
 refine kW ?_
 refine Ae (Ad Γ.toTy 66 E E E E E (.lit (e:=Af) (l:=[]) E E) (.row E) qy (by simp[A3]) (by simp[A3])) E E ?_
 refine oO ?_
 refine Ae (Ad Γ.toTy 68 E E E E E (.row E) (.row E) qy (by simp[A3]) (by simp[A3])) E E ?_
 refine oO ?_
 refine Ad6 [68] hs F109 E (.cons (.row ?_ E) .nil) E E E ?_
 ·rfl
 refine oO ?_
 refine Ae (Ah [(0,72)] E F108 (Mk s 2 qn qy) E Y E ⟨.inr E,Y⟩) E E ?_
 refine oO ?_
 refine Ae (Ad Γ.toTy 73 E E E E E (.row E) (.row E) qy (by simp[A3]) (by simp[A3])) E E ?_
 refine oO ?_
 refine Ae (Ad Γ.toTy 75 E E E E E (.row E) (.row E) qy (by simp[A3]) (by simp[A3])) E E ?_
 refine oO ?_
 refine Ae (Ad Γ.toTy 79 E E E E E (.row E) .sl qy (by simp[A3];omega) (by simp[A3];omega)) E E ?_
 refine Ap 79 E ?_
 refine oO ?_
 exact dN
def hop1 (p:PacketM):PacketM × Int:=if p.ttl≤1 then (noP,13) else (Aie p,0)
theorem ipHopS (p:PacketM) (hb:p.body.length<100000) (ht:p.ttl≤255):Sy.Spec Tryz.prog 298 [Jt p] [] (.tup [Jt (hop1 p).1,Aa (hop1 p).2]) []:=cT F298 Tryz.ntmps298 fun F hF=>by
 have hres:=hop1.eq_1 p
 generalize hop1 p=res at *
 have qc:=Oz p.body qn
 conv=>whnf
 refine⟨fun h=>?_,fun h=>?_⟩
 ·rw[if_pos (qA h)]at hres
  subst hres
  refine oO ?_
  refine Ar 2 zP E (.cons (.refl _) (.cons (.refl _) (.cons (.refl _) (.cons (.refl _) (.cons (.refl _) (.cons (.refl _) (.cons .nil .nil))))))) ?_
  exact dN
 have h2:¬ p.ttl≤1:=qB h
 rw[if_neg h2]at hres
 subst hres
 have e:((p.ttl-1:Nat):Int)=(p.ttl:Int)-1:=by omega
 refine oO ?_
 refine iW ?_
 refine c0 qc F290 ?_
 refine oO ?_
 refine Ao E (.cons (.cell E E E E) (.cons .tmp .nil)) ?_ E
 show SV.tup [.agg [_,_,Aa ((p.ttl-1:Nat):Int),_,_,_,_],_]=SV.tup [.agg [_,_,Aa ((p.ttl:Int)-1),_,_,_,_],_]
 rw[e]
 rfl
theorem Aov (p:PacketM) (hb:p.body.length<100000) (ht:p.ttl≤255):Sy.Spec Tryz.prog 318 [Jt p] [] (.tup [Jt (hop1 p).1,Aa (hop1 p).2]) []:=cT F318 Tryz.ntmps318 fun F hF=>by
 have hres:=hop1.eq_1 p
 generalize hop1 p=res at *
 conv=>whnf
 refine⟨fun h=>?_,fun h=>?_⟩
 ·rw[if_pos (qA h)]at hres
  subst hres
  refine oO ?_
  refine Ar 2 zP E (.cons (.refl _) (.cons (.refl _) (.cons (.refl _) (.cons (.refl _) (.cons (.refl _) (.cons (.refl _) (.cons .nil .nil))))))) ?_
  exact dN
 have h2:¬ p.ttl≤1:=qB h
 rw[if_neg h2]at hres
 subst hres
 have e:((p.ttl-1:Nat):Int)=(p.ttl:Int)-1:=by omega
 refine oO ?_
 refine iW ?_
 refine Ao E (.cons (.cell E E E E) (.cons .tmp .nil)) ?_ E
 show SV.tup [.agg [_,_,Aa ((p.ttl-1:Nat):Int),_,_,_,_],_]=SV.tup [.agg [_,_,Aa ((p.ttl:Int)-1),_,_,_,_],_]
 rw[e]
 rfl
end Go.Sy.YteinjapglfkamaaGreat
namespace Go.Sy
theorem Ano {C:Cx} {kk:List KI} {s:SS} (q:Nat) (r:List Nat) {sz:Nat} {α:Type} {e:α→SV} {l:List α} (h:s.h q=.row sz e l) (hl:l≠[]) (hr:∀ i∈r,s.σ i=.osl q)
  (hg:∀ b cap,l.length≤cap→G C kk ⟨freezeσ s.σ (.val (.slice (some ⟨b,0,none⟩) l.length cap)) r,upd s.h q (.pin b l.length cap sz e l)⟩):G C kk s:=fun κ a w hs=>by
 have hob:=hs.obj q
 rw[h]at hob
 rcases hob with ⟨_,h1⟩ | hrow
 ·exact absurd h1 hl
 obtain ⟨b,cap,cs,T,fr,e1,e2,e3,e4,e5,e6⟩:=hrow
 refine hg b cap e5 κ a w ⟨hs.defers,hs.size,hs.inv,hs.ctx,fun i=>?_,fun j=>?_⟩
 ·refine freezeσ_ok r _ i (hs.slot i) (fun hi=>?_)
  have:=hs.slot i
  rw[hr i hi]at this
  simp only[Rd,e1]at this
  simp only[Rd]
  exact this
 ·show ObOK κ w j (upd s.h q _ j)
  by_cases hj:j=q
  ·subst hj;rw[Bu];exact⟨e1,b,cap,cs,T,fr,e1,e2,e3,e4,e5,e6⟩
  ·rw[Cd _ _ hj];exact hs.obj j
theorem Zs {C:Cx} {kk:List KI} {s:SS} (q d:Nat) (r:List Nat) (m:Nat) {b n cap sz:Nat} {α:Type} {e:α→SV} {l:List α} (h:s.h q=.pin b n cap sz e l) (hd:s.h d=.fresh) (hm:m≤l.length)
  (hr:∀ i∈r,s.σ i=.val (.slice (some ⟨b,0,none⟩) m cap)) (hg:G C kk ⟨freezeσ s.σ (.osl d) r,upd (upd s.h q .non) d (.row sz e (l.take m))⟩):G C kk s:=fun κ a w hs=>by
 have hob:=hs.obj q
 rw[h]at hob
 have hnew:κ d=.new:=by have:=hs.obj d;rwa [hd]at this
 obtain ⟨e0,b',cap',cs,T,fr,e1,e2,e3,e4,e5,e6⟩:=hob
 rw[e0]at e1
 cases e1
 have hln:l.length≤n:=by
  by_cases h0:l.length=0
  ·omega
  ·have:=(e6 (l.length-1) _ ⟨by omega,rfl⟩).1
   omega
 obtain ⟨st,inv⟩:=Me (n':=m) (w':=w) hs.inv e0 hnew rfl rfl rfl rfl (fun _ _=>rfl)
 have hlt:(l.take m).length=m:=by rw[List.length_take];omega
 refine hg _ a w ⟨hs.defers,hs.size,inv,hs.ctx.step inv st,fun j=>?_,fun j=>?_⟩
 ·refine freezeσ_ok r _ j (Rd.step st _ _ (hs.slot j)) (fun hj=>?_)
  have:=hs.slot j
  rw[hr j hj]at this
  simp only[Rd]at this
  simp[Rd,At,this]
 ·show ObOK _ w j (upd (upd s.h q .non) d _ j)
  by_cases hj:j=d
  ·subst hj;rw[Bu]
   refine .inr ⟨b,cap,cs,T,fr,by rw[At,hlt],e2,e3,e4,by omega,fun i x hx=>?_⟩
   obtain ⟨hi,rfl⟩:=hx
   obtain ⟨_,u,q2,q3⟩:=e6 i (e l[i]) ⟨by omega,rfl⟩
   refine⟨hi,u,?_,q3⟩
   rw[List.getElem_take]
   exact RdD.keep st.keeps _ _ q2
  ·rw[Cd _ _ hj]
   by_cases hj2:j=q
   ·subst hj2;rw[Bu];trivial
   ·rw[Cd _ _ hj2];exact ObOK.step st (fun e=>e.elim hj2 hj) _ (hs.obj j)
theorem Dh {P:Program} (Γ:Ty P) {o:Oper} {s:SS} {t:TypeId} {ti:TI} {et:TypeId} {sz eb b n cap lo hi:Nat} {ez:List Value} {x:Operand} {lx hx:Option Operand}
  (h:o.op=.slice t x lx hx none) (ht:Γ.get t=some ti) (hk:ti.k=.slice et sz eb ez) (hxe:ev s x=.val (.slice (some ⟨b,0,none⟩) n cap)) (hlo:BoundIs s lx 0 lo) (hhi:BoundIs s hx n hi) (h1:lo≤hi) (h2:hi≤cap) :
  Good P o s ⟨.val (.slice (some (if cap=lo then ⟨b,0,none⟩ else ⟨b,lo * sz,none⟩)) (hi-lo) (cap-lo)),[],[]⟩ :=
 Good.pure fun κ a w _ hr _=>by
  have r1:=hr x (by simp[h,Op.operands])
  rw[hxe]at r1
  obtain ⟨hu,i,zv,q1,q2,q3,q4,q5⟩:=Ce Γ ht hk
  have b1:=hlo.val (a:=a) (fun y hy=>hr y (by simp[h,Op.operands,hy]))
  have b2:=hhi.val (a:=a) (fun y hy=>hr y (by simp[h,Op.operands,hy]))
  have hb:=Hy (P:=P) w (len:=n) (cap:=cap) b1 b2 h1 h2
  refine⟨.slice (some (if cap=lo then ⟨b,0,none⟩ else ⟨b,lo * sz,none⟩)) (hi-lo) (cap-lo),?_,by simp only[Rd]⟩
  by_cases hc:cap=lo
  ·subst hc
   simp[execOp,h,r1.val,Instr.sliceAt,Instr.slice,run_underlying hu,hb,sizeOf,typeInfo,q1]
  ·simp[execOp,h,r1.val,Instr.sliceAt,Instr.slice,run_underlying hu,hb,sizeOf,typeInfo,q1,q2,hc,Addr.add_lit]
theorem Acq {P:Program} (Γ:Ty P) {o:Oper} {s:SS} {t:TypeId} {ti:TI} {et:TypeId} {sz eb b n cap lo hi mm:Nat} {ez:List Value} {x:Operand} {lx hx mx:Operand} {k1 k2 k3:IntKind}
  (h:o.op=.slice t x (some lx) (some hx) (some mx)) (ht:Γ.get t=some ti) (hk:ti.k=.slice et sz eb ez) (hxe:ev s x=.val (.slice (some ⟨b,0,none⟩) n cap)) (hlo:ev s lx=.val (.int k1 lo)) (hhi:ev s hx=.val (.int k2 hi)) (hmx:ev s mx=.val (.int k3 mm))
  (h1:lo≤hi) (h2:hi≤mm) (h3:mm≤cap):Good P o s ⟨.top,[],[]⟩ :=
 Good.pure fun κ a w _ hr _=>by
  have r1:=hr x (by simp[h,Op.operands])
  have r2:=hr lx (by simp[h,Op.operands])
  have r3:=hr hx (by simp[h,Op.operands])
  have r4:=hr mx (by simp[h,Op.operands])
  rw[hxe]at r1
  rw[hlo]at r2
  rw[hhi]at r3
  rw[hmx]at r4
  obtain ⟨hu,i,zv,q1,q2,q3,q4,q5⟩:=Ce Γ ht hk
  have hb:(Instr.sliceBounds true n cap (some (a.eval lx)) (some (a.eval hx)) (some (a.eval mx))).run P w=.ok (lo,hi,mm) w:=by
   rw[r2.val,r3.val,r4.val]
   simp[Instr.sliceBounds,Instr.sliceBound,asIntOf,h1,h2,h3]
  refine⟨.slice (some (if mm=lo then ⟨b,0,none⟩ else ⟨b,lo * sz,none⟩)) (hi-lo) (mm-lo),?_,by simp only[Rd]⟩
  by_cases hc:mm=lo
  ·subst hc
   simp[execOp,h,r1.val,Instr.sliceAt,Instr.slice,run_underlying hu,hb,sizeOf,typeInfo,q1]
  ·simp[execOp,h,r1.val,Instr.sliceAt,Instr.slice,run_underlying hu,hb,sizeOf,typeInfo,q1,q2,hc,Addr.add_lit]
theorem Qj {κ:Ka} {w w':World} {k b n cap:Nat} (hi:Inv κ w) (hk:κ k=.row b n cap) (hos:w'.os=w.os) (ht:w'.tape=w.tape) (ho:w'.output=w.output)
  (hs:w'.heap.size=w.heap.size) (hb:∀ i,i≠b→w'.heap[i]? = w.heap[i]?):Step (fun j=>j=k) κ w κ w'∧Inv κ w':=by
 have hkb:(κ k).block? = some b:=by rw[hk];rfl
 refine⟨⟨by omega,hos,ht,ho,E,fun c hm=>hb c (fun e=>hi.apart k b hkb (e ▸ hm)),fun c _ hn=>hb c (fun e=>hn (.inl ⟨k,e ▸ hkb⟩)),fun j c hj hjc=>hb c (fun e=>hj ?_),fun _ _=>rfl,fun _ _=>.inr (.inl E),fun _ h=>.inl h⟩,
  ⟨hi.inj,fun j c h=>by rw[hs];exact hi.bnd j c h,hi.apart,fun c h=>by rw[hs];exact hi.mbnd c h⟩⟩
 subst e
 exact hi.inj j k _ hjc hkb
theorem Agu {cs:List Value} {sz n:Nat} (h:∀ i,i<n→∃ u:Value,u.cells.size=sz∧Ones u.cells.toList∧∀ j,j<sz→cs[i * sz+j]? = u.cells[j]?) {p:Nat} (hp:p<n * sz) {v:Value} (hv:cs[p]? = some v):v.oneCell'=true:=by
 have h0:0<sz:=by
  rcases Nat.eq_zero_or_pos sz with rfl | h
  ·simp at hp
  ·exact h
 obtain ⟨u,h1,h2,h3⟩:=h (p / sz) (Nat.div_lt_of_lt_mul (by rw[Nat.mul_comm];exact hp))
 have h4:=h3 (p % sz) (Nat.mod_lt _ h0)
 rw[Nat.mul_comm,Nat.div_add_mod,hv]at h4
 obtain ⟨hl,he⟩:=Array.getElem?_eq_some_iff.1 h4.symm
 refine h2 v ?_
 rw[← he]
 exact Array.getElem_mem_toList hl
theorem Zd {P:Program} (Γ:Ty P) {o:Oper} {s:SS} (q:Nat) {t:TypeId} {ti:TI} {et:TypeId} {sz eb b n cap i j:Nat} {ez:List Value} {x y:Operand} {α:Type} {e:α→SV} {l:List α} {B:Option Addr} {c:Nat}
  (h:o.op=.call ⟨.builtin .append,#[x,y],#[t,t]⟩) (ht:Γ.get t=some ti) (hk:ti.k=.slice et sz eb ez) (hx:ev s x=.val (.slice (some ⟨b,0,none⟩) i cap))
  (hy:ev s y=.val (.slice B (n-j) c)) (hB:B=some (if cap=j then ⟨b,0,none⟩ else ⟨b,j * sz,none⟩)) (hob:s.h q=.pin b n cap sz e l) (hl:l.length=n) (hij:i≤j) (hj:j≤n) :
  Good P o s ⟨.val (.slice (some ⟨b,0,none⟩) (i+(n-j)) cap),[],[(q,.pin b n cap sz e (l.take i++l.drop j))]⟩:=by
 intro κ a w hinv hr ho N Q hN
 have r1:=hr x (by simp[h,Op.operands,Call.operands])
 have r2:=hr y (by simp[h,Op.operands,Call.operands])
 rw[hx]at r1
 rw[hy]at r2
 subst hB
 have hq:=ho q (.inr (by simp[Up.ws]))
 rw[hob]at hq
 obtain ⟨e0,b',cap',cs,T,fr,e1,e2,e3,e4,e5,e6⟩:=hq
 rw[e0]at e1
 cases e1
 obtain ⟨hu,ii,zv,q1,q2,q3,q4,q5⟩:=Ce Γ ht hk
 have hall:∀ i,i<n→∃ u:Value,u.cells.size=sz∧Ones u.cells.toList∧∀ j,j<sz→cs[i * sz+j]? = u.cells[j]?:=fun i hi=>by
  obtain ⟨_,u,_,u2⟩:=e6 i (e l[i]) ⟨by omega,rfl⟩
  exact⟨u,u2⟩
 obtain ⟨news,hnews⟩:∃ news,news=(cs.drop (j * sz)).take ((n-j) * sz):=⟨_,rfl⟩
 have hmul:(n-j) * sz+j * sz=n * sz:=by rw[← Nat.add_mul];congr 1;omega
 have hnc:n * sz≤cap * sz:=Nat.mul_le_mul_right sz e5
 have hijs:i * sz≤j * sz:=Nat.mul_le_mul_right sz hij
 have hnl:news.length=(n-j) * sz:=by rw[hnews,List.length_take,List.length_drop];omega
 have hget:∀ p,p<(n-j) * sz→news[p]? = cs[j * sz+p]?:=fun p hp=>by
  rw[hnews,List.getElem?_take,if_pos hp,List.getElem?_drop]
 have hones:Ones news:=fun v hv=>by
  obtain ⟨p,hp,he⟩:=List.getElem_of_mem hv
  have h1:news[p]? = some v:=by rw[List.getElem?_eq_getElem hp,he]
  rw[hnl]at hp
  rw[hget p hp]at h1
  exact Agu hall qn h1
 obtain ⟨w',f1,f2,f3,f4,f5,f6,f7⟩:=Cz P b (i * sz) T fr news 0 cs w e2 e3 qn hones
 obtain ⟨st,inv⟩:=Qj hinv e0 f3 f4 f5 f6 f7
 have hroom:i+(n-j)≤cap:=by omega
 have hcell:∀ p v,cs[p]? = some v→w.cell? ⟨b,p,none⟩=some v:=fun p v hp=>by
  simp[World.cell?,e2,hp]
 have hc:(Builtin.firstCells sz (n-j) (.slice (some (if cap=j then ⟨b,0,none⟩ else ⟨b,j * sz,none⟩)) (n-j) c)).run P w=.ok news.toArray w:=by
  by_cases hcj:cap=j
  ·have h0:n-j=0:=by omega
   rw[if_pos hcj,h0]
   have h1:news=[]:=by rw[h0]at hnl;simpa using hnl
   rw[h1]
   exact run_firstCells_some (P:=P) w sz 0 ⟨b,0,none⟩ 0 c [] qz (fun j v hj=>by simp at hj)
  ·rw[if_neg hcj]
   refine run_firstCells_some (P:=P) w sz (n-j) ⟨b,j * sz,none⟩ (n-j) c news hnl (fun p v hp=>?_)
   rw[Addr.add_lit]
   have hlt:p<(n-j) * sz:=by
    rw[← hnl];exact(List.getElem?_eq_some_iff.1 hp).1
   rw[hget p hlt]at hp
   exact hcell _ _ hp
 have hrun:(execOp a.eval o).run P w=.ok (.value (.slice (some ⟨b,0,none⟩) (i+(n-j)) cap)) w':=by
  simp[execOp,h,resolve,invoke,builtin,Builtin.append_,r1.val,r2.val,run_underlying hu,sizeOf,typeInfo,q1,q2,Builtin.lenOf,hroom,hc,Addr.add_lit,f1]
 simp only[Oper.wp,hrun,Oper.upon]
 refine hN _ κ w' (st.weaken (fun k hk=>by subst hk;simp[Up.ws])) inv (by simp only[Rd]) (fun p hp=>?_)
 simp only[List.mem_singleton]at hp
 subst hp
 refine⟨e0,b,cap,_,T,fr,e0,f2,by rw[B5];exact e3,by rw[B5];exact e4,e5,?_⟩
 rintro k z ⟨hk0,rfl⟩
 have hset:=Ku cs news (i * sz+0)
 have hlen:(l.take i++l.drop j).length=i+(n-j):=by rw[List.length_append,List.length_take,List.length_drop];omega
 rw[hlen]at hk0
 by_cases hki:k<i
 ·obtain ⟨_,u,u1,u2,u3,u4⟩:=e6 k (e l[k]) ⟨by omega,rfl⟩
  have:(k+1) * sz≤i * sz:=Nat.mul_le_mul_right sz qn
  rw[Nat.add_mul,Nat.one_mul]at this
  refine⟨by omega,u,?_,u2,u3,fun p hp=>?_⟩
  ·rw[List.getElem_append_left (by rw[List.length_take];omega),List.getElem_take]
   exact RdD.keep st.keeps _ _ u1
  ·rw[hset _ qn,if_neg qn,u4 p hp]
 ·obtain ⟨_,u,u1,u2,u3,u4⟩:=e6 (j+(k-i)) (e l[j+(k-i)]) ⟨by omega,rfl⟩
  have hks:k * sz=i * sz+(k-i) * sz:=by rw[← Nat.add_mul];congr 1;omega
  have hjs:(j+(k-i)) * sz=j * sz+(k-i) * sz:=by rw[← Nat.add_mul]
  have:(k-i+1) * sz≤(n-j) * sz:=Nat.mul_le_mul_right sz qn
  rw[Nat.add_mul,Nat.one_mul]at this
  refine⟨by omega,u,?_,u2,u3,fun p hp=>?_⟩
  ·rw[List.getElem_append_right (by rw[List.length_take];omega),List.getElem_drop]
   have hidx:j+(k-(l.take i).length)=j+(k-i):=by rw[List.length_take];omega
   simp only[hidx]
   exact RdD.keep st.keeps _ _ u1
  ·rw[hset _ qn,if_pos qn,← u4 p hp,hjs]
   rw[show k * sz+p-(i * sz+0)=(k-i) * sz+p by omega,hget _ qn]
   congr 1
   omega
theorem Lc {P:Program} (Γ:Ty P) {o:Oper} {s:SS} (q:Nat) {t:TypeId} {ti:TI} {et:TypeId} {sz eb b n cap k m c:Nat} {ez:List Value} {x:Operand} {α:Type} {e:α→SV} {l:List α} {B:Option Addr}
  (h:o.op=.call ⟨.builtin .clear,#[x],#[t]⟩) (ht:Γ.get t=some ti) (hk:ti.k=.slice et sz eb ez) (hez:ez.length=sz) (hz1:∀ v∈ez,v.oneCell'=true) (hx:ev s x=.val (.slice B m c)) (hB:B=some (if cap=k then ⟨b,0,none⟩ else ⟨b,k * sz,none⟩))
  (hob:s.h q=.pin b n cap sz e l) (hkl:k≤l.length) (hm:k+m≤cap) :
  Good P o s ⟨.tup [],[],[(q,.pin b n cap sz e (l.take k))]⟩:=by
 intro κ a w hinv hr ho N Q hN
 have r1:=hr x (by simp[h,Op.operands,Call.operands])
 rw[hx]at r1
 subst hB
 have hq:=ho q (.inr (by simp[Up.ws]))
 rw[hob]at hq
 obtain ⟨e0,b',cap',cs,T,fr,e1,e2,e3,e4,e5,e6⟩:=hq
 rw[e0]at e1
 cases e1
 obtain ⟨hu,ii,zv,q1,q2,q3,q4,q5⟩:=Ce Γ ht hk
 have hzs:zv.cells.size=sz:=by rw[← hez,← q5];simp
 have hlt:(l.take k).length=k:=by rw[List.length_take];omega
 by_cases hm0:m=0
 ·subst hm0
  have hrun:(execOp a.eval o).run P w=.ok (.value (.tuple #[])) w:=by
   simp[execOp,h,resolve,invoke,builtin,Builtin.clear_,r1.val,run_underlying hu]
  simp only[Oper.wp,hrun,Oper.upon]
  refine hN _ κ w (Step.refl _ κ w) hinv (by simp[Rd,RdL]) (fun p hp=>?_)
  simp only[List.mem_singleton]at hp
  subst hp
  refine⟨e0,b,cap,cs,T,fr,e0,e2,e3,e4,e5,?_⟩
  rintro p z ⟨hp0,rfl⟩
  rw[List.getElem_take]
  exact e6 p (e l[p]) ⟨by omega,E⟩
 obtain ⟨m,rfl⟩:∃ p,m=p+1:=⟨m-1,by omega⟩
 rw[if_neg qn]at r1
 obtain ⟨news,hnews⟩:∃ news,news=(Builtin.zeroCells zv.cells (m+1)).toList:=⟨_,rfl⟩
 have hnl:news.length=(m+1) * sz:=by rw[hnews,Array.length_toList,T0,hzs]
 have hones:Ones news:=fun v hv=>by
  rw[hnews,Array.mem_toList_iff]at hv
  refine hz1 v ?_
  rw[← q5]
  simp only[Builtin.zeroCells,Array.mem_map,Array.mem_range]at hv
  obtain ⟨p,hp,rfl⟩:=hv
  have h0:0<zv.cells.size:=by
   rcases Nat.eq_zero_or_pos zv.cells.size with h | h
   ·rw[h]at hp;simp at hp
   ·exact h
  have hlt2:p % zv.cells.size<zv.cells.size:=Nat.mod_lt _ h0
  rw[getElem!_pos zv.cells _ hlt2]
  exact Array.getElem_mem_toList hlt2
 have hmul:k * sz+(m+1) * sz≤cap * sz:=by rw[← Nat.add_mul];exact Nat.mul_le_mul_right sz hm
 obtain ⟨w',f1,f2,f3,f4,f5,f6,f7⟩:=Cz P b (k * sz) T fr news 0 cs w e2 e3 qn hones
 obtain ⟨st,inv⟩:=Qj hinv e0 f3 f4 f5 f6 f7
 have hrun:(execOp a.eval o).run P w=.ok (.value (.tuple #[])) w':=by
  simp[execOp,h,resolve,invoke,builtin,Builtin.clear_,r1.val,run_underlying hu,zeroValue,typeInfo,q1,q4,← hnews,f1]
 simp only[Oper.wp,hrun,Oper.upon]
 refine hN _ κ w' (st.weaken (fun k hk=>by subst hk;simp[Up.ws])) inv (by simp[Rd,RdL]) (fun p hp=>?_)
 simp only[List.mem_singleton]at hp
 subst hp
 refine⟨e0,b,cap,_,T,fr,e0,f2,by rw[B5];exact e3,by rw[B5];exact e4,e5,?_⟩
 rintro p z ⟨hp0,rfl⟩
 have hset:=Ku cs news (k * sz+0)
 obtain ⟨h0,u,u1,u2,u3,u4⟩:=e6 p (e l[p]) ⟨by omega,rfl⟩
 have:(p+1) * sz≤k * sz:=Nat.mul_le_mul_right sz qn
 rw[Nat.add_mul,Nat.one_mul]at this
 refine⟨h0,u,?_,u2,u3,fun j hj=>?_⟩
 ·rw[List.getElem_take]
  exact RdD.keep st.keeps _ _ u1
 ·have hcl:k * sz≤cs.length:=by omega
  rw[hset _ qn,if_neg qn,u4 j hj]
theorem G_dat {C:Cx} {kk:List KI} {s:SS} (i q:Nat) {sz:Nat} {α:Type} {e:α→SV} {l:List α} (h:s.σ i=.sl sz e l) (hl:l≠[])
  (hg:∀ b off cap,l.length≤cap→G C kk ⟨upd s.σ i (.val (.slice (some ⟨b,off,none⟩) l.length cap)),upd s.h q (.dat (.slice (some ⟨b,off,none⟩) l.length cap) sz e l)⟩):G C kk s:=fun κ a w hs=>by
 have h1:=hs.slot i
 rw[h]at h1
 have h1':=h1
 simp only[Rd,RdD]at h1
 rcases h1 with ⟨h2,_⟩ | ⟨b,off,cap,h2,h3,_⟩
 ·exact absurd h2 hl
 ·refine hg b off cap h3 κ a w ⟨hs.defers,hs.size,hs.inv,hs.ctx,fun j=>?_,fun j=>?_⟩
  ·show Rd κ w (upd s.σ i (.val (.slice (some ⟨b,off,none⟩) l.length cap)) j) _
   by_cases hj:j=i
   ·subst hj;rw[Bu];simp only[Rd];exact h2
   ·rw[Cd _ _ hj];exact hs.slot j
  ·show ObOK κ w j (upd s.h q (.dat (.slice (some ⟨b,off,none⟩) l.length cap) sz e l) j)
   by_cases hj:j=q
   ·subst hj;rw[Bu];rw[h2]at h1';exact h1'
   ·rw[Cd _ _ hj];exact hs.obj j
theorem Acr {P:Program} (Γ:Ty P) {o:Oper} {s:SS} {t:TypeId} {ti:TI} {et:TypeId} {sz eb b off n cap hi:Nat} {ez:List Value} {x hx mx:Operand} {k2 k3:IntKind}
  (h:o.op=.slice t x none (some hx) (some mx)) (ht:Γ.get t=some ti) (hk:ti.k=.slice et sz eb ez) (hxe:ev s x=.val (.slice (some ⟨b,off,none⟩) n cap)) (hhi:ev s hx=.val (.int k2 hi)) (hmx:ev s mx=.val (.int k3 hi))
  (h3:hi≤cap):Good P o s ⟨.val (.slice (some ⟨b,off,none⟩) hi hi),[],[]⟩ :=
 Good.pure fun κ a w _ hr _=>by
  have r1:=hr x (by simp[h,Op.operands])
  have r3:=hr hx (by simp[h,Op.operands])
  have r4:=hr mx (by simp[h,Op.operands])
  rw[hxe]at r1
  rw[hhi]at r3
  rw[hmx]at r4
  obtain ⟨hu,i,zv,q1,q2,q3,q4,q5⟩:=Ce Γ ht hk
  have hb:(Instr.sliceBounds true n cap none (some (a.eval hx)) (some (a.eval mx))).run P w=.ok (0,hi,hi) w:=by
   rw[r3.val,r4.val]
   simp[Instr.sliceBounds,Instr.sliceBound,asIntOf,h3]
  refine⟨.slice (some ⟨b,off,none⟩) hi hi,?_,by simp only[Rd]⟩
  by_cases hc:hi=0
  ·subst hc
   simp[execOp,h,r1.val,Instr.sliceAt,Instr.slice,run_underlying hu,hb,sizeOf,typeInfo,q1]
  ·simp[execOp,h,r1.val,Instr.sliceAt,Instr.slice,run_underlying hu,hb,sizeOf,typeInfo,q1,q2,hc,Addr.add_lit]
theorem Acy {P:Program} (Γ:Ty P) {o:Oper} {s:SS} (q:Nat) {t:TypeId} {ti:TI} {et:TypeId} {sz eb b off n cap:Nat} {ez:List Value} {x y:Operand} {α:Type} {e:α→SV} {l l':List α}
  (h:o.op=.call ⟨.builtin .append,#[x,y],#[t,t]⟩) (ht:Γ.get t=some ti) (hk:ti.k=.slice et sz eb ez) (hez:ez.length=sz) (hx:ev s x=.val (.slice (some ⟨b,off,none⟩) n n))
  (hq:s.h q=.dat (.slice (some ⟨b,off,none⟩) l.length cap) sz e l) (hn:n≤l.length) (hy:ev s y=.sl sz e l') (hbytes:(n+l'.length) * eb≤140737488355328) (h63:n+l'.length≤9223372036854775807) :
  Good P o s ⟨.sl sz e (l.take n++l'),[q],[]⟩:=by
 intro κ a w hinv hr ho N Q hN
 have r1:=hr x (by simp[h,Op.operands,Call.operands])
 have r2:=hr y (by simp[h,Op.operands,Call.operands])
 rw[hx]at r1
 rw[hy]at r2
 have hq1:=ho q (.inl qz)
 rw[hq]at hq1
 have hq1:Rd κ w (.sl sz e l) (.slice (some ⟨b,off,none⟩) l.length cap):=hq1
 obtain ⟨hu,ii,zv,q1,q2,q3,q4,q5⟩:=Ce Γ ht hk
 have hzs:zv.cells.size=sz:=by rw[← hez,← q5];simp
 have htl:(l.take n).length=n:=by rw[List.length_take];omega
 have hbase:Rd κ w (.sl sz e (l.take n)) (.slice (some ⟨b,off,none⟩) n n):=by
  simp only[Rd,RdD]at hq1 ⊢
  rcases hq1 with ⟨h0,_⟩ | ⟨b2,off2,cap2,h2,h3,h4,h5,h6⟩
  ·have hn0:n=0:=by rw[h0]at hn;simpa using hn
   subst hn0
   exact .inl ⟨by simp,_,_,E⟩
  ·cases h2
   refine .inr ⟨b,off,n,by rw[htl],by rw[htl];exact Nat.le_refl _,h4,h5,fun i hi=>?_⟩
   obtain ⟨u,h7,h8⟩:=h6 i qn
   exact⟨u,by rw[List.getElem_take];exact h7,h8⟩
 have hrb:=hbase.src
 have hru:=r2.src
 rw[htl]at hrb
 obtain ⟨m,hm⟩:∃ m,l'.length=m:=⟨_,rfl⟩
 rw[hm]at hru hbytes h63
 generalize hve:a.eval y=u at *
 obtain ⟨ad,c,news,hu2,hnl,hn1,hnc,hng⟩:∃ (a:Option Addr) (c:Nat) (news:List Value),u=.slice a m c∧news.length=m * sz∧Ones news∧(∀ W:World,(∀ p:Addr,p.block<w.heap.size→W.cell? p=w.cell? p)→(Builtin.firstCells sz m u).run P W=.ok news.toArray W) ∧
   (∀ j x,rowF e l' j x→j<m∧∃ q:Value,RdD (Own κ) w x q∧q.cells.size=sz∧Ones q.cells.toList∧∀ l,l<sz→news[j * sz+l]? = q.cells[l]?):=by
  rcases hru with ⟨rfl,hno,a,c,rfl⟩ | ⟨b,o,c,news,rfl,h1,h2,h3,h4⟩
  ·refine⟨a,c,[],E,by simp,by simp[Ones],fun W _=>?_,fun j x h=>absurd h (hno j x)⟩
   cases a<;>simp[Builtin.firstCells,loadCells,loadCellsFrom]
  ·refine⟨some ⟨b,o,none⟩,c,news,E,h1,h2,fun W hW=>?_,fun j x hx=>h4 j x hx⟩
   exact run_firstCells_some (P:=P) W sz m ⟨b,o,none⟩ m c news h1 (fun j q hj=>by
    rw[Addr.add_lit]
    have h5:=h3 j q hj
    rw[hW _ (by exact World.block_lt_of_cell? w _ h5),h5])
 subst hu2
 by_cases hm0:m=0
 ·subst hm0
  have hl':l'=[]:=List.eq_nil_of_length_eq_zero hm
  subst hl'
  have hc:=hnc w (fun _ _=>rfl)
  have hnn:news=[]:=by simpa using hnl
  subst hnn
  have hrun:(execOp a.eval o).run P w=.ok (.value (.slice (some ⟨b,off,none⟩) n n)) w:=by
   simp[execOp,h,resolve,invoke,builtin,Builtin.append_,r1.val,hve,run_underlying hu,sizeOf,typeInfo,q1,q2,Builtin.lenOf,hc,storeCells]
  simp only[Oper.wp,hrun,Oper.upon]
  refine hN _ κ w (Step.refl _ κ w) hinv ?_ (fun p hp=>by cases hp)
  rw[List.append_nil]
  exact hbase
 obtain ⟨olds,hol,hof,hfo⟩:∃ olds:List Value,olds.length=n * sz∧(∀ j x,rowF e (l.take n) j x→j<n→∃ q:Value,RdD (Own κ) w x q∧q.cells.size=sz∧Ones q.cells.toList∧∀ l,l<sz→olds[j * sz+l]? = q.cells[l]?) ∧
   (Builtin.firstCells sz n (.slice (some ⟨b,off,none⟩) n n)).run P w.drew=.ok olds.toArray w.drew:=by
  rcases hrb with ⟨rfl,hno,_⟩ | ⟨b2,o2,c2,olds,he,g1,g2,g3,g4⟩
  ·exact⟨[],by simp,fun j x _ hj=>absurd hj qn,run_firstCells_some (P:=P) w.drew sz 0 ⟨b,off,none⟩ 0 0 [] qz (fun j v hj=>by simp at hj)⟩
  ·cases he
   exact⟨olds,g1,fun j x hx _=>(g4 j x hx).2,run_firstCells_some (P:=P) w.drew sz n ⟨b,off,none⟩ n n olds g1 (fun j v hj=>by
    have:=g3 j v hj
    rw[Addr.add_lit];simpa using this)⟩
 have hcap:n+m≤grownCap w (n+m) n et:=grownCap_ge w (n+m) n et
 have h48:¬ (281474976710656<Builtin.nextslicecap (n+m) n * ii.bytes):=by
  have:=growslice_fits (need:=n+m) (old:=n) (bytes:=ii.bytes) qn (by rw[q3];exact hbytes)
  omega
 have h63':¬ (9223372036854775807<(n:Int)+(m:Int)):=by omega
 have hroom:¬ n+m≤n:=by omega
 have hc:=hnc w.drew (fun _ _=>rfl)
 obtain ⟨w',hw'⟩:∃ w',w.drew.alloc (.cells (olds.toArray++news.toArray++Builtin.zeroCells zv.cells (grownCap w (n+m) n et-(n+m))) et)=w':=⟨_,rfl⟩
 have hrun:(execOp a.eval o).run P w=.ok (.value (.slice (some ⟨w.heap.size,0,none⟩) (n+m) (grownCap w (n+m) n et))) w':=by
  rw[← hw']
  simp[execOp,h,resolve,invoke,builtin,Builtin.append_,r1.val,hve,run_underlying hu,sizeOf,typeInfo,zeroValue,q4,q1,q2,Builtin.lenOf,h63',h48,Question.forced,hfo,hc,newRow,grownCap]
  rw[if_neg hroom]
  have ea:∀ Z:Array Value,olds.toArray++(news.toArray++Z)=(olds++news).toArray++Z:=fun Z=>by apply Array.ext';simp
  rw[ea]
 have g0:Grew w w':=by rw[← hw'];exact(Grew.drew w).trans (Grew.alloc _ _)
 obtain ⟨st,inv⟩:=Anw hinv g0
 have hblk:w'.heap[w.heap.size]? = some (.cells (olds++news++(Builtin.zeroCells zv.cells (grownCap w (n+m) n et-(n+m))).toList).toArray et):=by
  rw[← hw']
  have:(w.drew.alloc (.cells (olds.toArray++news.toArray++Builtin.zeroCells zv.cells (grownCap w (n+m) n et-(n+m))) et)).heap[w.heap.size]? = some (.cells (olds.toArray++news.toArray++Builtin.zeroCells zv.cells (grownCap w (n+m) n et-(n+m))) et):=heap_alloc_new w.drew _
  rw[this]
  congr 2
  apply Array.ext'
  simp
 have hsz:w.heap.size<w'.heap.size:=by rw[← hw'];simp
 simp only[Oper.wp,hrun,Oper.upon]
 refine hN _ κ w' (st.weaken (fun _ h=>h.elim)) inv ?_ (fun p hp=>by cases hp)
 simp only[Rd,RdD]
 have hlen:(l.take n++l').length=n+m:=by rw[List.length_append,htl,hm]
 refine .inr ⟨w.heap.size,0,grownCap w (n+m) n et,by rw[hlen],by rw[hlen];exact hcap,?_,hsz,fun j hj=>?_⟩
 ·rintro (⟨k,hk⟩ | hk)
  ·exact Nat.lt_irrefl _ (hinv.bnd k _ hk)
  ·exact Nat.lt_irrefl _ (hinv.mbnd _ hk)
 ·rw[hlen]at hj
  by_cases hjn:j<n
  ·obtain ⟨qv,g1,g2,g3,g4⟩:=hof j (e (l.take n)[j]) ⟨by omega,rfl⟩ hjn
   refine⟨qv,by rw[List.getElem_append_left qn];exact RdD.keep st.keeps _ _ g1,g2,g3,fun p hp=>?_⟩
   have:(j+1) * sz≤n * sz:=Nat.mul_le_mul_right sz qn
   rw[Nat.add_mul,Nat.one_mul]at this
   rw[cell_of_row w' _ _ _ et (0,0) hblk,List.getElem?_toArray,List.append_assoc,List.getElem?_append_left qn,Nat.zero_add]
   exact g4 p hp
  ·obtain ⟨_,qv,g1,g2,g3,g4⟩:=hng (j-n) (e (l'[j-n]'qn)) ⟨by omega,rfl⟩
   refine⟨qv,?_,g2,g3,fun p hp=>?_⟩
   ·rw[List.getElem_append_right qn]
    simp only[htl]
    exact RdD.keep st.keeps _ _ g1
   ·have e1:j * sz=n * sz+(j-n) * sz:=by rw[← Nat.add_mul];congr 1;omega
    have:(j-n+1) * sz≤m * sz:=Nat.mul_le_mul_right sz qn
    rw[Nat.add_mul,Nat.one_mul]at this
    rw[cell_of_row w' _ _ _ et (0,0) hblk,List.getElem?_toArray,List.append_assoc,List.getElem?_append_right qn,List.getElem?_append_left qn,← g4 p hp]
    congr 1
    omega
theorem Yv {P:Program} {o:Oper} {s:SS} (q:Nat) {sz:Nat} {α:Type} {e:α→SV} {l:List α} {v:Value} {x:Operand} (h:o.op=.move x∨o.op=.assign x) (hx:ev s x=.val v) (hq:s.h q=.dat v sz e l):Good P o s ⟨.sl sz e l,[q],[]⟩ :=
 Good.pure fun κ a w _ hr ho=>by
  have hq1:=ho q qz
  rw[hq]at hq1
  have hr1:=hr x (by rcases h with h | h<;>simp[h,Op.operands])
  rw[hx]at hr1
  refine⟨a.eval x,?_,?_⟩
  ·rcases h with h | h<;>simp[execOp,h]
  ·rw[hr1.val];exact hq1
theorem Abu {f g:Nat→Option (Nat × Nat)}:∀ (ps:List (Nat × Value)) (cs:Array Value),(∀ p∈ps,f p.1=g p.1)→Instr.fill f cs ps=Instr.fill g cs ps
 | [],cs,_=>rfl
 | (i,v)::ps,cs,h=>by
  have h1:=h (i,v) qz
  simp only[Instr.fill]
  dsimp only at h1
  rw[h1]
  cases g i with
  | none=>rfl
  | some os =>
   dsimp only
   split
   ·rfl
   ·exact Abu ps _ (fun p hp=>h p (by simp[hp]))
theorem Aig {P:Program} (Γ:Ty P) {o:Oper} {s:SS} {t et:TypeId} {ti:TI} {len esz:Nat} {ps:List (Nat × Operand)} {out:List SV} (h:o.op=.build t ps.toArray) (ht:Γ.get t=some ti) (hk:ti.k=.array et len esz)
  (h1:Yk ti.zero=true) (hps:(ps.all fun p=>Nat.blt p.1 len)=true) (hf:Abv ((List.range len).map fun i=>(i * esz,esz)) (ti.zero.map .val) (ps.map fun p=>(p.1,ev s p.2))=some out):Good P o s ⟨.agg out,[],[]⟩ :=
 Good.pure fun κ a w _ hr _=>by
  obtain ⟨d,info,z,k1,k2,k3,k4,k5,k6⟩:=Γ.ok t ti ht
  obtain ⟨hu,i,q1,q2⟩:=Sn Γ ht hk
  have hops:∀ p∈ps,Rd κ w (ev s p.2) (a.eval p.2):=fun p hp=>hr p.2 (by
   simp only[h,Op.operands]
   simp only[List.mem_toArray,List.mem_map]
   exact⟨p,hp,E⟩)
  obtain ⟨r,r1,r2,r3⟩:=Afp (κ:=κ) (w:=w) (a:=a) ps _ out z.cells (by rw[k6];exact Wx _) (by rw[k6];exact Qx h1) hops hf
  refine⟨.agg r,?_,?_⟩
  ·have hcg:=Abu (f:=fun i=>some (i * esz,esz)) (g:=fun i=>((List.range len).map fun i=>(i * esz,esz))[i]?) (ps.map fun p=>(p.1,a.eval p.2)) z.cells (fun p hp=>by
    obtain ⟨x,hx,rfl⟩:=List.mem_map.1 hp
    have hlt:x.1<len:=Nat.le_of_ble_eq_true (List.all_eq_true.1 hps x hx)
    dsimp only
    rw[List.getElem?_map,List.getElem?_range hlt]
    rfl)
   simp only[execOp,h,Sem.run_bind,Instr.build,zeroValue,typeInfo,run_program,Result.andThen_ok,k3,k5,Sem.run_pure,run_underlying hu,sizeOf,q1,q2,List.map_toArray]
   rw[hcg,r1]
   simp
  ·simp only[Rd]
   exact⟨r.toList,by simp,r3,r2⟩
mutual
def rnb (k d:Nat):SV→SV
 | .ptr j o=>bif Nat.beq j k then .ptr d o else .ptr j o
 | .agg l=>.agg (Aae k d l)
 | .tup l=>.tup (Aae k d l)
 | .ifc t y=>.ifc t (rnb k d y)
 | .clo f g l=>.clo f (Aae k d g) (Aae k d l)
 | y=>y
def Aae (k d:Nat):List SV→List SV
 | []=>[]
 | y::l=>rnb k d y::Aae k d l
end
mutual
theorem Aj0 {κ κ':Ka} {w:World} {K:Nat→Prop} {k d:Nat} (st:Step K κ w κ' w) (hx:∀ o v,Rd κ w (.ptr k o) v→Rd κ' w (.ptr d o) v):∀ (y:SV) (v:Value),Rd κ w y v→Rd κ' w (rnb k d y) v
 | .ptr j o,v,h=>by
  unfold rnb
  by_cases hk:j=k
  ·subst hk;rw[show Nat.beq j j=true from Nat.beq_refl j];exact hx o v h
  ·rw[show Nat.beq j k=false from by cases hb:Nat.beq j k with | false=>rfl | true=>exact absurd (Nat.eq_of_beq_eq_true hb) hk];exact Rd.step st _ _ h
 | .agg l,v,h=>by
  simp only[Rd]at h
  unfold rnb
  simp only[Rd]
  obtain ⟨cs,h1,h2,h3⟩:=h
  exact⟨cs,h1,h2,Of st hx l cs h3⟩
 | .tup l,v,h=>by
  simp only[Rd]at h
  unfold rnb
  simp only[Rd]
  obtain ⟨cs,h1,h3⟩:=h
  exact⟨cs,h1,Of st hx l cs h3⟩
 | .ifc t y,v,h=>by
  simp only[Rd]at h
  unfold rnb
  simp only[Rd]
  obtain ⟨u,h1,h3⟩:=h
  exact⟨u,h1,Aj0 st hx y u h3⟩
 | .clo f g l,v,h=>by
  simp only[Rd]at h
  unfold rnb
  simp only[Rd]
  obtain ⟨fs,cs,h1,h2,h3⟩:=h
  exact⟨fs,cs,h1,Of st hx g fs h2,Of st hx l cs h3⟩
 | .top,v,h=>by unfold rnb;exact Rd.step st _ _ h
 | .val u,v,h=>by unfold rnb;exact Rd.step st _ _ h
 | .sl sz e l,v,h=>by unfold rnb;exact Rd.step st _ _ h
 | .ref sz z o,v,h=>by unfold rnb;exact Rd.step st _ _ h
 | .rpt k sz i o,v,h=>by unfold rnb;exact Rd.step st _ _ h
 | .osl k,v,h=>by unfold rnb;exact Rd.step st _ _ h
theorem Of {κ κ':Ka} {w:World} {K:Nat→Prop} {k d:Nat} (st:Step K κ w κ' w) (hx:∀ o v,Rd κ w (.ptr k o) v→Rd κ' w (.ptr d o) v):∀ (l:List SV) (vs:List Value),RdL κ w l vs→RdL κ' w (Aae k d l) vs
 | [],vs,h=>by
  unfold Aae
  simpa [RdL] using h
 | y::l,vs,h=>by
  simp only[RdL]at h
  unfold Aae
  simp only[RdL]
  obtain ⟨v,r,h1,h2,h3⟩:=h
  exact⟨v,r,h1,Aj0 st hx y v h2,Of st hx l r h3⟩
end
def rnbO (k d:Nat):Ob→Ob
 | .box l=>.box (Aae k d l)
 | o=>o
theorem Ajp {κ:Ka} {w:World} {k d b:Nat} (hi:Inv κ w) (hk:κ k=.blk b) (hd:κ d=.new) :
  Step (fun j=>j=k∨j=d) κ w (Dl (Dl κ k .dead) d (.blk b)) w∧Inv (Dl (Dl κ k .dead) d (.blk b)) w:=by
 have hkd:k≠d:=fun e=>by subst e;rw[hk]at hd;cases hd
 have hkb:(κ k).block? = some b:=by rw[hk];rfl
 have key:∀ j c,((Dl (Dl κ k .dead) d (.blk b)) j).block? = some c→(j=d∧c=b)∨(j≠d∧j≠k∧(κ j).block? = some c):=by
  intro j c h
  by_cases hj:j=d
  ·subst hj;rw[At]at h;exact .inl ⟨rfl,by simpa [Ent.block?] using h.symm⟩
  ·rw[B0 _ _ hj]at h
   by_cases hj2:j=k
   ·subst hj2;rw[At]at h;cases h
   ·rw[B0 _ _ hj2]at h;exact .inr ⟨hj,hj2,h⟩
 refine⟨⟨Nat.le_refl _,E,E,E,E,fun _ _=>rfl,fun _ _ _=>rfl,fun _ _ _ _=>rfl,fun j hj=>?_,?_,?_⟩,⟨?_,?_,?_,fun c h=>hi.mbnd c h⟩⟩
 ·rw[B0 _ _ (fun e=>hj (.inr e)),B0 _ _ (fun e=>hj (.inl e))]
 ·rintro j (rfl | rfl)
  ·exact .inr (.inr (by rw[B0 _ _ hkd,At]))
  ·exact .inl hd
 ·rintro c (⟨j,hj⟩ | hj)
  ·rcases key j c hj with ⟨_,rfl⟩ | ⟨_,_,h⟩
   ·exact .inl (.inl ⟨k,hkb⟩)
   ·exact .inl (.inl ⟨j,h⟩)
  ·exact .inl (.inr hj)
 ·intro i j c h1 h2
  rcases key i c h1 with ⟨a1,a2⟩ | ⟨a1,a2,a3⟩<;>rcases key j c h2 with ⟨b1,b2⟩ | ⟨b1,b2,b3⟩
  ·exact a1.trans b1.symm
  ·subst a2;exact absurd (hi.inj j k _ b3 hkb) b2
  ·subst b2;exact absurd (hi.inj i k _ a3 hkb) a2
  ·exact hi.inj i j c a3 b3
 ·intro j c h
  rcases key j c h with ⟨_,rfl⟩ | ⟨_,_,h⟩
  ·exact hi.bnd k _ hkb
  ·exact hi.bnd j c h
 ·intro j c h
  rcases key j c h with ⟨_,rfl⟩ | ⟨_,_,h⟩
  ·exact hi.apart k _ hkb
  ·exact hi.apart j c h
theorem Ks {C:Cx} {kk:List KI} {s:SS} (k d:Nat) {l:List SV} (h:s.h k=.box l) (hd:s.h d=.fresh) (hkd:k≠d)
  (hg:G C kk ⟨fun i=>rnb k d (s.σ i),upd (fun j=>bif Nat.beq j k then .non else rnbO k d (s.h j)) d (.box (Aae k d l))⟩):G C kk s:=fun κ a w hs=>by
 have hob:=hs.obj k
 rw[h]at hob
 have hnew:κ d=.new:=by have:=hs.obj d;rwa [hd]at this
 obtain ⟨b,cs,T,fr,e1,e2,e3,e4,e5⟩:=hob
 obtain ⟨st,inv⟩:=Ajp hs.inv e1 hnew
 have hne:∀ j,j≠k→j≠d→(Dl (Dl κ k .dead) d (.blk b)) j=κ j:=fun j h1 h2=>by rw[B0 _ _ h2,B0 _ _ h1]
 have hv:∀ o v,Rd κ w (.ptr k o) v→Rd (Dl (Dl κ k .dead) d (.blk b)) w (.ptr d o) v:=fun o v hv=>by
  simp only[Rd,e1]at hv
  simp only[Rd,At]
  exact hv
 refine hg _ a w ⟨hs.defers,hs.size,inv,hs.ctx.step inv st,fun j=>Aj0 st hv _ _ (hs.slot j),fun j=>?_⟩
 show ObOK _ w j (upd (fun j=>bif Nat.beq j k then .non else rnbO k d (s.h j)) d (.box (Aae k d l)) j)
 by_cases hj:j=d
 ·subst hj
  rw[Bu]
  exact⟨b,cs,T,fr,At _ _ _,e2,e3,e4,Of st hv l cs e5⟩
 ·rw[Cd _ _ hj]
  by_cases hj2:j=k
  ·subst hj2;rw[show Nat.beq j j=true from Nat.beq_refl j];trivial
  ·rw[show Nat.beq j k=false from by cases hb:Nat.beq j k with | false=>rfl | true=>exact absurd (Nat.eq_of_beq_eq_true hb) hj2]
   have hb:=ObOK.step st (fun e=>e.elim hj2 hj) _ (hs.obj j)
   have h0:=hs.obj j
   show ObOK _ w j (rnbO k d (s.h j))
   cases hh:s.h j with
   | box m =>
    rw[hh]at h0 hb
    obtain ⟨b2,cs2,T2,fr2,f1,f2,f3,f4,f5⟩:=h0
    exact⟨b2,cs2,T2,fr2,(hne j hj2 hj).trans f1,f2,f3,f4,Of st hv m cs2 f5⟩
   | fresh=>rw[hh]at hb;exact hb
   | non=>rw[hh]at hb;exact hb
   | row sz' e' l'=>rw[hh]at hb;exact hb
   | lit sz' svs=>rw[hh]at hb;exact hb
   | glob sz' x' g'=>rw[hh]at hb;exact hb
   | pin b' n' cap' sz' e' l'=>rw[hh]at hb;exact hb
   | dat v' sz' e' l'=>rw[hh]at hb;exact hb
end Go.Sy
