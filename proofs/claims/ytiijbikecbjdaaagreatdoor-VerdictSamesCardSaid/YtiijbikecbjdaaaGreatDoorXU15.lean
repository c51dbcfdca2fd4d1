/-
  NB0 I11 I31 I32 NB1 I33 NB2: parts of a proof, joined by program.
-/
import Derived.Test.YtiijbikecbjdaaaGreatDoorXU11
import Derived.Test.YtiijbikecbjdaaaGreatDoorXU6
import Derived.Test.YtiijbikecbjdaaaGreatDoorXU7
import Derived.Test.YtiijbikecbjdaaaGreatDoorXU8
import Derived.Test.YtiijbikecbjdaaaGreatDoorXU5
set_option linter.all false
set_option linter.unusedVariables false
set_option linter.unusedSimpArgs false
set_option linter.deprecated false
namespace Go.Sy.YtiijbikecbjdaaaGreatDoor
open Go.Proofs
attribute [local irreducible] Go.Sy.G Go.Sy.DR
set_option maxRecDepth 100000
set_option maxHeartbeats 4000000
theorem Aga (l:List Device) (hl:l.length<2147483648):Sq 136 [.sl 5 Au l] [] (.osl 0) [(0,.row 5 Au l)]:=cT F136 Tryz.ntmps136 λ F hF=>by
 refine fW ?_
 refine Ds E (.inl E) E E E .sl E E ?_
 intro b hb
 cases b
 ·refine fU ?_
  refine Af (Ae Γ.toTy 7 E E E E E (.lit (e:=Au) (l:=[]) E E) .sl y_ (by simp;omega) (by simp;omega)) E E ?_
  refine fU ?_
  exact done E (.cons .tmp .nil) [(0,7)] [(0,.row 5 Au l)] (λ _ h=>h) E E ⟨Y,⟨.inl E,E,Y⟩,E,E⟩
 ·have h0:l=[]:=zU (hb rfl)
  subst h0
  refine fU ?_
  refine B9 2 1000 5 Au E E ?_
  exact done E (.cons .tmp .nil) [(0,1000)] [(0,.row 5 Au [])] (λ _ h=>h) E E ⟨Y,⟨.inl E,E,Y⟩,E,E⟩
theorem Am0 (l:List Link) (hl:l.length<2147483648):Sq 138 [.sl 3 Bw l] [] (.osl 0) [(0,.row 3 Bw l)]:=cT F138 Tryz.ntmps138 λ F hF=>by
 refine fW ?_
 refine Ds E (.inl E) E E E .sl E E ?_
 intro b hb
 cases b
 ·refine fU ?_
  refine Af (Ae Γ.toTy 7 E E E E E (.lit (e:=Bw) (l:=[]) E E) .sl y_ (by simp;omega) (by simp;omega)) E E ?_
  refine fU ?_
  exact done E (.cons .tmp .nil) [(0,7)] [(0,.row 3 Bw l)] (λ _ h=>h) E E ⟨Y,⟨.inl E,E,Y⟩,E,E⟩
 ·have h0:l=[]:=zU (hb rfl)
  subst h0
  refine fU ?_
  refine B9 2 1000 3 Bw E E ?_
  exact done E (.cons .tmp .nil) [(0,1000)] [(0,.row 3 Bw [])] (λ _ h=>h) E E ⟨Y,⟨.inl E,E,Y⟩,E,E⟩
theorem Af9 (l:List Static) (hl:l.length<2147483648):Sq 140 [.sl 4 Az l] [] (.osl 0) [(0,.row 4 Az l)]:=cT F140 Tryz.ntmps140 λ F hF=>by
 refine fW ?_
 refine Ds E (.inl E) E E E .sl E E ?_
 intro b hb
 cases b
 ·refine fU ?_
  refine Af (Ae Γ.toTy 7 E E E E E (.lit (e:=Az) (l:=[]) E E) .sl y_ (by simp;omega) (by simp;omega)) E E ?_
  refine fU ?_
  exact done E (.cons .tmp .nil) [(0,7)] [(0,.row 4 Az l)] (λ _ h=>h) E E ⟨Y,⟨.inl E,E,Y⟩,E,E⟩
 ·have h0:l=[]:=zU (hb rfl)
  subst h0
  refine fU ?_
  refine B9 2 1000 4 Az E E ?_
  exact done E (.cons .tmp .nil) [(0,1000)] [(0,.row 4 Az [])] (λ _ h=>h) E E ⟨Y,⟨.inl E,E,Y⟩,E,E⟩
theorem Aqo (l:List Irb) (hl:l.length<2147483648):Sq 143 [.sl 5 B3 l] [] (.osl 0) [(0,.row 5 B3 l)]:=cT F143 Tryz.ntmps143 λ F hF=>by
 refine fW ?_
 refine Ds E (.inl E) E E E .sl E E ?_
 intro b hb
 cases b
 ·refine fU ?_
  refine Af (Ae Γ.toTy 7 E E E E E (.lit (e:=B3) (l:=[]) E E) .sl y_ (by simp;omega) (by simp;omega)) E E ?_
  refine fU ?_
  exact done E (.cons .tmp .nil) [(0,7)] [(0,.row 5 B3 l)] (λ _ h=>h) E E ⟨Y,⟨.inl E,E,Y⟩,E,E⟩
 ·have h0:l=[]:=zU (hb rfl)
  subst h0
  refine fU ?_
  refine B9 2 1000 5 B3 E E ?_
  exact done E (.cons .tmp .nil) [(0,1000)] [(0,.row 5 B3 [])] (λ _ h=>h) E E ⟨Y,⟨.inl E,E,Y⟩,E,E⟩
theorem Qm (n:Net) (hn:n.Fin) :
  Sq 79 [Al n] [] (.agg [.osl 0,.osl 1,.osl 2,.osl 3,.osl 4,.osl 5,.osl 6,.osl 7]) [(0,.row 5 Au n.devices),(1,.row 7 A3 n.ports),(2,.row 3 Bw n.links),(3,.row 6 Ap n.domains),(4,.row 4 Az n.statics),(5,.row 4 Be n.floods),(6,.row 5 Ca n.vrfs),(7,.row 5 B3 n.irbs)]:=cT F79 Tryz.ntmps79 λ F hF=>by
 have h1:n.devices.length<2147483648∧n.ports.length<2147483648∧n.links.length<2147483648∧n.domains.length<2147483648∧n.statics.length<2147483648∧n.floods.length<2147483648∧n.vrfs.length<2147483648∧n.irbs.length<2147483648:=⟨hn.devices,hn.ports,hn.links,hn.domains,hn.statics,hn.floods,hn.vrfs,hn.irbs⟩
 have h2:(∀ p∈n.ports,p.tagged.length<2147483648)∧(∀ p∈n.domains,p.peers.length<2147483648)∧(∀ p∈n.floods,p.addrs.length<2147483648)∧(∀ p∈n.vrfs,p.imports.length<2147483648∧p.exports.length<2147483648):=⟨hn.tagged,hn.peers,hn.addrs,λ v hv=>⟨hn.imports v hv,hn.exports v hv⟩⟩
 refine fW ?_
 refine Br (Ad [(0,11)] E F136 (Aga n.devices h1.1) E Y E ⟨.inr E,Y⟩) z_ E ?_
 refine fU ?_
 refine Br (Ad [(0,14)] E F137 (Aey n.ports h1.2.1) E Y E ⟨.inr E,Y⟩) z_ E ?_
 refine fU ?_
 refine Br (Ad [(0,17)] E F138 (Am0 n.links h1.2.2.1) E Y E ⟨.inr E,Y⟩) z_ E ?_
 refine fU ?_
 refine Br (Ad [(0,20)] E F139 (Ym n.domains h1.2.2.2.1) E Y E ⟨.inr E,Y⟩) z_ E ?_
 refine fU ?_
 refine Br (Ad [(0,23)] E F140 (Af9 n.statics h1.2.2.2.2.1) E Y E ⟨.inr E,Y⟩) z_ E ?_
 refine fU ?_
 refine Br (Ad [(0,26)] E F141 (Aa5 n.floods h1.2.2.2.2.2.1) E Y E ⟨.inr E,Y⟩) z_ E ?_
 refine fU ?_
 refine Br (Ad [(0,29)] E F142 (Ahv n.vrfs h1.2.2.2.2.2.2.1) E Y E ⟨.inr E,Y⟩) z_ E ?_
 refine fU ?_
 refine Br (Ad [(0,32)] E F143 (Aqo n.irbs h1.2.2.2.2.2.2.2) E Y E ⟨.inr E,Y⟩) z_ E ?_
 refine fU ?_
 refine⟨z_,?_⟩
 refine fW ?_
 refine A9 n.ports.length (λ j=>[(2,.ptr 2 0),(3,.ptr 3 0),(36,Aa n.ports.length),(37,Aa j)]) (λ _=>[(2,.box [.val (.slice none 0 0),.val (.slice none 0 0),.val (.slice none 0 0),.val (.slice none 0 0),.val (.slice none 0 0),.val (.slice none 0 0),.val (.slice none 0 0),.val (.slice none 0 0)]),(3,.box [.osl 11,.osl 14,.osl 17,.osl 20,.osl 23,.osl 26,.osl 29,.osl 32]),(11,.row 5 Au n.devices),(14,.row 7 A3 n.ports),(17,.row 3 Bw n.links),(20,.row 6 Ap n.domains),(23,.row 4 Az n.statics),(26,.row 4 Be n.floods),(29,.row 5 Ca n.vrfs),(32,.row 5 B3 n.irbs)]) []
  ⟨⟨rfl,rfl,rfl,rfl,rfl,rfl,rfl,rfl,trivial⟩,⟨.inl rfl,rfl,.inl rfl,rfl,.inl rfl,rfl,.inl rfl,rfl,.inl rfl,rfl,.inl rfl,rfl,.inl rfl,rfl,.inl rfl,rfl,.inl rfl,rfl,.inl rfl,rfl,trivial⟩,rfl,rfl⟩ ?_
 intro j hj
 refine fU ?_
 constructor<;>intro h
 ·have hlt:j<n.ports.length:=by simpa using h
  obtain ⟨p,hp⟩:∃ p,n.ports[(j:Int).toNat]'q_=p:=⟨_,rfl⟩
  have hne:n.ports≠[]:=λ e=>by rw[e]at hlt;cases hlt
  have hset:n.ports.set (j:Int).toNat p=n.ports:=by rw[← hp];exact wN _
  have hpl:=h2.1 p (by rw[← hp];exact zJ _)
  refine fU ?_
  refine⟨by omega,by show _<n.ports.length;omega,?_⟩
  refine fW ?_
  refine⟨hne,?_⟩
  refine fW ?_
  refine⟨E,by omega,?_⟩
  rw[hp]
  refine fW ?_
  refine cD (Ec p.tagged hpl) F144 ?_
  refine fU ?_
  refine⟨by omega,by show _<n.ports.length;omega,?_⟩
  refine fW ?_
  refine⟨hne,?_⟩
  refine fW ?_
  refine⟨E,by omega,p,(by rw[hp];rfl),(by rw[hp];rfl),?_⟩
  refine fW ?_
  refine⟨z_,?_⟩
  refine fW ?_
  refine iL ?_
  refine fW ?_
  exact A2 [] hlt ⟨⟨E,E,E,E,E,E,E,E,Y⟩,⟨.inl E,E,.inl E,E,.inl E,E,.inl (zG (Ob.row 7 A3) hset.symm),E,.inl E,E,.inl E,E,.inl E,E,.inl E,E,.inl E,E,.inl E,E,Y⟩,E,E⟩
 ·refine fU ?_
  refine A9 n.domains.length (λ j=>[(2,.ptr 2 0),(3,.ptr 3 0),(55,Aa n.domains.length),(56,Aa j)]) (λ _=>[(2,.box [.val (.slice none 0 0),.val (.slice none 0 0),.val (.slice none 0 0),.val (.slice none 0 0),.val (.slice none 0 0),.val (.slice none 0 0),.val (.slice none 0 0),.val (.slice none 0 0)]),(3,.box [.osl 11,.osl 14,.osl 17,.osl 20,.osl 23,.osl 26,.osl 29,.osl 32]),(11,.row 5 Au n.devices),(14,.row 7 A3 n.ports),(17,.row 3 Bw n.links),(20,.row 6 Ap n.domains),(23,.row 4 Az n.statics),(26,.row 4 Be n.floods),(29,.row 5 Ca n.vrfs),(32,.row 5 B3 n.irbs)]) []
   ⟨⟨rfl,rfl,rfl,rfl,rfl,rfl,rfl,rfl,trivial⟩,⟨.inl rfl,rfl,.inl rfl,rfl,.inl rfl,rfl,.inl rfl,rfl,.inl rfl,rfl,.inl rfl,rfl,.inl rfl,rfl,.inl rfl,rfl,.inl rfl,rfl,.inl rfl,rfl,trivial⟩,rfl,rfl⟩ ?_
  intro j hj
  refine fU ?_
  constructor<;>intro h
  ·have hlt:j<n.domains.length:=by simpa using h
   obtain ⟨p,hp⟩:∃ p,n.domains[(j:Int).toNat]'q_=p:=⟨_,rfl⟩
   have hne:n.domains≠[]:=λ e=>by rw[e]at hlt;cases hlt
   have hset:n.domains.set (j:Int).toNat p=n.domains:=by rw[← hp];exact wN _
   have hpl:=h2.2.1 p (by rw[← hp];exact zJ _)
   refine fU ?_
   refine⟨by omega,by show _<n.domains.length;omega,?_⟩
   refine fW ?_
   refine⟨hne,?_⟩
   refine fW ?_
   refine⟨E,by omega,?_⟩
   rw[hp]
   refine fW ?_
   refine cD (Ec p.peers hpl) F144 ?_
   refine fU ?_
   refine⟨by omega,by show _<n.domains.length;omega,?_⟩
   refine fW ?_
   refine⟨hne,?_⟩
   refine fW ?_
   refine⟨E,by omega,p,(by rw[hp];rfl),(by rw[hp];rfl),?_⟩
   refine fW ?_
   refine⟨z_,?_⟩
   refine fW ?_
   refine iL ?_
   refine fW ?_
   exact A2 [] hlt ⟨⟨E,E,E,E,E,E,E,E,Y⟩,⟨.inl E,E,.inl E,E,.inl E,E,.inl E,E,.inl E,E,.inl (zG (Ob.row 6 Ap) hset.symm),E,.inl E,E,.inl E,E,.inl E,E,.inl E,E,Y⟩,E,E⟩
  ·refine fU ?_
   refine A9 n.floods.length (λ j=>[(2,.ptr 2 0),(3,.ptr 3 0),(74,Aa n.floods.length),(75,Aa j)]) (λ _=>[(2,.box [.val (.slice none 0 0),.val (.slice none 0 0),.val (.slice none 0 0),.val (.slice none 0 0),.val (.slice none 0 0),.val (.slice none 0 0),.val (.slice none 0 0),.val (.slice none 0 0)]),(3,.box [.osl 11,.osl 14,.osl 17,.osl 20,.osl 23,.osl 26,.osl 29,.osl 32]),(11,.row 5 Au n.devices),(14,.row 7 A3 n.ports),(17,.row 3 Bw n.links),(20,.row 6 Ap n.domains),(23,.row 4 Az n.statics),(26,.row 4 Be n.floods),(29,.row 5 Ca n.vrfs),(32,.row 5 B3 n.irbs)]) []
    ⟨⟨rfl,rfl,rfl,rfl,rfl,rfl,rfl,rfl,trivial⟩,⟨.inl rfl,rfl,.inl rfl,rfl,.inl rfl,rfl,.inl rfl,rfl,.inl rfl,rfl,.inl rfl,rfl,.inl rfl,rfl,.inl rfl,rfl,.inl rfl,rfl,.inl rfl,rfl,trivial⟩,rfl,rfl⟩ ?_
   intro j hj
   refine fU ?_
   constructor<;>intro h
   ·have hlt:j<n.floods.length:=by simpa using h
    obtain ⟨p,hp⟩:∃ p,n.floods[(j:Int).toNat]'q_=p:=⟨_,rfl⟩
    have hne:n.floods≠[]:=λ e=>by rw[e]at hlt;cases hlt
    have hset:n.floods.set (j:Int).toNat p=n.floods:=by rw[← hp];exact wN _
    have hpl:=h2.2.2.1 p (by rw[← hp];exact zJ _)
    refine fU ?_
    refine⟨by omega,by show _<n.floods.length;omega,?_⟩
    refine fW ?_
    refine⟨hne,?_⟩
    refine fW ?_
    refine⟨E,by omega,?_⟩
    rw[hp]
    refine fW ?_
    refine cD (Zx p.addrs hpl) F145 ?_
    refine fU ?_
    refine⟨by omega,by show _<n.floods.length;omega,?_⟩
    refine fW ?_
    refine⟨hne,?_⟩
    refine fW ?_
    refine⟨E,by omega,p,(by rw[hp];rfl),(by rw[hp];rfl),?_⟩
    refine fW ?_
    refine⟨z_,?_⟩
    refine fW ?_
    refine iL ?_
    refine fW ?_
    exact A2 [] hlt ⟨⟨E,E,E,E,E,E,E,E,Y⟩,⟨.inl E,E,.inl E,E,.inl E,E,.inl E,E,.inl E,E,.inl E,E,.inl E,E,.inl (zG (Ob.row 4 Be) hset.symm),E,.inl E,E,.inl E,E,Y⟩,E,E⟩
   ·refine fU ?_
    refine A9 n.vrfs.length (λ j=>[(2,.ptr 2 0),(3,.ptr 3 0),(93,Aa n.vrfs.length),(94,Aa j)]) (λ _=>[(2,.box [.val (.slice none 0 0),.val (.slice none 0 0),.val (.slice none 0 0),.val (.slice none 0 0),.val (.slice none 0 0),.val (.slice none 0 0),.val (.slice none 0 0),.val (.slice none 0 0)]),(3,.box [.osl 11,.osl 14,.osl 17,.osl 20,.osl 23,.osl 26,.osl 29,.osl 32]),(11,.row 5 Au n.devices),(14,.row 7 A3 n.ports),(17,.row 3 Bw n.links),(20,.row 6 Ap n.domains),(23,.row 4 Az n.statics),(26,.row 4 Be n.floods),(29,.row 5 Ca n.vrfs),(32,.row 5 B3 n.irbs)]) []
     ⟨⟨rfl,rfl,rfl,rfl,rfl,rfl,rfl,rfl,trivial⟩,⟨.inl rfl,rfl,.inl rfl,rfl,.inl rfl,rfl,.inl rfl,rfl,.inl rfl,rfl,.inl rfl,rfl,.inl rfl,rfl,.inl rfl,rfl,.inl rfl,rfl,.inl rfl,rfl,trivial⟩,rfl,rfl⟩ ?_
    intro j hj
    refine fU ?_
    constructor<;>intro h
    ·have hlt:j<n.vrfs.length:=by simpa using h
     obtain ⟨p,hp⟩:∃ p,n.vrfs[(j:Int).toNat]'q_=p:=⟨_,rfl⟩
     have hne:n.vrfs≠[]:=λ e=>by rw[e]at hlt;cases hlt
     have hset:n.vrfs.set (j:Int).toNat p=n.vrfs:=by rw[← hp];exact wN _
     have hpl:=h2.2.2.2 p (by rw[← hp];exact zJ _)
     refine fU ?_
     have hne2:n.vrfs.set (j:Int).toNat p≠[]:=by rw[hset];exact hne
     have hp2:(n.vrfs.set (j:Int).toNat p)[(j:Int).toNat]'(by rw[hset];omega)=p:=by simp
     have hset2:(n.vrfs.set (j:Int).toNat p).set (j:Int).toNat p=n.vrfs:=by rw[hset,hset]
     refine⟨by omega,by show _<n.vrfs.length;omega,?_⟩
     refine fW ?_
     refine Br (Cv E (.inr (.inr (.inr ⟨29,5,_,0,E,λ κ w h=>Iz hne h,E⟩)))) z_ E ?_
     refine fU ?_
     refine⟨hne,?_⟩
     refine fW ?_
     refine⟨E,by omega,?_⟩
     rw[hp]
     refine fW ?_
     refine cD (Ec p.imports hpl.1) F144 ?_
     refine fU ?_
     refine Br (Cv E (.inr (.inr (.inr ⟨29,5,_,0,E,λ κ w h=>Iz hne h,E⟩)))) z_ E ?_
     refine fU ?_
     refine⟨hne,?_⟩
     refine fW ?_
     refine⟨E,by omega,?_⟩
     rw[hp]
     refine fW ?_
     refine cD (Ec p.exports hpl.2) F144 ?_
     refine fU ?_
     refine Br (Cv E (.inr (.inr (.inr ⟨29,5,_,0,E,λ κ w h=>Iz hne h,E⟩)))) z_ E ?_
     refine fU ?_
     refine⟨hne,?_⟩
     refine fW ?_
     refine⟨E,by omega,p,(by rw[hp];rfl),(by rw[hp];rfl),?_⟩
     refine fW ?_
     refine Br (Cv E (.inr (.inr (.inr ⟨29,5,_,0,E,λ κ w h=>Iz hne2 h,E⟩)))) z_ E ?_
     refine fU ?_
     refine⟨hne2,?_⟩
     refine fW ?_
     refine⟨E,by rw[hset];omega,p,(by rw[hp2];rfl),(by rw[hp2];rfl),?_⟩
     refine fW ?_
     refine⟨z_,?_⟩
     refine fW ?_
     refine iL ?_
     refine fW ?_
     exact A2 [] hlt ⟨⟨E,E,E,E,E,E,E,E,Y⟩,⟨.inl E,E,.inl E,E,.inl E,E,.inl E,E,.inl E,E,.inl E,E,.inl E,E,.inl E,E,.inl (zG (Ob.row 5 Ca) hset2.symm),E,.inl E,E,Y⟩,E,E⟩
    ·refine fU ?_
     exact done E (.cons (.cell E E E E) .nil) [(0,11),(1,14),(2,17),(3,20),(4,23),(5,26),(6,29),(7,32)] [(0,.row 5 Au n.devices),(1,.row 7 A3 n.ports),(2,.row 3 Bw n.links),(3,.row 6 Ap n.domains),(4,.row 4 Az n.statics),(5,.row 4 Be n.floods),(6,.row 5 Ca n.vrfs),(7,.row 5 B3 n.irbs)] (λ _ h=>h) E E ⟨Y,⟨.inl E,E,.inl E,E,.inl E,E,.inl E,E,.inl E,E,.inl E,E,.inl E,E,.inl E,E,Y⟩,E,E⟩
structure LineFin (l:LineM):Prop where
 t:l.tagged.length≤100000
 i:l.imports.length≤100000
 e:l.exports.length≤100000
 a:l.addrs.length≤100000
theorem Ks (l m:List Int) (hl:l.length≤1000000) (hm1:m.length≤1000000):Sp 391 [.sl 1 Aa l,.sl 1 Aa m] (Ab (l == m)):=cT F391 Tryz.ntmps391 λ F hF=>by
 by_cases hlen:l.length=m.length
 rotate_left
 ·have hr:(l == m)=false:=by
   rw[zL];intro e;exact hlen (by rw[e])
  have f0:((l.length:Int) != (m.length:Int))=true:=by rw[yQ];omega
  rw[hr]
  refine T ?_
  exact D
 have f0:((l.length:Int) != (m.length:Int))=false:=by rw[bne_eq_false_iff_eq];omega
 refine T ?_
 refine A5 l.length (λ j=>l.take j=m.take j) (λ j=>[(0,.sl 1 Aa l),(1,.sl 1 Aa m),(12,Aa l.length),(13,Aa j)]) (λ _=>[]) [] E U ?_
 intro j hj hI
 refine T ?_
 constructor<;>intro h
 ·have hlt:j<l.length:=qA h
  have hlm:j<m.length:=by omega
  have hlt0:((j:Nat):Int).toNat<l.length:=hlt
  have hlm0:((j:Nat):Int).toNat<m.length:=hlm
  clear h
  by_cases he:l[j]=m[j]
  ·have f1:(l[((j:Nat):Int).toNat]'hlt0 != m[((j:Nat):Int).toNat]'hlm0)=false:=by rw[bne_eq_false_iff_eq];exact he
   refine T ?_
   refine A4 [] hI q_ ?_ U
   rw[zW hlt,zW hlm,hI,he]
  ·have f1:(l[((j:Nat):Int).toNat]'hlt0 != m[((j:Nat):Int).toNat]'hlm0)=true:=by rw[yQ];exact he
   have hr:(l == m)=false:=by
    rw[zL];intro e;subst e;exact he rfl
   rw[hr]
   refine T ?_
   exact D
 ·have hje:j=l.length:=qB h
  subst hje
  have hr:(l == m)=true:=by
   rw[yF]
   rw[yG,hlen,yG]at hI
   exact hI
  rw[hr]
  clear h
  refine T ?_
  exact D
theorem Abq (l m:List Int) (hl:l.length≤1000000) (hm1:m.length≤1000000):Sp 392 [.sl 1 A6 l,.sl 1 A6 m] (Ab (l == m)):=cT F392 Tryz.ntmps392 λ F hF=>by
 by_cases hlen:l.length=m.length
 rotate_left
 ·have hr:(l == m)=false:=by
   rw[zL];intro e;exact hlen (by rw[e])
  have f0:((l.length:Int) != (m.length:Int))=true:=by rw[yQ];omega
  rw[hr]
  refine T ?_
  exact D
 have f0:((l.length:Int) != (m.length:Int))=false:=by rw[bne_eq_false_iff_eq];omega
 refine T ?_
 refine A5 l.length (λ j=>l.take j=m.take j) (λ j=>[(0,.sl 1 A6 l),(1,.sl 1 A6 m),(12,Aa l.length),(13,Aa j)]) (λ _=>[]) [] E U ?_
 intro j hj hI
 refine T ?_
 constructor<;>intro h
 ·have hlt:j<l.length:=qA h
  have hlm:j<m.length:=by omega
  have hlt0:((j:Nat):Int).toNat<l.length:=hlt
  have hlm0:((j:Nat):Int).toNat<m.length:=hlm
  clear h
  by_cases he:l[j]=m[j]
  ·have f1:(l[((j:Nat):Int).toNat]'hlt0 != m[((j:Nat):Int).toNat]'hlm0)=false:=by rw[bne_eq_false_iff_eq];exact he
   refine T ?_
   refine A4 [] hI q_ ?_ U
   rw[zW hlt,zW hlm,hI,he]
  ·have f1:(l[((j:Nat):Int).toNat]'hlt0 != m[((j:Nat):Int).toNat]'hlm0)=true:=by rw[yQ];exact he
   have hr:(l == m)=false:=by
    rw[zL];intro e;subst e;exact he rfl
   rw[hr]
   refine T ?_
   exact D
 ·have hje:j=l.length:=qB h
  subst hje
  have hr:(l == m)=true:=by
   rw[yF]
   rw[yG,hlen,yG]at hI
   exact hI
  rw[hr]
  clear h
  refine T ?_
  exact D
theorem Asx (a b:LineM) (ha:LineFin a) (hb:LineFin b):Sp 368 [A0 a,A0 b] (Ab (Ld a b)):=cT F368 Tryz.ntmps368 λ F hF=>by
 have ht:=ha.t;have hi:=ha.i;have he:=ha.e;have haa:=ha.a
 have ht2:=hb.t;have hi2:=hb.i;have he2:=hb.e;have haa2:=hb.a
 have q0:=Ks a.tagged b.tagged q_ q_
 have q1:=Ks a.imports b.imports q_ q_
 have q2:=Ks a.exports b.exports q_ q_
 have q3:=Abq a.addrs b.addrs q_ q_
 rw[Ld]
 cases h_row:(a.row == b.row)
 ·rw[yA]
  refine T ?_
  exact D
 rw[zZ]
 cases h_kind:(a.kind == b.kind)
 ·rw[yA]
  refine T ?_
  exact D
 rw[zZ]
 cases h_dev:(a.dev == b.dev)
 ·rw[yA]
  refine T ?_
  exact D
 rw[zZ]
 cases h_port:(a.port == b.port)
 ·rw[yA]
  refine T ?_
  exact D
 rw[zZ]
 cases h_peer:(a.peer == b.peer)
 ·rw[yA]
  refine T ?_
  exact D
 rw[zZ]
 cases h_far:(a.far == b.far)
 ·rw[yA]
  refine T ?_
  exact D
 rw[zZ]
 cases h_name:(a.name == b.name)
 ·rw[yA]
  refine T ?_
  exact D
 rw[zZ]
 cases h_mac:(a.mac == b.mac)
 ·rw[yA]
  refine T ?_
  exact D
 rw[zZ]
 cases h_addr:(a.addr == b.addr)
 ·rw[yA]
  refine T ?_
  exact D
 rw[zZ]
 cases h_bits:(a.bits == b.bits)
 ·rw[yA]
  refine T ?_
  exact D
 rw[zZ]
 cases h_vlan:(a.vlan == b.vlan)
 ·rw[yA]
  refine T ?_
  exact D
 rw[zZ]
 cases h_num:(a.num == b.num)
 ·rw[yA]
  refine T ?_
  exact D
 rw[zZ]
 cases h_cost:(a.cost == b.cost)
 ·rw[yA]
  refine T ?_
  exact D
 rw[zZ]
 cases h_tagged:(a.tagged == b.tagged)
 ·rw[h_tagged]at q0
  rw[yA]
  refine T ?_
  refine C q0 F391 ?_
  exact D
 rw[h_tagged]at q0
 rw[zZ]
 cases h_imports:(a.imports == b.imports)
 ·rw[h_imports]at q1
  rw[yA]
  refine T ?_
  refine C q0 F391 ?_
  refine C q1 F391 ?_
  exact D
 rw[h_imports]at q1
 rw[zZ]
 cases h_exports:(a.exports == b.exports)
 ·rw[h_exports]at q2
  rw[yA]
  refine T ?_
  refine C q0 F391 ?_
  refine C q1 F391 ?_
  refine C q2 F391 ?_
  exact D
 rw[h_exports]at q2
 rw[zZ]
 cases h_addrs:(a.addrs == b.addrs)
 ·rw[h_addrs]at q3
  skip
  refine T ?_
  refine C q0 F391 ?_
  refine C q1 F391 ?_
  refine C q2 F391 ?_
  refine C q3 F392 ?_
  exact D
 rw[h_addrs]at q3
 refine T ?_
 refine C q0 F391 ?_
 refine C q1 F391 ?_
 refine C q2 F391 ?_
 refine C q3 F392 ?_
 exact D
theorem Ew (n lo hi:Int):Sp 388 [Aa n,Aa lo,Aa hi] (Ab (Cg n lo hi)):=cT F388 Tryz.ntmps388 λ F hF=>by
 rw[Cg]
 by_cases h1:lo≤n
 ·have f1:decide (n≥lo)=true:=zR h1
  rw[zR h1,zZ]
  refine T ?_
  exact D
 ·have f1:decide (n≥lo)=false:=zI h1
  rw[zI h1,yA]
  refine T ?_
  exact D
theorem Zb (l:List Int) (most:Int) (hl:l.length≤100000):Sp 389 [.sl 1 Aa l,Aa most] (Ab (D5 l most)):=cT F389 Tryz.ntmps389 λ F hF=>by
 have q:=Adk l 1 most (by simp only[Ak];omega)
 rw[D5,Ac3]
 by_cases h0:l.length=0
 ·rw[zR h0,tN]
  have f0:((l.length:Int) == 0)=true:=by rw[h0];rfl
  refine T ?_
  exact D
 ·rw[zI h0,uP]
  have f0:((l.length:Int) == 0)=false:=by rw[zL];omega
  refine T ?_
  refine C q F120 ?_
  exact D
def Tt (l:List Int) (i:Nat) (x:Int):Bool:=decide (x≠0) && (i == 0 || decide (l.getD (i-1) 0<x))
theorem Aqv (l:List Int):J4 l=(Ho (Tt l) l && (decide (0<l.length) && decide (l.length≤16))):=by
 have e:(List.range l.length).all (λ i=>decide (l.getD i 0≠0) && (i == 0 || decide (l.getD (i-1) 0<l.getD i 0)))=Ho (Tt l) l:=by
  rw[wA,yT,allB_iff]
  constructor
  ·intro h i hi
   have:=h i (xM.2 hi)
   rw[show l.getD i 0=l[i] by rw[xR,zO hi];rfl]at this
   exact this
  ·intro h i hi
   have hi:=xM.1 hi
   rw[show l.getD i 0=l[i] by rw[xR,zO hi];rfl]
   exact h i hi
 rw[J4,e]
theorem Aof (l:List Int) (hl:l.length≤100000):Sp 390 [.sl 1 A6 l] (Ab (J4 l)):=cT F390 Tryz.ntmps390 λ F hF=>by
 have hres:=Aqv l
 generalize J4 l=r at *
 refine T ?_
 refine A5 l.length (λ j=>Hc (Tt l) l j) (λ j=>[(0,.sl 1 A6 l),(5,.sl 1 A6 l),(6,Aa l.length),(7,Aa j)]) (λ _=>[]) [] (Bj _ _) U ?_
 intro j hj hI
 refine T ?_
 constructor<;>intro h
 ·have hlt:j<l.length:=qA h
  have hlt0:((j:Nat):Int).toNat<l.length:=hlt
  have hno:=λ h=>C1 (p:=Tt l) hlt h
  have hnx:=λ h=>Bh (p:=Tt l) hI hlt h
  clear h
  by_cases h1:l[j]=0
  ·have f1:(l[((j:Nat):Int).toNat]'hlt0 == 0)=true:=yF.2 h1
   rw[hno (by simp[Tt,h1]),yA]at hres
   subst hres
   refine T ?_
   exact D
  ·have f1:(l[((j:Nat):Int).toNat]'hlt0 == 0)=false:=zL.2 h1
   by_cases h2:j=0
   ·subst h2
    refine T ?_
    exact A4 [] hI q_ (hnx (by simp[Tt,h1])) U
   ·have f2:decide ((j:Int)>0)=true:=zR q_
    have hk:((j:Int)-1).toNat<l.length:=by omega
    have hg:l.getD (j-1) 0=l[((j:Int)-1).toNat]'hk:=by
     rw[xR,zO (by omega:j-1<l.length)]
     have:((j:Int)-1).toNat=j-1:=by omega
     simp only[this]
     rfl
    have hx:Tt l j l[j]=(decide (l[j]≠0) && (j == 0 || decide (l.getD (j-1) 0<l[j]))):=rfl
    rw[hg]at hx
    by_cases h3:l[((j:Int)-1).toNat]'hk<l[j]
    ·have f3:decide (l[((j:Int)-1).toNat]'hk≥l[((j:Nat):Int).toNat]'hlt0)=false:=zI (by show ¬ _≥l[j];omega)
     refine T ?_
     exact A4 [] hI q_ (hnx (by rw[hx,zR h1,zR h3,Bool.or_true];rfl)) U
    ·have f3:decide (l[((j:Int)-1).toNat]'hk≥l[((j:Nat):Int).toNat]'hlt0)=true:=zR (by show _≥l[j];omega)
     rw[hno (by rw[hx,zI h3,zL.2 h2];simp),yA]at hres
     subst hres
     refine T ?_
     exact D
 ·have hje:j=l.length:=qB h
  subst hje
  rw[Er hI (yC _),zZ]at hres
  subst hres
  clear h
  by_cases h0:0<l.length
  ·rw[zR h0,zZ]
   have f0:decide ((l.length:Int)>0)=true:=zR q_
   refine T ?_
   refine Aq E (.cons .tmp .nil) (zG Ab ?_) E
   exact decide_eq_decide.2 q_
  ·rw[zI h0,yA]
   have f0:decide ((l.length:Int)>0)=false:=zI q_
   refine T ?_
   exact D
end Go.Sy.YtiijbikecbjdaaaGreatDoor
namespace Go.Sy.YtiijbikecbjdaaaGreatDoor
open Go.Proofs
attribute [local irreducible] Go.Sy.G Go.Sy.DR
set_option maxRecDepth 20000
set_option maxHeartbeats 4000000
theorem Jg (l:List Device) (p:Device→Bool) (f:FuncId) (first cap:List SV) (hc:(SV.clo (.func f) first cap).inn []=true) (hf:∀ x∈l,D9 Tryz.prog f (first++[Au x]++cap) (Ab (p x))) (hl:Ak l) :
  Sp 182 [.sl 5 Au l,.clo (.func f) first cap] (Aa (Co p l)):=cT F182 Tryz.ntmps182 λ F hF=>by
 unfold Ak at hl
 have hin:∀ x:Device,By [] (first++[Au x]++cap)=true:=λ x=>Cs hc rfl
 refine fW ?_
 refine A5 l.length (λ j=>Hc (λ _ x=>!(p x)) l j) (λ j=>[(0,.sl 5 Au l),(1,.clo (.func f) first cap),(7,Aa l.length),(8,Aa j)]) (λ _=>[]) [] (Bj _ _) ⟨⟨E,E,A8 _,hc,E,E,E,E,Y⟩,Y,E,E⟩ ?_
 intro j hj hI
 refine fU ?_
 constructor<;>intro h
 ·have h:=zK h
  have hj2:j<l.length:=by omega
  refine fU ?_
  refine⟨E,by omega,by omega,?_⟩
  refine fW ?_
  refine Dj (hf l[j] (zJ hj2)) E E E (by simp only[hin];rfl) E E ?_
  refine fU ?_
  constructor<;>intro h2
  ·refine fU ?_
   refine Aq E (.cons .tmp .nil) (zG Aa ?_) E
   exact Cr hj2 (λ i hi hij=>by simpa using hI i hi hij) h2
  ·refine fU ?_
   refine iL ?_
   refine fW ?_
   exact A4 [] hI hj2 (Bh hI hj2 (by simp[h2])) ⟨⟨E,E,A8 _,hc,E,E,E,E,Y⟩,Y,E,E⟩
 ·have h:=zT h
  refine fU ?_
  refine Aq E (.cons .tmp .nil) (zG Aa ?_) E
  exact C7 (λ i hi=>by simpa using hI i hi q_)
theorem Zs (l:List Flood) (p:Flood→Bool) (f:FuncId) (first cap:List SV) (hc:(SV.clo (.func f) first cap).inn []=true) (hf:∀ x∈l,D9 Tryz.prog f (first++[Be x]++cap) (Ab (p x))) (hl:Ak l) :
  Sp 313 [.sl 4 Be l,.clo (.func f) first cap] (Aa (Co p l)):=cT F313 Tryz.ntmps313 λ F hF=>by
 unfold Ak at hl
 have hin:∀ x:Flood,By [] (first++[Be x]++cap)=true:=λ x=>Cs hc rfl
 refine fW ?_
 refine A5 l.length (λ j=>Hc (λ _ x=>!(p x)) l j) (λ j=>[(0,.sl 4 Be l),(1,.clo (.func f) first cap),(7,Aa l.length),(8,Aa j)]) (λ _=>[]) [] (Bj _ _) ⟨⟨E,E,A8 _,hc,E,E,E,E,Y⟩,Y,E,E⟩ ?_
 intro j hj hI
 refine fU ?_
 constructor<;>intro h
 ·have h:=zK h
  have hj2:j<l.length:=by omega
  refine fU ?_
  refine⟨E,by omega,by omega,?_⟩
  refine fW ?_
  refine Dj (hf l[j] (zJ hj2)) E E E (by simp only[hin];rfl) E E ?_
  refine fU ?_
  constructor<;>intro h2
  ·refine fU ?_
   refine Aq E (.cons .tmp .nil) (zG Aa ?_) E
   exact Cr hj2 (λ i hi hij=>by simpa using hI i hi hij) h2
  ·refine fU ?_
   refine iL ?_
   refine fW ?_
   exact A4 [] hI hj2 (Bh hI hj2 (by simp[h2])) ⟨⟨E,E,A8 _,hc,E,E,E,E,Y⟩,Y,E,E⟩
 ·have h:=zT h
  refine fU ?_
  refine Aq E (.cons .tmp .nil) (zG Aa ?_) E
  exact C7 (λ i hi=>by simpa using hI i hi q_)
theorem Ad2 (l:List Vrf) (p:Vrf→Bool) (f:FuncId) (first cap:List SV) (hc:(SV.clo (.func f) first cap).inn []=true) (hf:∀ x∈l,D9 Tryz.prog f (first++[Ca x]++cap) (Ab (p x))) (hl:Ak l) :
  Sp 393 [.sl 5 Ca l,.clo (.func f) first cap] (Aa (Co p l)):=cT F393 Tryz.ntmps393 λ F hF=>by
 unfold Ak at hl
 have hin:∀ x:Vrf,By [] (first++[Ca x]++cap)=true:=λ x=>Cs hc rfl
 refine fW ?_
 refine A5 l.length (λ j=>Hc (λ _ x=>!(p x)) l j) (λ j=>[(0,.sl 5 Ca l),(1,.clo (.func f) first cap),(7,Aa l.length),(8,Aa j)]) (λ _=>[]) [] (Bj _ _) ⟨⟨E,E,A8 _,hc,E,E,E,E,Y⟩,Y,E,E⟩ ?_
 intro j hj hI
 refine fU ?_
 constructor<;>intro h
 ·have h:=zK h
  have hj2:j<l.length:=by omega
  refine fU ?_
  refine⟨E,by omega,by omega,?_⟩
  refine fW ?_
  refine Dj (hf l[j] (zJ hj2)) E E E (by simp only[hin];rfl) E E ?_
  refine fU ?_
  constructor<;>intro h2
  ·refine fU ?_
   refine Aq E (.cons .tmp .nil) (zG Aa ?_) E
   exact Cr hj2 (λ i hi hij=>by simpa using hI i hi hij) h2
  ·refine fU ?_
   refine iL ?_
   refine fW ?_
   exact A4 [] hI hj2 (Bh hI hj2 (by simp[h2])) ⟨⟨E,E,A8 _,hc,E,E,E,E,Y⟩,Y,E,E⟩
 ·have h:=zT h
  refine fU ?_
  refine Aq E (.cons .tmp .nil) (zG Aa ?_) E
  exact C7 (λ i hi=>by simpa using hI i hi q_)
theorem Tm (l:List Device) (p:Device→Bool) (f:FuncId) (first cap:List SV) (hc:(SV.clo (.func f) first cap).inn []=true) (hf:∀ x∈l,D9 Tryz.prog f (first++[Au x]++cap) (Ab (p x))) (hl:Ak l) :
  Sp 301 [.sl 5 Au l,.clo (.func f) first cap] (Ab (decide (0≤Co p l))):=cT F301 Tryz.ntmps301 λ F hF=>by
 have h0:By [] [.sl 5 Au l,.clo (.func f) first cap]=true:=by simp only[By,hc];rfl
 refine fW ?_
 refine Kx (Jg l p f first cap hc hf hl) F182 E E (by simp only[h0];rfl) E E ?_
 refine fU ?_
 exact dN
theorem Kn (l:List Domain) (p:Domain→Bool) (f:FuncId) (first cap:List SV) (hc:(SV.clo (.func f) first cap).inn []=true) (hf:∀ x∈l,D9 Tryz.prog f (first++[Ap x]++cap) (Ab (p x))) (hl:Ak l) :
  Sp 365 [.sl 6 Ap l,.clo (.func f) first cap] (Ab (decide (0≤Co p l))):=cT F365 Tryz.ntmps365 λ F hF=>by
 have h0:By [] [.sl 6 Ap l,.clo (.func f) first cap]=true:=by simp only[By,hc];rfl
 refine fW ?_
 refine Kx (Eh l p f first cap hc hf hl) F178 E E (by simp only[h0];rfl) E E ?_
 refine fU ?_
 exact dN
theorem Ajf (n:Net) (hn:n.Fin) (l:List Device) (p:Device→Bool) (f:FuncId) (first cap:List SV) (hc:(SV.clo (.func f) first cap).inn []=true) (hf:∀ x∈l,D9 Tryz.prog f (first++[Au x]++cap) (Ab (p x))) (hl:Ak l) :
  Sp 127 [Al n,.sl 5 Au l,.clo (.func f) first cap] (Aa (if Ac n=true then Co p l else -1)):=cT F127 Tryz.ntmps127 λ F hF=>by
 have hr:=Ax n hn
 have q:=Jg l p f first cap hc hf hl
 refine fW ?_
 refine c0 hr F24 ?_
 cases hb:Ac n
 ·rw[zD y_]
  refine fU ?_
  exact dN
 rw[zE rfl]
 refine fU ?_
 refine Kx q F182 E E (by simp only[By,hc,vZ];rfl) E E ?_
 refine fU ?_
 exact dN
theorem Ap8 (n:Net) (hn:n.Fin) (l:List Port) (p:Port→Bool) (f:FuncId) (first cap:List SV) (hc:(SV.clo (.func f) first cap).inn []=true) (hf:∀ x∈l,D9 Tryz.prog f (first++[A3 x]++cap) (Ab (p x))) (hl:Ak l) :
  Sp 125 [Al n,.sl 7 A3 l,.clo (.func f) first cap] (Aa (if Ac n=true then Co p l else -1)):=cT F125 Tryz.ntmps125 λ F hF=>by
 have hr:=Ax n hn
 have q:=Qx l p f first cap hc hf hl
 refine fW ?_
 refine c0 hr F24 ?_
 cases hb:Ac n
 ·rw[zD y_]
  refine fU ?_
  exact dN
 rw[zE rfl]
 refine fU ?_
 refine Kx q F181 E E (by simp only[By,hc,vZ];rfl) E E ?_
 refine fU ?_
 exact dN
theorem Auk (n:Net) (hn:n.Fin) (l:List Vrf) (p:Vrf→Bool) (f:FuncId) (first cap:List SV) (hc:(SV.clo (.func f) first cap).inn []=true) (hf:∀ x∈l,D9 Tryz.prog f (first++[Ca x]++cap) (Ab (p x))) (hl:Ak l) :
  Sp 372 [Al n,.sl 5 Ca l,.clo (.func f) first cap] (Aa (if Ac n=true then Co p l else -1)):=cT F372 Tryz.ntmps372 λ F hF=>by
 have hr:=Ax n hn
 have q:=Ad2 l p f first cap hc hf hl
 refine fW ?_
 refine c0 hr F24 ?_
 cases hb:Ac n
 ·rw[zD y_]
  refine fU ?_
  exact dN
 rw[zE rfl]
 refine fU ?_
 refine Kx q F393 E E (by simp only[By,hc,vZ];rfl) E E ?_
 refine fU ?_
 exact dN
theorem Ai1 (s:ByteArray) (d:Device):Sp 128 [Au d,.ref 1 (Ao s) 0] (Ab (d.name == s)):=cT F128 Tryz.ntmps128 λ F hF=>by
 refine T ?_
 exact D
theorem Api (dev:Int) (s:ByteArray) (p:Port):Sp 126 [A3 p,.ref 1 (Aa dev) 0,.ref 1 (Ao s) 0] (Ab (p.dev == dev && p.name == s)):=cT F126 Tryz.ntmps126 λ F hF=>by
 cases h:(p.dev == dev)
 ·refine T ?_
  exact D
 ·refine T ?_
  exact D
theorem Aty (dev:Int) (s:ByteArray) (p:Vrf):Sp 373 [Ca p,.ref 1 (Aa dev) 0,.ref 1 (Ao s) 0] (Ab (p.dev == dev && p.name == s)):=cT F373 Tryz.ntmps373 λ F hF=>by
 cases h:(p.dev == dev)
 ·refine T ?_
  exact D
 ·refine T ?_
  exact D
theorem Hz (n:Net) (hn:n.Fin) (hr:Ac n=true) (s:ByteArray):Sp 71 [Al n,Ao s] (Aa (E4 n s)):=cT F71 Tryz.ntmps71 λ F hF=>by
 have q:=Ajf n hn n.devices (λ d=>d.name == s) 128 [] [.ref 1 (Ao s) 0] rfl (λ d _=>⟨⟨_,_,F128⟩,Ai1 s d⟩) hn.devices
 rw[zE hr]at q
 refine fW ?_
 refine A7 3 1 (Ao s) E E E ?_
 refine c0 q F127 ?_
 refine fU ?_
 exact dN
theorem O9 (n:Net) (hn:n.Fin) (hr:Ac n=true) (dev:Int) (s:ByteArray):Sp 70 [Al n,Aa dev,Ao s] (Aa (Q8 n dev s)):=cT F70 Tryz.ntmps70 λ F hF=>by
 have q:=Ap8 n hn n.ports (λ p=>p.dev == dev && p.name == s) 126 [] [.ref 1 (Aa dev) 0,.ref 1 (Ao s) 0] rfl (λ d _=>⟨⟨_,_,F126⟩,Api dev s d⟩) hn.ports
 rw[zE hr]at q
 refine fW ?_
 refine A7 4 1 (Aa dev) E E E ?_
 refine A7 5 1 (Ao s) E E E ?_
 refine c0 q F125 ?_
 refine fU ?_
 exact dN
theorem Agu (n:Net) (hn:n.Fin) (hr:Ac n=true) (dev:Int) (s:ByteArray):Sp 310 [Al n,Aa dev,Ao s] (Aa (Avi n dev s)):=cT F310 Tryz.ntmps310 λ F hF=>by
 have q:=Auk n hn n.vrfs (λ p=>p.dev == dev && p.name == s) 373 [] [.ref 1 (Aa dev) 0,.ref 1 (Ao s) 0] rfl (λ d _=>⟨⟨_,_,F373⟩,Aty dev s d⟩) hn.vrfs
 rw[zE hr]at q
 refine fW ?_
 refine A7 4 1 (Aa dev) E E E ?_
 refine A7 5 1 (Ao s) E E E ?_
 refine c0 q F372 ?_
 refine fU ?_
 exact dN
theorem J3 (n:Net) (hn:n.Fin) (hr:Ac n=true) (dev vlan:Int):Sp 129 [Al n,Aa dev,Aa vlan] (Aa (Jm n dev vlan)):=by
 have q:=Jc n hn dev vlan
 rwa [De,zE hr]at q
end Go.Sy.YtiijbikecbjdaaaGreatDoor
namespace Go.Sy.YtiijbikecbjdaaaGreatDoor
open Go.Proofs
attribute [local irreducible] Go.Sy.G Go.Sy.DR
set_option maxRecDepth 100000
set_option maxHeartbeats 4000000
structure LineW (l:LineM):Prop where
 fin:LineFin l
 ok:LineOK l
 dev:l.dev.size≤100000
 port:l.port.size≤100000
 peer:l.peer.size≤100000
 far:l.far.size≤100000
 name:l.name.size≤100000
theorem An4 (l:LineM) (hw:LineW l) (hk:l.kind=1):Sp 367 [A0 l] (.tup [A0 (Bo l).1,Ab (Bo l).2]):=cT F367 Tryz.ntmps367 λ F hF=>by
 have hU:Bo l=({ lineZ with row:=l.row,kind:=1,dev:=l.dev,num:=l.num,mac:=l.mac },(Cg l.num 0 65535 && statB l.mac)):=by
  simp only[Bo,hk]
  rfl
 rw[hU]
 have q0:=Ew l.num 0 65535
 have q1:Sp 164 [Bf l.mac] (Ab (statB l.mac)):=by
  have:=hw.ok.mac
  obtain ⟨m,hm1⟩:∃ m:Nat,l.mac=m:=⟨l.mac.toNat,by omega⟩
  rw[hm1];exact Acp m q_
 obtain ⟨row,kind,dev,port,peer,far,name,mac,addr,bits,vlan,num,cost,tagged,imports,exports,addrs⟩:=l
 dsimp only at hk q0 q1 ⊢
 subst hk
 clear hU hw
 generalize Cg num 0 65535=b0 at *
 generalize statB mac=b1 at *
 cases b0
 ·rw[yA]
  refine T ?_
  refine C q0 F388 ?_
  refine Ai 2 (B8 { lineZ with row:=row,kind:=1,dev:=dev,num:=num,mac:=mac }) rfl vL ?_
  refine T ?_
  exact D
 rw[zZ]
 refine T ?_
 refine C q0 F388 ?_
 refine C q1 F164 ?_
 refine Ai 2 (B8 { lineZ with row:=row,kind:=1,dev:=dev,num:=num,mac:=mac }) rfl vL ?_
 refine T ?_
 exact D
theorem An3 (l:LineM) (hw:LineW l) (hk:l.kind=2):Sp 367 [A0 l] (.tup [A0 (Bo l).1,Ab (Bo l).2]):=cT F367 Tryz.ntmps367 λ F hF=>by
 have hU:Bo l=({ lineZ with row:=l.row,kind:=2,dev:=l.dev,port:=l.port,cost:=l.cost,vlan:=l.vlan,tagged:=l.tagged },(Ay l.port && (Cg l.cost 1 65535 && (Cg l.vlan 0 4094 && (D5 l.tagged 4094 && membersB l.vlan l.tagged))))):=by
  simp only[Bo,hk]
  rfl
 rw[hU]
 have q0:=Ef l.port (by have:=hw.port;omega)
 have q1:=Ew l.cost 1 65535
 have q2:=Ew l.vlan 0 4094
 have q3:=Zb l.tagged 4094 hw.fin.t
 have q4:=I7 l (by have:=hw.fin.t;simp only[Ak];omega)
 obtain ⟨row,kind,dev,port,peer,far,name,mac,addr,bits,vlan,num,cost,tagged,imports,exports,addrs⟩:=l
 dsimp only at hk q0 q1 q2 q3 q4 ⊢
 subst hk
 clear hU hw
 generalize Ay port=b0 at *
 generalize Cg cost 1 65535=b1 at *
 generalize Cg vlan 0 4094=b2 at *
 generalize D5 tagged 4094=b3 at *
 generalize membersB vlan tagged=b4 at *
 cases b0
 ·rw[yA]
  refine T ?_
  refine C q0 F46 ?_
  refine Ai 2 (B8 { lineZ with row:=row,kind:=2,dev:=dev,port:=port,cost:=cost,vlan:=vlan,tagged:=tagged }) rfl vL ?_
  refine T ?_
  exact D
 rw[zZ]
 cases b1
 ·rw[yA]
  refine T ?_
  refine C q0 F46 ?_
  refine C q1 F388 ?_
  refine Ai 2 (B8 { lineZ with row:=row,kind:=2,dev:=dev,port:=port,cost:=cost,vlan:=vlan,tagged:=tagged }) rfl vL ?_
  refine T ?_
  exact D
 rw[zZ]
 cases b2
 ·rw[yA]
  refine T ?_
  refine C q0 F46 ?_
  refine C q1 F388 ?_
  refine C q2 F388 ?_
  refine Ai 2 (B8 { lineZ with row:=row,kind:=2,dev:=dev,port:=port,cost:=cost,vlan:=vlan,tagged:=tagged }) rfl vL ?_
  refine T ?_
  exact D
 rw[zZ]
 cases b3
 ·rw[yA]
  refine T ?_
  refine C q0 F46 ?_
  refine C q1 F388 ?_
  refine C q2 F388 ?_
  refine C q3 F389 ?_
  refine Ai 2 (B8 { lineZ with row:=row,kind:=2,dev:=dev,port:=port,cost:=cost,vlan:=vlan,tagged:=tagged }) rfl vL ?_
  refine T ?_
  exact D
 rw[zZ]
 refine T ?_
 refine C q0 F46 ?_
 refine C q1 F388 ?_
 refine C q2 F388 ?_
 refine C q3 F389 ?_
 refine C q4 F165 ?_
 refine Ai 2 (B8 { lineZ with row:=row,kind:=2,dev:=dev,port:=port,cost:=cost,vlan:=vlan,tagged:=tagged }) rfl vL ?_
 refine T ?_
 exact D
theorem An2 (l:LineM) (hw:LineW l) (hk:l.kind=3):Sp 367 [A0 l] (.tup [A0 (Bo l).1,Ab (Bo l).2]):=cT F367 Tryz.ntmps367 λ F hF=>by
 have hU:Bo l=({ lineZ with row:=l.row,kind:=3,dev:=l.dev,port:=l.port,peer:=l.peer,far:=l.far },(Ay l.port && (Ay l.peer && Ay l.far))):=by
  simp only[Bo,hk]
  rfl
 rw[hU]
 have q0:=Ef l.port (by have:=hw.port;omega)
 have q1:=Ef l.peer (by have:=hw.peer;omega)
 have q2:=Ef l.far (by have:=hw.far;omega)
 obtain ⟨row,kind,dev,port,peer,far,name,mac,addr,bits,vlan,num,cost,tagged,imports,exports,addrs⟩:=l
 dsimp only at hk q0 q1 q2 ⊢
 subst hk
 clear hU hw
 generalize Ay port=b0 at *
 generalize Ay peer=b1 at *
 generalize Ay far=b2 at *
 cases b0
 ·rw[yA]
  refine T ?_
  refine C q0 F46 ?_
  refine Ai 2 (B8 { lineZ with row:=row,kind:=3,dev:=dev,port:=port,peer:=peer,far:=far }) rfl vL ?_
  refine T ?_
  exact D
 rw[zZ]
 cases b1
 ·rw[yA]
  refine T ?_
  refine C q0 F46 ?_
  refine C q1 F46 ?_
  refine Ai 2 (B8 { lineZ with row:=row,kind:=3,dev:=dev,port:=port,peer:=peer,far:=far }) rfl vL ?_
  refine T ?_
  exact D
 rw[zZ]
 refine T ?_
 refine C q0 F46 ?_
 refine C q1 F46 ?_
 refine C q2 F46 ?_
 refine Ai 2 (B8 { lineZ with row:=row,kind:=3,dev:=dev,port:=port,peer:=peer,far:=far }) rfl vL ?_
 refine T ?_
 exact D
theorem An1 (l:LineM) (hw:LineW l) (hk:l.kind=4):Sp 367 [A0 l] (.tup [A0 (Bo l).1,Ab (Bo l).2]):=cT F367 Tryz.ntmps367 λ F hF=>by
 have hU:Bo l=({ lineZ with row:=l.row,kind:=4,dev:=l.dev,vlan:=l.vlan,mac:=l.mac,port:=l.port },(Cg l.vlan 1 4094 && (statB l.mac && Ay l.port))):=by
  simp only[Bo,hk]
  rfl
 rw[hU]
 have q0:=Ew l.vlan 1 4094
 have q1:Sp 164 [Bf l.mac] (Ab (statB l.mac)):=by
  have:=hw.ok.mac
  obtain ⟨m,hm1⟩:∃ m:Nat,l.mac=m:=⟨l.mac.toNat,by omega⟩
  rw[hm1];exact Acp m q_
 have q2:=Ef l.port (by have:=hw.port;omega)
 obtain ⟨row,kind,dev,port,peer,far,name,mac,addr,bits,vlan,num,cost,tagged,imports,exports,addrs⟩:=l
 dsimp only at hk q0 q1 q2 ⊢
 subst hk
 clear hU hw
 generalize Cg vlan 1 4094=b0 at *
 generalize statB mac=b1 at *
 generalize Ay port=b2 at *
 cases b0
 ·rw[yA]
  refine T ?_
  refine C q0 F388 ?_
  refine Ai 2 (B8 { lineZ with row:=row,kind:=4,dev:=dev,vlan:=vlan,mac:=mac,port:=port }) rfl vL ?_
  refine T ?_
  exact D
 rw[zZ]
 cases b1
 ·rw[yA]
  refine T ?_
  refine C q0 F388 ?_
  refine C q1 F164 ?_
  refine Ai 2 (B8 { lineZ with row:=row,kind:=4,dev:=dev,vlan:=vlan,mac:=mac,port:=port }) rfl vL ?_
  refine T ?_
  exact D
 rw[zZ]
 refine T ?_
 refine C q0 F388 ?_
 refine C q1 F164 ?_
 refine C q2 F46 ?_
 refine Ai 2 (B8 { lineZ with row:=row,kind:=4,dev:=dev,vlan:=vlan,mac:=mac,port:=port }) rfl vL ?_
 refine T ?_
 exact D
theorem Anz (l:LineM) (hw:LineW l) (hk:l.kind=6):Sp 367 [A0 l] (.tup [A0 (Bo l).1,Ab (Bo l).2]):=cT F367 Tryz.ntmps367 λ F hF=>by
 have hU:Bo l=({ lineZ with row:=l.row,kind:=6,dev:=l.dev,vlan:=l.vlan,num:=l.num },(Cg l.vlan 1 4094 && Cg l.num 1 16777215)):=by
  simp only[Bo,hk]
  rfl
 rw[hU]
 have q0:=Ew l.vlan 1 4094
 have q1:=Ew l.num 1 16777215
 obtain ⟨row,kind,dev,port,peer,far,name,mac,addr,bits,vlan,num,cost,tagged,imports,exports,addrs⟩:=l
 dsimp only at hk q0 q1 ⊢
 subst hk
 clear hU hw
 generalize Cg vlan 1 4094=b0 at *
 generalize Cg num 1 16777215=b1 at *
 cases b0
 ·rw[yA]
  refine T ?_
  refine C q0 F388 ?_
  refine Ai 2 (B8 { lineZ with row:=row,kind:=6,dev:=dev,vlan:=vlan,num:=num }) rfl vL ?_
  refine T ?_
  exact D
 rw[zZ]
 refine T ?_
 refine C q0 F388 ?_
 refine C q1 F388 ?_
 refine Ai 2 (B8 { lineZ with row:=row,kind:=6,dev:=dev,vlan:=vlan,num:=num }) rfl vL ?_
 refine T ?_
 exact D
theorem Anx (l:LineM) (hw:LineW l) (hk:l.kind=7):Sp 367 [A0 l] (.tup [A0 (Bo l).1,Ab (Bo l).2]):=cT F367 Tryz.ntmps367 λ F hF=>by
 have hU:Bo l=({ lineZ with row:=l.row,kind:=7,dev:=l.dev,num:=l.num,addrs:=l.addrs },(Cg l.num 1 16777215 && J4 l.addrs)):=by
  simp only[Bo,hk]
  rfl
 rw[hU]
 have q0:=Ew l.num 1 16777215
 have q1:=Aof l.addrs hw.fin.a
 obtain ⟨row,kind,dev,port,peer,far,name,mac,addr,bits,vlan,num,cost,tagged,imports,exports,addrs⟩:=l
 dsimp only at hk q0 q1 ⊢
 subst hk
 clear hU hw
 generalize Cg num 1 16777215=b0 at *
 generalize J4 addrs=b1 at *
 cases b0
 ·rw[yA]
  refine T ?_
  refine C q0 F388 ?_
  refine Ai 2 (B8 { lineZ with row:=row,kind:=7,dev:=dev,num:=num,addrs:=addrs }) rfl vL ?_
  refine T ?_
  exact D
 rw[zZ]
 refine T ?_
 refine C q0 F388 ?_
 refine C q1 F390 ?_
 refine Ai 2 (B8 { lineZ with row:=row,kind:=7,dev:=dev,num:=num,addrs:=addrs }) rfl vL ?_
 refine T ?_
 exact D
theorem Anw (l:LineM) (hw:LineW l) (hk:l.kind=8):Sp 367 [A0 l] (.tup [A0 (Bo l).1,Ab (Bo l).2]):=cT F367 Tryz.ntmps367 λ F hF=>by
 have hU:Bo l=({ lineZ with row:=l.row,kind:=8,dev:=l.dev,name:=l.name,imports:=l.imports,exports:=l.exports },(Ay l.name && (D5 l.imports 65535 && D5 l.exports 65535))):=by
  simp only[Bo,hk]
  rfl
 rw[hU]
 have q0:=Ef l.name (by have:=hw.name;omega)
 have q1:=Zb l.imports 65535 hw.fin.i
 have q2:=Zb l.exports 65535 hw.fin.e
 obtain ⟨row,kind,dev,port,peer,far,name,mac,addr,bits,vlan,num,cost,tagged,imports,exports,addrs⟩:=l
 dsimp only at hk q0 q1 q2 ⊢
 subst hk
 clear hU hw
 generalize Ay name=b0 at *
 generalize D5 imports 65535=b1 at *
 generalize D5 exports 65535=b2 at *
 cases b0
 ·rw[yA]
  refine T ?_
  refine C q0 F46 ?_
  refine Ai 2 (B8 { lineZ with row:=row,kind:=8,dev:=dev,name:=name,imports:=imports,exports:=exports }) rfl vL ?_
  refine T ?_
  exact D
 rw[zZ]
 cases b1
 ·rw[yA]
  refine T ?_
  refine C q0 F46 ?_
  refine C q1 F389 ?_
  refine Ai 2 (B8 { lineZ with row:=row,kind:=8,dev:=dev,name:=name,imports:=imports,exports:=exports }) rfl vL ?_
  refine T ?_
  exact D
 rw[zZ]
 refine T ?_
 refine C q0 F46 ?_
 refine C q1 F389 ?_
 refine C q2 F389 ?_
 refine Ai 2 (B8 { lineZ with row:=row,kind:=8,dev:=dev,name:=name,imports:=imports,exports:=exports }) rfl vL ?_
 refine T ?_
 exact D
theorem Anv (l:LineM) (hw:LineW l) (hk:l.kind=9):Sp 367 [A0 l] (.tup [A0 (Bo l).1,Ab (Bo l).2]):=cT F367 Tryz.ntmps367 λ F hF=>by
 have hU:Bo l=({ lineZ with row:=l.row,kind:=9,dev:=l.dev,vlan:=l.vlan,name:=l.name,addr:=l.addr,bits:=l.bits },(Cg l.vlan 1 4094 && (Ay l.name && subnetB l.addr l.bits))):=by
  simp only[Bo,hk]
  rfl
 rw[hU]
 have q0:=Ew l.vlan 1 4094
 have q1:=Ef l.name (by have:=hw.name;omega)
 have q2:Sp 105 [Lk l.addr l.bits] (Ab (subnetB l.addr l.bits)):=by
  have:=hw.ok.addr
  obtain ⟨m,hm1⟩:∃ m:Nat,l.addr=m:=⟨l.addr.toNat,by omega⟩
  rw[hm1];exact Z6 m l.bits q_
 obtain ⟨row,kind,dev,port,peer,far,name,mac,addr,bits,vlan,num,cost,tagged,imports,exports,addrs⟩:=l
 dsimp only at hk q0 q1 q2 ⊢
 subst hk
 clear hU hw
 generalize Cg vlan 1 4094=b0 at *
 generalize Ay name=b1 at *
 generalize subnetB addr bits=b2 at *
 cases b0
 ·rw[yA]
  refine T ?_
  refine C q0 F388 ?_
  refine Ai 2 (B8 { lineZ with row:=row,kind:=9,dev:=dev,vlan:=vlan,name:=name,addr:=addr,bits:=bits }) rfl vL ?_
  refine T ?_
  exact D
 rw[zZ]
 cases b1
 ·rw[yA]
  refine T ?_
  refine C q0 F388 ?_
  refine C q1 F46 ?_
  refine Ai 2 (B8 { lineZ with row:=row,kind:=9,dev:=dev,vlan:=vlan,name:=name,addr:=addr,bits:=bits }) rfl vL ?_
  refine T ?_
  exact D
 rw[zZ]
 refine T ?_
 refine C q0 F388 ?_
 refine C q1 F46 ?_
 refine C q2 F105 ?_
 refine Ai 2 (B8 { lineZ with row:=row,kind:=9,dev:=dev,vlan:=vlan,name:=name,addr:=addr,bits:=bits }) rfl vL ?_
 refine T ?_
 exact D
theorem An0 (l:LineM) (hw:LineW l) (hk:l.kind=5):Sp 367 [A0 l] (.tup [A0 (Bo l).1,Ab (Bo l).2]):=cT F367 Tryz.ntmps367 λ F hF=>by
 have hU:Bo l=({ lineZ with row:=l.row,kind:=5,dev:=l.dev,addr:=l.addr },decide (l.addr≠0)):=by
  simp only[Bo,hk]
  rfl
 rw[hU]
 obtain ⟨row,kind,dev,port,peer,far,name,mac,addr,bits,vlan,num,cost,tagged,imports,exports,addrs⟩:=l
 dsimp only at hk ⊢
 subst hk
 clear hU hw
 have hb:decide (addr≠0)=(addr != 0):=by
  by_cases h:addr=0
  ·rw[h];rfl
  ·rw[zR h,yQ.2 h]
 rw[hb]
 refine T ?_
 refine Ai 2 (B8 { lineZ with row:=row,kind:=5,dev:=dev,addr:=addr }) rfl vL ?_
 refine T ?_
 exact D
theorem An5 (l:LineM) (hk:¬ (1≤l.kind∧l.kind≤9)):Sp 367 [A0 l] (.tup [A0 (Bo l).1,Ab (Bo l).2]):=cT F367 Tryz.ntmps367 λ F hF=>by
 have n1:¬ l.kind=1:=by omega
 have f1:(l.kind == 1)=false:=zL.2 n1
 have n2:¬ l.kind=2:=by omega
 have f2:(l.kind == 2)=false:=zL.2 n2
 have n3:¬ l.kind=3:=by omega
 have f3:(l.kind == 3)=false:=zL.2 n3
 have n4:¬ l.kind=4:=by omega
 have f4:(l.kind == 4)=false:=zL.2 n4
 have n5:¬ l.kind=5:=by omega
 have f5:(l.kind == 5)=false:=zL.2 n5
 have n6:¬ l.kind=6:=by omega
 have f6:(l.kind == 6)=false:=zL.2 n6
 have n7:¬ l.kind=7:=by omega
 have f7:(l.kind == 7)=false:=zL.2 n7
 have n8:¬ l.kind=8:=by omega
 have f8:(l.kind == 8)=false:=zL.2 n8
 have n9:¬ l.kind=9:=by omega
 have f9:(l.kind == 9)=false:=zL.2 n9
 have hU:Bo l=({ lineZ with row:=l.row,kind:=l.kind,dev:=l.dev },false):=by
  simp only[Bo,zD n1,zD n2,zD n3,zD n4,zD n5,zD n6,zD n7,zD n8,zD n9]
 rw[hU]
 refine T ?_
 refine Ai 2 (B8 { lineZ with row:=l.row,kind:=l.kind,dev:=l.dev }) rfl vL ?_
 refine T ?_
 exact D
theorem Asv (l:LineM) (hw:LineW l):Sp 367 [A0 l] (.tup [A0 (Bo l).1,Ab (Bo l).2]):=by
 by_cases hk:1≤l.kind∧l.kind≤9
 ·rcases (by omega:l.kind=1∨l.kind=2∨l.kind=3∨l.kind=4∨l.kind=5∨l.kind=6∨l.kind=7∨l.kind=8∨l.kind=9) with h | h | h | h | h | h | h | h | h
  ·exact An4 l hw h
  ·exact An3 l hw h
  ·exact An2 l hw h
  ·exact An1 l hw h
  ·exact An0 l hw h
  ·exact Anz l hw h
  ·exact Anx l hw h
  ·exact Anw l hw h
  ·exact Anv l hw h
 ·exact An5 l hk
theorem Ask {l:LineM} (h:LineFin l):LineFin (Bo l).1:=by
 have ht:=h.t;have hi:=h.i;have he:=h.e;have haa:=h.a
 unfold Bo
 dsimp only
 repeat' split
 all_goals exact⟨by first | exact ht | (show 0≤100000;decide),by first | exact hi | (show 0≤100000;decide),by first | exact he | (show 0≤100000;decide),by first | exact haa | (show 0≤100000;decide)⟩
theorem Js (l:LineM) (hw:LineW l):Sp 304 [A0 l] (Ab (Cm l)):=cT F304 Tryz.ntmps304 λ F hF=>by
 have q1:=Asv l hw
 have q2:=Ef l.dev (by have:=hw.dev;omega)
 have q3:=Asx (Bo l).1 l (Ask hw.fin) hw.fin
 rw[Cm]
 generalize Bo l=u at *
 obtain ⟨ul,ub⟩:=u
 dsimp only at q1 q3 ⊢
 cases ub
 ·rw[yA]
  refine T ?_
  refine C q1 F367 ?_
  exact D
 rw[zZ]
 cases hn:Ay l.dev
 ·rw[hn]at q2
  rw[yA]
  refine T ?_
  refine C q1 F367 ?_
  refine C q2 F46 ?_
  exact D
 rw[hn]at q2
 rw[zZ]
 refine T ?_
 refine C q1 F367 ?_
 refine C q2 F46 ?_
 refine C q3 F368 ?_
 exact D
theorem I4 {α:Type} {p:α→Bool} {l:List α} (h:¬ Co p l<0):∃ i:Nat,Co p l=i∧i<l.length:=by
 have:=Hk p l
 exact⟨(Co p l).toNat,by omega,by omega⟩
theorem Mp (n:Net) (hn:n.Fin) (l:LineM) (hl:LineW l) (k:Int):Sp 307 [Al n,A0 l,Aa k] (.tup [Aa (begT n l k).1,Aa (begT n l k).2]):=cT F307 Tryz.ntmps307 λ F hF=>by
 have q1:=Js l hl
 have q2:=Ax n hn
 have hres:=begT.eq_1 n l k
 have hf:=fitsB.eq_1 n l k
 generalize begT n l k=res at *
 generalize fitsB n l k=f at *
 cases h1:(l.kind == k) with
 | false =>
  have g1:(l.kind != k)=true:=by rw[bne,h1];rfl
  rw[h1,yA]at hf
  rw[hf,zE rfl]at hres
  subst hres
  refine T ?_
  exact D
 | true =>
  have g1:(l.kind != k)=false:=by rw[bne,h1];rfl
  rw[h1,zZ]at hf
  cases h2:Cm l with
  | false =>
   rw[h2]at q1 hf
   rw[hf,yA,zE rfl]at hres
   subst hres
   refine T ?_
   refine C q1 F304 ?_
   exact D
  | true =>
   rw[h2]at q1 hf
   cases h3:Ac n with
   | false =>
    rw[h3]at q2 hf
    rw[hf,wL,zE rfl]at hres
    subst hres
    refine T ?_
    refine C q1 F304 ?_
    refine C q2 F24 ?_
    exact D
   | true =>
    have q3:=Hz n hn h3 l.dev
    rw[h3]at q2 hf
    rw[hf,zD y_]at hres
    generalize E4 n l.dev=d at *
    by_cases h4:d<0
    ·have g4:decide (d<0)=true:=zR h4
     rw[zE h4]at hres
     subst hres
     refine T ?_
     refine C q1 F304 ?_
     refine C q2 F24 ?_
     refine C q3 F71 ?_
     exact D
    ·have g4:decide (d<0)=false:=zI h4
     rw[zD h4]at hres
     subst hres
     refine T ?_
     refine C q1 F304 ?_
     refine C q2 F24 ?_
     refine C q3 F71 ?_
     exact D
theorem Acf (n:Net) (hn:n.Fin) (l:LineM) (hl:LineW l) (k:Int):Sp 309 [Al n,A0 l,Aa k] (.tup [Aa (begT n l k).1,Aa (begT n l k).2]):=cT F309 Tryz.ntmps309 λ F hF=>by
 have q1:=Js l hl
 have q2:=Ax n hn
 have hres:=begT.eq_1 n l k
 have hf:=fitsB.eq_1 n l k
 generalize begT n l k=res at *
 generalize fitsB n l k=f at *
 cases h1:(l.kind == k) with
 | false =>
  have g1:(l.kind != k)=true:=by rw[bne,h1];rfl
  rw[h1,yA]at hf
  rw[hf,zE rfl]at hres
  subst hres
  refine T ?_
  exact D
 | true =>
  have g1:(l.kind != k)=false:=by rw[bne,h1];rfl
  rw[h1,zZ]at hf
  cases h2:Cm l with
  | false =>
   rw[h2]at q1 hf
   rw[hf,yA,zE rfl]at hres
   subst hres
   refine T ?_
   refine C q1 F304 ?_
   exact D
  | true =>
   rw[h2]at q1 hf
   cases h3:Ac n with
   | false =>
    rw[h3]at q2 hf
    rw[hf,wL,zE rfl]at hres
    subst hres
    refine T ?_
    refine C q1 F304 ?_
    refine C q2 F24 ?_
    exact D
   | true =>
    have q3:=Hz n hn h3 l.dev
    rw[h3]at q2 hf
    rw[hf,zD y_]at hres
    generalize E4 n l.dev=d at *
    by_cases h4:d<0
    ·have g4:decide (d<0)=true:=zR h4
     rw[zE h4]at hres
     subst hres
     refine T ?_
     refine C q1 F304 ?_
     refine C q2 F24 ?_
     refine C q3 F71 ?_
     exact D
    ·have g4:decide (d<0)=false:=zI h4
     rw[zD h4]at hres
     subst hres
     refine T ?_
     refine C q1 F304 ?_
     refine C q2 F24 ?_
     refine C q3 F71 ?_
     exact D
theorem beg_ok {n:Net} {l:LineM} {k:Int} (h:(begT n l k).2=0):fitsB n l k=true∧Ac n=true∧∃ i:Nat,(begT n l k).1=i∧i<n.devices.length:=by
 unfold begT at h ⊢
 cases hf:fitsB n l k with
 | false=>rw[hf,zE rfl]at h;exact yB h j_
 | true =>
  rw[hf,zD y_]at h
  rw[zD y_]
  by_cases hd:E4 n l.dev<0
  ·rw[zE hd]at h;exact yB h j_
  ·rw[zD hd]
   refine⟨E,?_,I4 hd⟩
   unfold fitsB at hf
   simp only[zH]at hf
   exact hf.2.2
theorem ownerC (a:Int) (d:Device):Sp 316 [Au d,.ref 1 (A6 a) 0] (Ab (d.vtep == a)):=cT F316 Tryz.ntmps316 λ F hF=>by
 refine T ?_
 exact D
theorem Apd (n:Net) (hn:n.Fin) (a:Int):Sp 245 [Al n,A6 a] (Aa (E9 n a)):=cT F245 Tryz.ntmps245 λ F hF=>by
 have q:=Jg n.devices (λ d=>d.vtep == a) 316 [] [.ref 1 (A6 a) 0] rfl (λ d _=>⟨⟨_,_,F316⟩,ownerC a d⟩) hn.devices
 refine fW ?_
 refine A7 3 1 (A6 a) E E E ?_
 refine c0 q F182 ?_
 refine fU ?_
 exact dN
theorem Az9 (dev vni:Int) (d:Domain):Sp 315 [Ap d,.ref 1 (Aa dev) 0,.ref 1 (Aa vni) 0] (Ab (d.dev == dev && (d.vni == vni && vni != 0))):=cT F315 Tryz.ntmps315 λ F hF=>by
 cases h:(d.dev == dev)
 ·refine T ?_
  exact D
 ·cases h2:(d.vni == vni)
  ·refine T ?_
   exact D
  ·refine T ?_
   exact D
theorem Xk (n:Net) (hn:n.Fin) (dev vni:Int):Sp 244 [Al n,Aa dev,Aa vni] (Aa (Q3 n dev vni)):=cT F244 Tryz.ntmps244 λ F hF=>by
 have q:=Eh n.domains (λ d=>d.dev == dev && (d.vni == vni && vni != 0)) 315 [] [.ref 1 (Aa dev) 0,.ref 1 (Aa vni) 0] rfl (λ d _=>⟨⟨_,_,F315⟩,Az9 dev vni d⟩) hn.domains
 refine fW ?_
 refine A7 4 1 (Aa dev) E E E ?_
 refine A7 5 1 (Aa vni) E E E ?_
 refine c0 q F178 ?_
 refine fU ?_
 exact dN
theorem Az8 (dev vni:Int) (f:Flood):Sp 314 [Be f,.ref 1 (Aa dev) 0,.ref 1 (Aa vni) 0] (Ab (f.dev == dev && f.vni == vni)):=cT F314 Tryz.ntmps314 λ F hF=>by
 cases h:(f.dev == dev)
 ·refine T ?_
  exact D
 ·refine T ?_
  exact D
theorem Aiu (n:Net) (hn:n.Fin) (dev vni:Int):Sp 243 [Al n,Aa dev,Aa vni] (Aa (Jq n dev vni)):=cT F243 Tryz.ntmps243 λ F hF=>by
 have q:=Zs n.floods (λ f=>f.dev == dev && f.vni == vni) 314 [] [.ref 1 (Aa dev) 0,.ref 1 (Aa vni) 0] rfl (λ f _=>⟨⟨_,_,F314⟩,Az8 dev vni f⟩) hn.floods
 refine fW ?_
 refine A7 4 1 (Aa dev) E E E ?_
 refine A7 5 1 (Aa vni) E E E ?_
 refine c0 q F313 ?_
 refine fU ?_
 exact dN
theorem Az7 (n:Net) (hn:n.Fin) (l:LineM) (hl:LineW l):Sp 237 [Al n,A0 l] (.tup [Al (putVtep n l).1,Aa (putVtep n l).2]):=cT F237 Tryz.ntmps237 λ F hF=>by
 have q1:=Mp n hn l hl 5
 have hok:=@beg_ok n l 5
 have hres:=putVtep.eq_1 n l
 have q2:=Apd n hn l.addr
 have q3:=Qm n hn
 generalize putVtep n l=res at *
 generalize begT n l 5=b at *
 obtain ⟨d,e⟩:=b
 dsimp only at hres hok q1
 by_cases h1:e≠0
 ·have g1:(e != 0)=true:=by rw[yQ];exact h1
  rw[zE h1]at hres
  subst hres
  refine T ?_
  refine C q1 F307 ?_
  refine Ai 4 (Cw emptyN) E vL ?_
  refine T ?_
  exact D
 have g1:(e != 0)=false:=by rw[bne_eq_false_iff_eq];omega
 rw[zD h1]at hres
 obtain ⟨_,_,i,hi,hlt⟩:=hok q_
 subst hi
 clear hok
 have hlt0:((i:Nat):Int).toNat<n.devices.length:=hlt
 have hnth:nth n.devices (i:Int)=n.devices[((i:Nat):Int).toNat]'hlt0:=Aj hlt0
 rw[hnth]at hres
 by_cases h2:(n.devices[((i:Nat):Int).toNat]'hlt0).vtep≠0
 ·have g2:((n.devices[((i:Nat):Int).toNat]'hlt0).vtep != 0)=true:=by rw[yQ];exact h2
  rw[zE (.inl h2)]at hres
  subst hres
  refine T ?_
  refine C q1 F307 ?_
  refine Ai 4 (Cw emptyN) E vL ?_
  refine T ?_
  exact D
 have g2:((n.devices[((i:Nat):Int).toNat]'hlt0).vtep != 0)=false:=by rw[bne_eq_false_iff_eq];omega
 by_cases h3:0≤E9 n l.addr
 ·have g3:decide (E9 n l.addr≥0)=true:=zR h3
  rw[zE (.inr h3)]at hres
  subst hres
  refine T ?_
  refine C q1 F307 ?_
  refine C q2 F245 ?_
  refine Ai 4 (Cw emptyN) E vL ?_
  refine T ?_
  exact D
 have g3:decide (E9 n l.addr≥0)=false:=zI h3
 rw[zD (λ h=>h.elim h2 h3)]at hres
 have hset:Acu n.devices (i:Int) l.addr=n.devices.set ((i:Nat):Int).toNat { (n.devices[((i:Nat):Int).toNat]'hlt0) with vtep:=l.addr }:=by rw[Acu,hnth]
 rw[hset]at hres
 subst hres
 have hne:n.devices≠[]:=λ e=>by rw[e]at hlt;cases hlt
 refine T ?_
 refine C q1 F307 ?_
 refine C q2 F245 ?_
 refine X (Ad [(0,901),(1,902),(2,903),(3,904),(4,905),(5,906),(6,907),(7,908)] E F79 q3 E W E V) ?_
 refine⟨hne,?_⟩
 refine T ?_
 refine⟨{ (n.devices[((i:Nat):Int).toNat]'hlt0) with vtep:=l.addr },rfl,rfl,?_⟩
 refine T ?_
 refine Ag 901 E ?_
 refine Ag 902 E ?_
 refine Ag 903 E ?_
 refine Ag 904 E ?_
 refine Ag 905 E ?_
 refine Ag 906 E ?_
 refine Ag 907 E ?_
 refine Ag 908 E ?_
 exact D
end Go.Sy.YtiijbikecbjdaaaGreatDoor
