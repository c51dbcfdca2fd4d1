/- Parts of a proof. -/
import Derived.Test.YticmobkdaneelaaGreatDoorYE16
import Derived.Test.YticmobkdaneelaaGreatDoorYE18
set_option linter.all false
set_option linter.unusedVariables false
set_option linter.unusedSimpArgs false
set_option linter.deprecated false
namespace Go.Sy.YticmobkdaneelaaGreatDoor
open Go.Proofs Go.Proofs.Tryz
attribute [local irreducible] Go.Sy.G Go.Sy.DR
set_option maxRecDepth 100000
set_option maxHeartbeats 4000000
def Ah6(l:List Device)(hl:l.length<2147483648):Sq 83 [.sl 5 Ax l] [] (.osl 0) [(0,.row 5 Ax l)]:=cT F83 ntmps83 λF hF=>by
 refine fW ?_;refine D1 E (.inl E) E E E .sl E E ?_;intro b hb;cases b
 ·refine fU ?_;refine Af (Ag Γ.toTy 7 E E E E E (.lit (e:=Ax) (l:=[]) E E) .sl y_ (by simp;omega) (by simp;omega)) E E ?_;refine fU ?_;exact done E (.cons .tmp .nil) [(0,7)] [(0,.row 5 Ax l)] (λ_ h=>h) E E kU
 ·have h0:l=[]:=zZ (hb rfl);subst h0;refine fU ?_;refine B7 2 1000 5 Ax E E ?_;exact done E (.cons .tmp .nil) [(0,1000)] [(0,.row 5 Ax [])] (λ_ h=>h) E E kU
def Aqc(l:List Link)(hl:l.length<2147483648):Sq 85 [.sl 3 Bz l] [] (.osl 0) [(0,.row 3 Bz l)]:=cT F85 ntmps85 λF hF=>by
 refine fW ?_;refine D1 E (.inl E) E E E .sl E E ?_;intro b hb;cases b
 ·refine fU ?_;refine Af (Ag Γ.toTy 7 E E E E E (.lit (e:=Bz) (l:=[]) E E) .sl y_ (by simp;omega) (by simp;omega)) E E ?_;refine fU ?_;exact done E (.cons .tmp .nil) [(0,7)] [(0,.row 3 Bz l)] (λ_ h=>h) E E kU
 ·have h0:l=[]:=zZ (hb rfl);subst h0;refine fU ?_;refine B7 2 1000 3 Bz E E ?_;exact done E (.cons .tmp .nil) [(0,1000)] [(0,.row 3 Bz [])] (λ_ h=>h) E E kU
def Ah5(l:List Static)(hl:l.length<2147483648):Sq 87 [.sl 4 A0 l] [] (.osl 0) [(0,.row 4 A0 l)]:=cT F87 ntmps87 λF hF=>by
 refine fW ?_;refine D1 E (.inl E) E E E .sl E E ?_;intro b hb;cases b
 ·refine fU ?_;refine Af (Ag Γ.toTy 7 E E E E E (.lit (e:=A0) (l:=[]) E E) .sl y_ (by simp;omega) (by simp;omega)) E E ?_;refine fU ?_;exact done E (.cons .tmp .nil) [(0,7)] [(0,.row 4 A0 l)] (λ_ h=>h) E E kU
 ·have h0:l=[]:=zZ (hb rfl);subst h0;refine fU ?_;refine B7 2 1000 4 A0 E E ?_;exact done E (.cons .tmp .nil) [(0,1000)] [(0,.row 4 A0 [])] (λ_ h=>h) E E kU
def Aub(l:List Irb)(hl:l.length<2147483648):Sq 90 [.sl 5 B4 l] [] (.osl 0) [(0,.row 5 B4 l)]:=cT F90 ntmps90 λF hF=>by
 refine fW ?_;refine D1 E (.inl E) E E E .sl E E ?_;intro b hb;cases b
 ·refine fU ?_;refine Af (Ag Γ.toTy 7 E E E E E (.lit (e:=B4) (l:=[]) E E) .sl y_ (by simp;omega) (by simp;omega)) E E ?_;refine fU ?_;exact done E (.cons .tmp .nil) [(0,7)] [(0,.row 5 B4 l)] (λ_ h=>h) E E kU
 ·have h0:l=[]:=zZ (hb rfl);subst h0;refine fU ?_;refine B7 2 1000 5 B4 E E ?_;exact done E (.cons .tmp .nil) [(0,1000)] [(0,.row 5 B4 [])] (λ_ h=>h) E E kU
def Te(n:Net)(hn:n.Fin):Sq 30 [Am n] [] (.agg [.osl 0,.osl 1,.osl 2,.osl 3,.osl 4,.osl 5,.osl 6,.osl 7]) [(0,.row 5 Ax n.devices),(1,.row 7 A4 n.ports),(2,.row 3 Bz n.links),(3,.row 6 As n.domains),(4,.row 4 A0 n.statics),(5,.row 4 Ba n.floods),(6,.row 5 Ca n.vrfs),(7,.row 5 B4 n.irbs)]:=cT F30 ntmps30 λF hF=>by
 have h1:n.devices.length<2147483648∧n.ports.length<2147483648∧n.links.length<2147483648∧n.domains.length<2147483648∧n.statics.length<2147483648∧n.floods.length<2147483648∧n.vrfs.length<2147483648∧n.irbs.length<2147483648:=⟨hn.devices,hn.ports,hn.links,hn.domains,hn.statics,hn.floods,hn.vrfs,hn.irbs⟩
 have h2:(∀p∈n.ports,p.tagged.length<2147483648)∧(∀p∈n.domains,p.peers.length<2147483648)∧(∀p∈n.floods,p.addrs.length<2147483648)∧(∀p∈n.vrfs,p.imports.length<2147483648∧p.exports.length<2147483648):=⟨hn.tagged,hn.peers,hn.addrs,λv hv=>⟨hn.imports v hv,hn.exports v hv⟩⟩
 refine fW ?_;refine Bw (Ad [(0,11)] E F83 (Ah6 n.devices h1.1) E Y E ⟨.inr E,Y⟩) z_ E ?_;refine fU ?_;refine Bw (Ad [(0,14)] E F84 (Agq n.ports h1.2.1) E Y E ⟨.inr E,Y⟩) z_ E ?_;refine fU ?_;refine Bw (Ad [(0,17)] E F85 (Aqc n.links h1.2.2.1) E Y E ⟨.inr E,Y⟩) z_ E ?_;refine fU ?_;refine Bw (Ad [(0,20)] E F86 (Z8 n.domains h1.2.2.2.1) E Y E ⟨.inr E,Y⟩) z_ E ?_;refine fU ?_;refine Bw (Ad [(0,23)] E F87 (Ah5 n.statics h1.2.2.2.2.1) E Y E ⟨.inr E,Y⟩) z_ E ?_;refine fU ?_;refine Bw (Ad [(0,26)] E F88 (Acz n.floods h1.2.2.2.2.2.1) E Y E ⟨.inr E,Y⟩) z_ E ?_;refine fU ?_;refine Bw (Ad [(0,29)] E F89 (Ajv n.vrfs h1.2.2.2.2.2.2.1) E Y E ⟨.inr E,Y⟩) z_ E ?_;refine fU ?_;refine Bw (Ad [(0,32)] E F90 (Aub n.irbs h1.2.2.2.2.2.2.2) E Y E ⟨.inr E,Y⟩) z_ E ?_;refine fU ?_;refine⟨z_,?_⟩;refine fW ?_;refine A5 n.ports.length (λj=>[(2,.ptr 2 0),(3,.ptr 3 0),(36,Aa n.ports.length),(37,Aa j)]) (λ_=>[(2,.box [.val (.slice none 0 0),.val (.slice none 0 0),.val (.slice none 0 0),.val (.slice none 0 0),.val (.slice none 0 0),.val (.slice none 0 0),.val (.slice none 0 0),.val (.slice none 0 0)]),(3,.box [.osl 11,.osl 14,.osl 17,.osl 20,.osl 23,.osl 26,.osl 29,.osl 32]),(11,.row 5 Ax n.devices),(14,.row 7 A4 n.ports),(17,.row 3 Bz n.links),(20,.row 6 As n.domains),(23,.row 4 A0 n.statics),(26,.row 4 Ba n.floods),(29,.row 5 Ca n.vrfs),(32,.row 5 B4 n.irbs)]) []
  kU ?_
 intro j hj;refine fU ?_;constructor<;>intro h
 ·have ab:j<n.ports.length:=by simpa using h
  obtain ⟨p,hp⟩:∃p,n.ports[(j:Int).toNat]'q_=p:=⟨_,rfl⟩
  have ag:n.ports≠[]:=λe=>by rw[e]at ab;cases ab
  have a7:n.ports.set (j:Int).toNat p=n.ports:=by rw[←hp];exact wS _
  have bh:=h2.1 p (by rw[←hp];exact zI _);refine fU ?_;refine⟨by omega,by show _<n.ports.length;omega,?_⟩;refine fW ?_;refine⟨ag,?_⟩;refine fW ?_;refine⟨E,by omega,?_⟩;rw[hp];refine fW ?_;refine cD (Es p.tagged bh) F91 ?_;refine fU ?_;refine⟨by omega,by show _<n.ports.length;omega,?_⟩;refine fW ?_;refine⟨ag,?_⟩;refine fW ?_;refine⟨E,by omega,p,(by rw[hp];rfl),(by rw[hp];rfl),?_⟩;refine fW ?_;refine⟨z_,?_⟩;refine gI ?_;exact Ay [] ab ⟨⟨E,E,E,E,E,E,E,E,Y⟩,⟨.inl E,E,.inl E,E,.inl E,E,.inl (zH (Ob.row 7 A4) a7.symm),E,.inl E,E,.inl E,E,.inl E,E,.inl E,E,.inl E,E,.inl E,E,Y⟩,E,E⟩
 ·refine fU ?_;refine A5 n.domains.length (λj=>[(2,.ptr 2 0),(3,.ptr 3 0),(55,Aa n.domains.length),(56,Aa j)]) (λ_=>[(2,.box [.val (.slice none 0 0),.val (.slice none 0 0),.val (.slice none 0 0),.val (.slice none 0 0),.val (.slice none 0 0),.val (.slice none 0 0),.val (.slice none 0 0),.val (.slice none 0 0)]),(3,.box [.osl 11,.osl 14,.osl 17,.osl 20,.osl 23,.osl 26,.osl 29,.osl 32]),(11,.row 5 Ax n.devices),(14,.row 7 A4 n.ports),(17,.row 3 Bz n.links),(20,.row 6 As n.domains),(23,.row 4 A0 n.statics),(26,.row 4 Ba n.floods),(29,.row 5 Ca n.vrfs),(32,.row 5 B4 n.irbs)]) []
   kU ?_
  intro j hj;refine fU ?_;constructor<;>intro h
  ·have ab:j<n.domains.length:=by simpa using h
   obtain ⟨p,hp⟩:∃p,n.domains[(j:Int).toNat]'q_=p:=⟨_,rfl⟩
   have ag:n.domains≠[]:=λe=>by rw[e]at ab;cases ab
   have a7:n.domains.set (j:Int).toNat p=n.domains:=by rw[←hp];exact wS _
   have bh:=h2.2.1 p (by rw[←hp];exact zI _);refine fU ?_;refine⟨by omega,by show _<n.domains.length;omega,?_⟩;refine fW ?_;refine⟨ag,?_⟩;refine fW ?_;refine⟨E,by omega,?_⟩;rw[hp];refine fW ?_;refine cD (Es p.peers bh) F91 ?_;refine fU ?_;refine⟨by omega,by show _<n.domains.length;omega,?_⟩;refine fW ?_;refine⟨ag,?_⟩;refine fW ?_;refine⟨E,by omega,p,(by rw[hp];rfl),(by rw[hp];rfl),?_⟩;refine fW ?_;refine⟨z_,?_⟩;refine gI ?_;exact Ay [] ab ⟨⟨E,E,E,E,E,E,E,E,Y⟩,⟨.inl E,E,.inl E,E,.inl E,E,.inl E,E,.inl E,E,.inl (zH (Ob.row 6 As) a7.symm),E,.inl E,E,.inl E,E,.inl E,E,.inl E,E,Y⟩,E,E⟩
  ·refine fU ?_;refine A5 n.floods.length (λj=>[(2,.ptr 2 0),(3,.ptr 3 0),(74,Aa n.floods.length),(75,Aa j)]) (λ_=>[(2,.box [.val (.slice none 0 0),.val (.slice none 0 0),.val (.slice none 0 0),.val (.slice none 0 0),.val (.slice none 0 0),.val (.slice none 0 0),.val (.slice none 0 0),.val (.slice none 0 0)]),(3,.box [.osl 11,.osl 14,.osl 17,.osl 20,.osl 23,.osl 26,.osl 29,.osl 32]),(11,.row 5 Ax n.devices),(14,.row 7 A4 n.ports),(17,.row 3 Bz n.links),(20,.row 6 As n.domains),(23,.row 4 A0 n.statics),(26,.row 4 Ba n.floods),(29,.row 5 Ca n.vrfs),(32,.row 5 B4 n.irbs)]) []
    kU ?_
   intro j hj;refine fU ?_;constructor<;>intro h
   ·have ab:j<n.floods.length:=by simpa using h
    obtain ⟨p,hp⟩:∃p,n.floods[(j:Int).toNat]'q_=p:=⟨_,rfl⟩
    have ag:n.floods≠[]:=λe=>by rw[e]at ab;cases ab
    have a7:n.floods.set (j:Int).toNat p=n.floods:=by rw[←hp];exact wS _
    have bh:=h2.2.2.1 p (by rw[←hp];exact zI _);refine fU ?_;refine⟨by omega,by show _<n.floods.length;omega,?_⟩;refine fW ?_;refine⟨ag,?_⟩;refine fW ?_;refine⟨E,by omega,?_⟩;rw[hp];refine fW ?_;refine cD (Abm p.addrs bh) F92 ?_;refine fU ?_;refine⟨by omega,by show _<n.floods.length;omega,?_⟩;refine fW ?_;refine⟨ag,?_⟩;refine fW ?_;refine⟨E,by omega,p,(by rw[hp];rfl),(by rw[hp];rfl),?_⟩;refine fW ?_;refine⟨z_,?_⟩;refine gI ?_;exact Ay [] ab ⟨⟨E,E,E,E,E,E,E,E,Y⟩,⟨.inl E,E,.inl E,E,.inl E,E,.inl E,E,.inl E,E,.inl E,E,.inl E,E,.inl (zH (Ob.row 4 Ba) a7.symm),E,.inl E,E,.inl E,E,Y⟩,E,E⟩
   ·refine fU ?_;refine A5 n.vrfs.length (λj=>[(2,.ptr 2 0),(3,.ptr 3 0),(93,Aa n.vrfs.length),(94,Aa j)]) (λ_=>[(2,.box [.val (.slice none 0 0),.val (.slice none 0 0),.val (.slice none 0 0),.val (.slice none 0 0),.val (.slice none 0 0),.val (.slice none 0 0),.val (.slice none 0 0),.val (.slice none 0 0)]),(3,.box [.osl 11,.osl 14,.osl 17,.osl 20,.osl 23,.osl 26,.osl 29,.osl 32]),(11,.row 5 Ax n.devices),(14,.row 7 A4 n.ports),(17,.row 3 Bz n.links),(20,.row 6 As n.domains),(23,.row 4 A0 n.statics),(26,.row 4 Ba n.floods),(29,.row 5 Ca n.vrfs),(32,.row 5 B4 n.irbs)]) []
     kU ?_
    intro j hj;refine fU ?_;constructor<;>intro h
    ·have ab:j<n.vrfs.length:=by simpa using h
     obtain ⟨p,hp⟩:∃p,n.vrfs[(j:Int).toNat]'q_=p:=⟨_,rfl⟩
     have ag:n.vrfs≠[]:=λe=>by rw[e]at ab;cases ab
     have a7:n.vrfs.set (j:Int).toNat p=n.vrfs:=by rw[←hp];exact wS _
     have bh:=h2.2.2.2 p (by rw[←hp];exact zI _);refine fU ?_;have kw:n.vrfs.set (j:Int).toNat p≠[]:=by rw[a7];exact ag
     have ec:(n.vrfs.set (j:Int).toNat p)[(j:Int).toNat]'(by rw[a7];omega)=p:=by simp
     have oz:(n.vrfs.set (j:Int).toNat p).set (j:Int).toNat p=n.vrfs:=by rw[a7,a7]
     refine⟨by omega,by show _<n.vrfs.length;omega,?_⟩;refine fW ?_;refine Bw (C0 E (.inr (.inr (.inr ⟨29,5,_,0,E,λκ w h=>Jv ag h,E⟩)))) z_ E ?_;refine fU ?_;refine⟨ag,?_⟩;refine fW ?_;refine⟨E,by omega,?_⟩;rw[hp];refine fW ?_;refine cD (Es p.imports bh.1) F91 ?_;refine fU ?_;refine Bw (C0 E (.inr (.inr (.inr ⟨29,5,_,0,E,λκ w h=>Jv ag h,E⟩)))) z_ E ?_;refine fU ?_;refine⟨ag,?_⟩;refine fW ?_;refine⟨E,by omega,?_⟩;rw[hp];refine fW ?_;refine cD (Es p.exports bh.2) F91 ?_;refine fU ?_;refine Bw (C0 E (.inr (.inr (.inr ⟨29,5,_,0,E,λκ w h=>Jv ag h,E⟩)))) z_ E ?_;refine fU ?_;refine⟨ag,?_⟩;refine fW ?_;refine⟨E,by omega,p,(by rw[hp];rfl),(by rw[hp];rfl),?_⟩;refine fW ?_;refine Bw (C0 E (.inr (.inr (.inr ⟨29,5,_,0,E,λκ w h=>Jv kw h,E⟩)))) z_ E ?_;refine fU ?_;refine⟨kw,?_⟩;refine fW ?_;refine⟨E,by rw[a7];omega,p,(by rw[ec];rfl),(by rw[ec];rfl),?_⟩;refine fW ?_;refine⟨z_,?_⟩;refine gI ?_;exact Ay [] ab ⟨⟨E,E,E,E,E,E,E,E,Y⟩,⟨.inl E,E,.inl E,E,.inl E,E,.inl E,E,.inl E,E,.inl E,E,.inl E,E,.inl E,E,.inl (zH (Ob.row 5 Ca) oz.symm),E,.inl E,E,Y⟩,E,E⟩
    ·refine fU ?_;exact done E (.cons (.cell E E E E) .nil) [(0,11),(1,14),(2,17),(3,20),(4,23),(5,26),(6,29),(7,32)] [(0,.row 5 Ax n.devices),(1,.row 7 A4 n.ports),(2,.row 3 Bz n.links),(3,.row 6 As n.domains),(4,.row 4 A0 n.statics),(5,.row 4 Ba n.floods),(6,.row 5 Ca n.vrfs),(7,.row 5 B4 n.irbs)] (λ_ h=>h) E E kU
set_option maxRecDepth 20000
def Kj(l:List Device)(p:Device→Bool)(f:FuncId)(first cap:List SV)(hc:(SV.clo (.func f) first cap).inn []=true)(hf:∀x∈l,H3 prog f (first++[Ax x]++cap) (Ab (p x)))(hl:An l):Sp 273 [.sl 5 Ax l,.clo (.func f) first cap] (Aa (Bv p l)):=cT F273 ntmps273 λF hF=>by
 unfold An at hl;have az:∀x:Device,Cd [] (first++[Ax x]++cap)=true:=λx=>Dh hc rfl
 refine fW ?_;refine A9 l.length (λj=>En (λ_ x=>!(p x)) l j) (λj=>[(0,.sl 5 Ax l),(1,.clo (.func f) first cap),(7,Aa l.length),(8,Aa j)]) (λ_=>[]) [] (Bl _ _) ⟨⟨E,E,Bj _,hc,E,E,E,E,Y⟩,Y,E,E⟩ ?_;intro j hj hI;refine fU ?_;constructor<;>intro h
 ·have h:=zK h;have an:j<l.length:=by omega
  refine fU ?_;refine⟨E,by omega,by omega,?_⟩;refine fW ?_;refine D8 (hf l[j] (zI an)) E E E (by simp only[az];rfl) E E ?_;refine fU ?_;constructor<;>intro h2
  ·refine fU ?_;refine At E (.cons .tmp .nil) (zH Aa ?_) E;exact C7 an (λi hi br=>by simpa using hI i hi br) h2
  ·refine gG ?_;exact A8 [] hI an (Bi hI an (by simp[h2])) ⟨⟨E,E,Bj _,hc,E,E,E,E,Y⟩,Y,E,E⟩
 ·have h:=zQ h;refine fU ?_;refine At E (.cons .tmp .nil) (zH Aa ?_) E;exact D4 (λi hi=>by simpa using hI i hi q_)
def Aa9(l:List Flood)(p:Flood→Bool)(f:FuncId)(first cap:List SV)(hc:(SV.clo (.func f) first cap).inn []=true)(hf:∀x∈l,H3 prog f (first++[Ba x]++cap) (Ab (p x)))(hl:An l):Sp 270 [.sl 4 Ba l,.clo (.func f) first cap] (Aa (Bv p l)):=cT F270 ntmps270 λF hF=>by
 unfold An at hl;have az:∀x:Flood,Cd [] (first++[Ba x]++cap)=true:=λx=>Dh hc rfl
 refine fW ?_;refine A9 l.length (λj=>En (λ_ x=>!(p x)) l j) (λj=>[(0,.sl 4 Ba l),(1,.clo (.func f) first cap),(7,Aa l.length),(8,Aa j)]) (λ_=>[]) [] (Bl _ _) ⟨⟨E,E,Bj _,hc,E,E,E,E,Y⟩,Y,E,E⟩ ?_;intro j hj hI;refine fU ?_;constructor<;>intro h
 ·have h:=zK h;have an:j<l.length:=by omega
  refine fU ?_;refine⟨E,by omega,by omega,?_⟩;refine fW ?_;refine D8 (hf l[j] (zI an)) E E E (by simp only[az];rfl) E E ?_;refine fU ?_;constructor<;>intro h2
  ·refine fU ?_;refine At E (.cons .tmp .nil) (zH Aa ?_) E;exact C7 an (λi hi br=>by simpa using hI i hi br) h2
  ·refine gG ?_;exact A8 [] hI an (Bi hI an (by simp[h2])) ⟨⟨E,E,Bj _,hc,E,E,E,E,Y⟩,Y,E,E⟩
 ·have h:=zQ h;refine fU ?_;refine At E (.cons .tmp .nil) (zH Aa ?_) E;exact D4 (λi hi=>by simpa using hI i hi q_)
def Afw(l:List Vrf)(p:Vrf→Bool)(f:FuncId)(first cap:List SV)(hc:(SV.clo (.func f) first cap).inn []=true)(hf:∀x∈l,H3 prog f (first++[Ca x]++cap) (Ab (p x)))(hl:An l):Sp 378 [.sl 5 Ca l,.clo (.func f) first cap] (Aa (Bv p l)):=cT F378 ntmps378 λF hF=>by
 unfold An at hl;have az:∀x:Vrf,Cd [] (first++[Ca x]++cap)=true:=λx=>Dh hc rfl
 refine fW ?_;refine A9 l.length (λj=>En (λ_ x=>!(p x)) l j) (λj=>[(0,.sl 5 Ca l),(1,.clo (.func f) first cap),(7,Aa l.length),(8,Aa j)]) (λ_=>[]) [] (Bl _ _) ⟨⟨E,E,Bj _,hc,E,E,E,E,Y⟩,Y,E,E⟩ ?_;intro j hj hI;refine fU ?_;constructor<;>intro h
 ·have h:=zK h;have an:j<l.length:=by omega
  refine fU ?_;refine⟨E,by omega,by omega,?_⟩;refine fW ?_;refine D8 (hf l[j] (zI an)) E E E (by simp only[az];rfl) E E ?_;refine fU ?_;constructor<;>intro h2
  ·refine fU ?_;refine At E (.cons .tmp .nil) (zH Aa ?_) E;exact C7 an (λi hi br=>by simpa using hI i hi br) h2
  ·refine gG ?_;exact A8 [] hI an (Bi hI an (by simp[h2])) ⟨⟨E,E,Bj _,hc,E,E,E,E,Y⟩,Y,E,E⟩
 ·have h:=zQ h;refine fU ?_;refine At E (.cons .tmp .nil) (zH Aa ?_) E;exact D4 (λi hi=>by simpa using hI i hi q_)
def Vi(l:List Device)(p:Device→Bool)(f:FuncId)(first cap:List SV)(hc:(SV.clo (.func f) first cap).inn []=true)(hf:∀x∈l,H3 prog f (first++[Ax x]++cap) (Ab (p x)))(hl:An l):Sp 256 [.sl 5 Ax l,.clo (.func f) first cap] (Ab (decide (0≤Bv p l))):=cT F256 ntmps256 λF hF=>by
 have h0:Cd [] [.sl 5 Ax l,.clo (.func f) first cap]=true:=by simp only[Cd,hc];rfl
 refine fW ?_;refine Oz (Kj l p f first cap hc hf hl) F273 E E (by simp only[h0];rfl) E E ?_;exact gC
def Lw(l:List Domain)(p:Domain→Bool)(f:FuncId)(first cap:List SV)(hc:(SV.clo (.func f) first cap).inn []=true)(hf:∀x∈l,H3 prog f (first++[As x]++cap) (Ab (p x)))(hl:An l):Sp 328 [.sl 6 As l,.clo (.func f) first cap] (Ab (decide (0≤Bv p l))):=cT F328 ntmps328 λF hF=>by
 have h0:Cd [] [.sl 6 As l,.clo (.func f) first cap]=true:=by simp only[Cd,hc];rfl
 refine fW ?_;refine Oz (Ev l p f first cap hc hf hl) F164 E E (by simp only[h0];rfl) E E ?_;exact gC
def Alk(n:Net)(hn:n.Fin)(l:List Device)(p:Device→Bool)(f:FuncId)(first cap:List SV)(hc:(SV.clo (.func f) first cap).inn []=true)(hf:∀x∈l,H3 prog f (first++[Ax x]++cap) (Ab (p x)))(hl:An l):Sp 324 [Am n,.sl 5 Ax l,.clo (.func f) first cap] (Aa (if Ac n=true then Bv p l else -1)):=cT F324 ntmps324 λF hF=>by
 have hr:=A1 n hn;have q:=Kj l p f first cap hc hf hl
 refine fW ?_;refine c0 hr F22 ?_;cases hb:Ac n
 ·rw[zD y_];exact gC
 rw[zG rfl];refine fU ?_;refine Oz q F273 E E (by simp only[Cd,hc,uG];rfl) E E ?_;exact gC
def Ats(n:Net)(hn:n.Fin)(l:List Port)(p:Port→Bool)(f:FuncId)(first cap:List SV)(hc:(SV.clo (.func f) first cap).inn []=true)(hf:∀x∈l,H3 prog f (first++[A4 x]++cap) (Ab (p x)))(hl:An l):Sp 326 [Am n,.sl 7 A4 l,.clo (.func f) first cap] (Aa (if Ac n=true then Bv p l else -1)):=cT F326 ntmps326 λF hF=>by
 have hr:=A1 n hn;have q:=Tq l p f first cap hc hf hl
 refine fW ?_;refine c0 hr F22 ?_;cases hb:Ac n
 ·rw[zD y_];exact gC
 rw[zG rfl];refine fU ?_;refine Oz q F276 E E (by simp only[Cd,hc,uG];rfl) E E ?_;exact gC
def Ayy(n:Net)(hn:n.Fin)(l:List Vrf)(p:Vrf→Bool)(f:FuncId)(first cap:List SV)(hc:(SV.clo (.func f) first cap).inn []=true)(hf:∀x∈l,H3 prog f (first++[Ca x]++cap) (Ab (p x)))(hl:An l):Sp 335 [Am n,.sl 5 Ca l,.clo (.func f) first cap] (Aa (if Ac n=true then Bv p l else -1)):=cT F335 ntmps335 λF hF=>by
 have hr:=A1 n hn;have q:=Afw l p f first cap hc hf hl
 refine fW ?_;refine c0 hr F22 ?_;cases hb:Ac n
 ·rw[zD y_];exact gC
 rw[zG rfl];refine fU ?_;refine Oz q F378 E E (by simp only[Cd,hc,uG];rfl) E E ?_;exact gC
def Ak8(s:ByteArray)(d:Device):Sp 325 [Ax d,.ref 1 (Aw s) 0] (Ab (d.name==s)):=cT F325 ntmps325 λF hF=>by
 exact gA
def Ass(dev:Int)(s:ByteArray)(p:Port):Sp 327 [A4 p,.ref 1 (Aa dev) 0,.ref 1 (Aw s) 0] (Ab (p.dev==dev&&p.name==s)):=cT F327 ntmps327 λF hF=>by
 cases h:(p.dev==dev)
 ·exact gA
 ·exact gA
def Axw(dev:Int)(s:ByteArray)(p:Vrf):Sp 336 [Ca p,.ref 1 (Aa dev) 0,.ref 1 (Aw s) 0] (Ab (p.dev==dev&&p.name==s)):=cT F336 ntmps336 λF hF=>by
 cases h:(p.dev==dev)
 ·exact gA
 ·exact gA
def Ke(n:Net)(hn:n.Fin)(hr:Ac n=true)(s:ByteArray):Sp 258 [Am n,Aw s] (Aa (Cn n s)):=cT F258 ntmps258 λF hF=>by
 have q:=Alk n hn n.devices (λd=>d.name==s) 325 [] [.ref 1 (Aw s) 0] rfl (λd _=>⟨⟨_,_,F325⟩,Ak8 s d⟩) hn.devices;rw[zG hr]at q;refine fW ?_;refine Bf 3 1 (Aw s) E E E ?_;refine c0 q F324 ?_;exact gC
def Xy(n:Net)(hn:n.Fin)(hr:Ac n=true)(dev:Int)(s:ByteArray):Sp 259 [Am n,Aa dev,Aw s] (Aa (Uq n dev s)):=cT F259 ntmps259 λF hF=>by
 have q:=Ats n hn n.ports (λp=>p.dev==dev&&p.name==s) 327 [] [.ref 1 (Aa dev) 0,.ref 1 (Aw s) 0] rfl (λd _=>⟨⟨_,_,F327⟩,Ass dev s d⟩) hn.ports;rw[zG hr]at q;refine fW ?_;refine Bf 4 1 (Aa dev) E E E ?_;refine Bf 5 1 (Aw s) E E E ?_;refine c0 q F326 ?_;exact gC
def Ait(n:Net)(hn:n.Fin)(hr:Ac n=true)(dev:Int)(s:ByteArray):Sp 267 [Am n,Aa dev,Aw s] (Aa (Adc n dev s)):=cT F267 ntmps267 λF hF=>by
 have q:=Ayy n hn n.vrfs (λp=>p.dev==dev&&p.name==s) 336 [] [.ref 1 (Aa dev) 0,.ref 1 (Aw s) 0] rfl (λd _=>⟨⟨_,_,F336⟩,Axw dev s d⟩) hn.vrfs;rw[zG hr]at q;refine fW ?_;refine Bf 4 1 (Aa dev) E E E ?_;refine Bf 5 1 (Aw s) E E E ?_;refine c0 q F335 ?_;exact gC
def Lg(n:Net)(hn:n.Fin)(hr:Ac n=true)(dev vlan:Int):Sp 102 [Am n,Aa dev,Aa vlan] (Aa (C2 n dev vlan)):=by
 have q:=Kd n hn dev vlan;rwa [C1,zG hr]at q
end Go.Sy.YticmobkdaneelaaGreatDoor
