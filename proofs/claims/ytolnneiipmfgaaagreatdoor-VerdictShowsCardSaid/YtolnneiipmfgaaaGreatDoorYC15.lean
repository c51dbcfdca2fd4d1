/- Parts of a proof. -/
import Derived.Test.YtolnneiipmfgaaaGreatDoorYC10
set_option linter.all false
set_option linter.unusedVariables false
set_option linter.unusedSimpArgs false
set_option linter.deprecated false
namespace Go.Sy.YtolnneiipmfgaaaGreatDoor
open Go.Proofs Go.Proofs.Tryz
attribute [local irreducible] Go.Sy.G Go.Sy.DR
set_option maxRecDepth 100000
set_option maxHeartbeats 4000000
def Ajc(l:List Device)(hl:l.length<2147483648):Sq 103 [.sl 5 Aw l] [] (.osl 0) [(0,.row 5 Aw l)]:=cT F103 ntmps103 λF hF=>by
 refine fW ?_;refine Eh E (.inl E) E E E .sl E E ?_;intro b hb;cases b
 ·refine fU ?_;refine Ah (Ag Γ.toTy 7 E E E E E (.lit (e:=Aw) (l:=[]) E E) .sl y_ (by simp;omega) (by simp;omega)) E E ?_;refine fU ?_;exact done E (.cons .tmp .nil) [(0,7)] [(0,.row 5 Aw l)] (λ_ h=>h) E E uU
 ·have h0:l=[]:=zX (hb rfl);subst h0;refine fU ?_;refine Ce 2 1000 5 Aw E E ?_;exact done E (.cons .tmp .nil) [(0,1000)] [(0,.row 5 Aw [])] (λ_ h=>h) E E uU
def Arb(l:List Link)(hl:l.length<2147483648):Sq 105 [.sl 3 B5 l] [] (.osl 0) [(0,.row 3 B5 l)]:=cT F105 ntmps105 λF hF=>by
 refine fW ?_;refine Eh E (.inl E) E E E .sl E E ?_;intro b hb;cases b
 ·refine fU ?_;refine Ah (Ag Γ.toTy 7 E E E E E (.lit (e:=B5) (l:=[]) E E) .sl y_ (by simp;omega) (by simp;omega)) E E ?_;refine fU ?_;exact done E (.cons .tmp .nil) [(0,7)] [(0,.row 3 B5 l)] (λ_ h=>h) E E uU
 ·have h0:l=[]:=zX (hb rfl);subst h0;refine fU ?_;refine Ce 2 1000 3 B5 E E ?_;exact done E (.cons .tmp .nil) [(0,1000)] [(0,.row 3 B5 [])] (λ_ h=>h) E E uU
def Ajb(l:List Static)(hl:l.length<2147483648):Sq 107 [.sl 4 A2 l] [] (.osl 0) [(0,.row 4 A2 l)]:=cT F107 ntmps107 λF hF=>by
 refine fW ?_;refine Eh E (.inl E) E E E .sl E E ?_;intro b hb;cases b
 ·refine fU ?_;refine Ah (Ag Γ.toTy 7 E E E E E (.lit (e:=A2) (l:=[]) E E) .sl y_ (by simp;omega) (by simp;omega)) E E ?_;refine fU ?_;exact done E (.cons .tmp .nil) [(0,7)] [(0,.row 4 A2 l)] (λ_ h=>h) E E uU
 ·have h0:l=[]:=zX (hb rfl);subst h0;refine fU ?_;refine Ce 2 1000 4 A2 E E ?_;exact done E (.cons .tmp .nil) [(0,1000)] [(0,.row 4 A2 [])] (λ_ h=>h) E E uU
def Avo(l:List Irb)(hl:l.length<2147483648):Sq 110 [.sl 5 Cb l] [] (.osl 0) [(0,.row 5 Cb l)]:=cT F110 ntmps110 λF hF=>by
 refine fW ?_;refine Eh E (.inl E) E E E .sl E E ?_;intro b hb;cases b
 ·refine fU ?_;refine Ah (Ag Γ.toTy 7 E E E E E (.lit (e:=Cb) (l:=[]) E E) .sl y_ (by simp;omega) (by simp;omega)) E E ?_;refine fU ?_;exact done E (.cons .tmp .nil) [(0,7)] [(0,.row 5 Cb l)] (λ_ h=>h) E E uU
 ·have h0:l=[]:=zX (hb rfl);subst h0;refine fU ?_;refine Ce 2 1000 5 Cb E E ?_;exact done E (.cons .tmp .nil) [(0,1000)] [(0,.row 5 Cb [])] (λ_ h=>h) E E uU
def T3(n:Net)(hn:n.Fin):Sq 38 [Ao n] [] (.agg [.osl 0,.osl 1,.osl 2,.osl 3,.osl 4,.osl 5,.osl 6,.osl 7]) [(0,.row 5 Aw n.devices),(1,.row 7 A7 n.ports),(2,.row 3 B5 n.links),(3,.row 6 Aq n.domains),(4,.row 4 A2 n.statics),(5,.row 4 Bh n.floods),(6,.row 5 Ck n.vrfs),(7,.row 5 Cb n.irbs)]:=cT F38 ntmps38 λF hF=>by
 have h1:n.devices.length<2147483648∧n.ports.length<2147483648∧n.links.length<2147483648∧n.domains.length<2147483648∧n.statics.length<2147483648∧n.floods.length<2147483648∧n.vrfs.length<2147483648∧n.irbs.length<2147483648:=⟨hn.devices,hn.ports,hn.links,hn.domains,hn.statics,hn.floods,hn.vrfs,hn.irbs⟩
 have h2:(∀p∈n.ports,p.tagged.length<2147483648)∧(∀p∈n.domains,p.peers.length<2147483648)∧(∀p∈n.floods,p.addrs.length<2147483648)∧(∀p∈n.vrfs,p.imports.length<2147483648∧p.exports.length<2147483648):=⟨hn.tagged,hn.peers,hn.addrs,λv hv=>⟨hn.imports v hv,hn.exports v hv⟩⟩
 refine fW ?_;refine Bv (Ad [(0,11)] E F103 (Ajc n.devices h1.1) E Y E ⟨.inr E,Y⟩) z_ E ?_;refine fU ?_;refine Bv (Ad [(0,14)] E F104 (Ahx n.ports h1.2.1) E Y E ⟨.inr E,Y⟩) z_ E ?_;refine fU ?_;refine Bv (Ad [(0,17)] E F105 (Arb n.links h1.2.2.1) E Y E ⟨.inr E,Y⟩) z_ E ?_;refine fU ?_;refine Bv (Ad [(0,20)] E F106 (Aa7 n.domains h1.2.2.2.1) E Y E ⟨.inr E,Y⟩) z_ E ?_;refine fU ?_;refine Bv (Ad [(0,23)] E F107 (Ajb n.statics h1.2.2.2.2.1) E Y E ⟨.inr E,Y⟩) z_ E ?_;refine fU ?_;refine Bv (Ad [(0,26)] E F108 (Ad2 n.floods h1.2.2.2.2.2.1) E Y E ⟨.inr E,Y⟩) z_ E ?_;refine fU ?_;refine Bv (Ad [(0,29)] E F109 (Ak7 n.vrfs h1.2.2.2.2.2.2.1) E Y E ⟨.inr E,Y⟩) z_ E ?_;refine fU ?_;refine Bv (Ad [(0,32)] E F110 (Avo n.irbs h1.2.2.2.2.2.2.2) E Y E ⟨.inr E,Y⟩) z_ E ?_;refine fU ?_;refine⟨z_,?_⟩;refine fW ?_;refine A8 n.ports.length (λj=>[(2,.ptr 2 0),(3,.ptr 3 0),(36,Aa n.ports.length),(37,Aa j)]) (λ_=>[(2,.box [.val (.slice none 0 0),.val (.slice none 0 0),.val (.slice none 0 0),.val (.slice none 0 0),.val (.slice none 0 0),.val (.slice none 0 0),.val (.slice none 0 0),.val (.slice none 0 0)]),(3,.box [.osl 11,.osl 14,.osl 17,.osl 20,.osl 23,.osl 26,.osl 29,.osl 32]),(11,.row 5 Aw n.devices),(14,.row 7 A7 n.ports),(17,.row 3 B5 n.links),(20,.row 6 Aq n.domains),(23,.row 4 A2 n.statics),(26,.row 4 Bh n.floods),(29,.row 5 Ck n.vrfs),(32,.row 5 Cb n.irbs)]) []
  uU ?_
 intro j hj;refine fU ?_;constructor<;>intro h
 ·have ab:j<n.ports.length:=by simpa using h
  obtain ⟨p,hp⟩:∃p,n.ports[(j:Int).toNat]'q_=p:=⟨_,rfl⟩
  have af:n.ports≠[]:=λe=>by rw[e]at ab;cases ab
  have a6:n.ports.set (j:Int).toNat p=n.ports:=by rw[←hp];exact wO _
  have a7:=h2.1 p (by rw[←hp];exact zJ _);refine fU ?_;refine⟨by omega,by show _<n.ports.length;omega,?_⟩;refine fW ?_;refine⟨af,?_⟩;refine fW ?_;refine⟨E,by omega,?_⟩;rw[hp];refine fW ?_;refine cD (Ey p.tagged a7) F111 ?_;refine fU ?_;refine⟨by omega,by show _<n.ports.length;omega,?_⟩;refine fW ?_;refine⟨af,?_⟩;refine fW ?_;refine⟨E,by omega,p,(by rw[hp];rfl),(by rw[hp];rfl),?_⟩;refine fW ?_;refine⟨z_,?_⟩;refine gJ ?_;exact Az [] ab ⟨⟨E,E,E,E,E,E,E,E,Y⟩,⟨.inl E,E,.inl E,E,.inl E,E,.inl (zH (Ob.row 7 A7) a6.symm),E,.inl E,E,.inl E,E,.inl E,E,.inl E,E,.inl E,E,.inl E,E,Y⟩,E,E⟩
 ·refine fU ?_;refine A8 n.domains.length (λj=>[(2,.ptr 2 0),(3,.ptr 3 0),(55,Aa n.domains.length),(56,Aa j)]) (λ_=>[(2,.box [.val (.slice none 0 0),.val (.slice none 0 0),.val (.slice none 0 0),.val (.slice none 0 0),.val (.slice none 0 0),.val (.slice none 0 0),.val (.slice none 0 0),.val (.slice none 0 0)]),(3,.box [.osl 11,.osl 14,.osl 17,.osl 20,.osl 23,.osl 26,.osl 29,.osl 32]),(11,.row 5 Aw n.devices),(14,.row 7 A7 n.ports),(17,.row 3 B5 n.links),(20,.row 6 Aq n.domains),(23,.row 4 A2 n.statics),(26,.row 4 Bh n.floods),(29,.row 5 Ck n.vrfs),(32,.row 5 Cb n.irbs)]) []
   uU ?_
  intro j hj;refine fU ?_;constructor<;>intro h
  ·have ab:j<n.domains.length:=by simpa using h
   obtain ⟨p,hp⟩:∃p,n.domains[(j:Int).toNat]'q_=p:=⟨_,rfl⟩
   have af:n.domains≠[]:=λe=>by rw[e]at ab;cases ab
   have a6:n.domains.set (j:Int).toNat p=n.domains:=by rw[←hp];exact wO _
   have a7:=h2.2.1 p (by rw[←hp];exact zJ _);refine fU ?_;refine⟨by omega,by show _<n.domains.length;omega,?_⟩;refine fW ?_;refine⟨af,?_⟩;refine fW ?_;refine⟨E,by omega,?_⟩;rw[hp];refine fW ?_;refine cD (Ey p.peers a7) F111 ?_;refine fU ?_;refine⟨by omega,by show _<n.domains.length;omega,?_⟩;refine fW ?_;refine⟨af,?_⟩;refine fW ?_;refine⟨E,by omega,p,(by rw[hp];rfl),(by rw[hp];rfl),?_⟩;refine fW ?_;refine⟨z_,?_⟩;refine gJ ?_;exact Az [] ab ⟨⟨E,E,E,E,E,E,E,E,Y⟩,⟨.inl E,E,.inl E,E,.inl E,E,.inl E,E,.inl E,E,.inl (zH (Ob.row 6 Aq) a6.symm),E,.inl E,E,.inl E,E,.inl E,E,.inl E,E,Y⟩,E,E⟩
  ·refine fU ?_;refine A8 n.floods.length (λj=>[(2,.ptr 2 0),(3,.ptr 3 0),(74,Aa n.floods.length),(75,Aa j)]) (λ_=>[(2,.box [.val (.slice none 0 0),.val (.slice none 0 0),.val (.slice none 0 0),.val (.slice none 0 0),.val (.slice none 0 0),.val (.slice none 0 0),.val (.slice none 0 0),.val (.slice none 0 0)]),(3,.box [.osl 11,.osl 14,.osl 17,.osl 20,.osl 23,.osl 26,.osl 29,.osl 32]),(11,.row 5 Aw n.devices),(14,.row 7 A7 n.ports),(17,.row 3 B5 n.links),(20,.row 6 Aq n.domains),(23,.row 4 A2 n.statics),(26,.row 4 Bh n.floods),(29,.row 5 Ck n.vrfs),(32,.row 5 Cb n.irbs)]) []
    uU ?_
   intro j hj;refine fU ?_;constructor<;>intro h
   ·have ab:j<n.floods.length:=by simpa using h
    obtain ⟨p,hp⟩:∃p,n.floods[(j:Int).toNat]'q_=p:=⟨_,rfl⟩
    have af:n.floods≠[]:=λe=>by rw[e]at ab;cases ab
    have a6:n.floods.set (j:Int).toNat p=n.floods:=by rw[←hp];exact wO _
    have a7:=h2.2.2.1 p (by rw[←hp];exact zJ _);refine fU ?_;refine⟨by omega,by show _<n.floods.length;omega,?_⟩;refine fW ?_;refine⟨af,?_⟩;refine fW ?_;refine⟨E,by omega,?_⟩;rw[hp];refine fW ?_;refine cD (Acn p.addrs a7) F112 ?_;refine fU ?_;refine⟨by omega,by show _<n.floods.length;omega,?_⟩;refine fW ?_;refine⟨af,?_⟩;refine fW ?_;refine⟨E,by omega,p,(by rw[hp];rfl),(by rw[hp];rfl),?_⟩;refine fW ?_;refine⟨z_,?_⟩;refine gJ ?_;exact Az [] ab ⟨⟨E,E,E,E,E,E,E,E,Y⟩,⟨.inl E,E,.inl E,E,.inl E,E,.inl E,E,.inl E,E,.inl E,E,.inl E,E,.inl (zH (Ob.row 4 Bh) a6.symm),E,.inl E,E,.inl E,E,Y⟩,E,E⟩
   ·refine fU ?_;refine A8 n.vrfs.length (λj=>[(2,.ptr 2 0),(3,.ptr 3 0),(93,Aa n.vrfs.length),(94,Aa j)]) (λ_=>[(2,.box [.val (.slice none 0 0),.val (.slice none 0 0),.val (.slice none 0 0),.val (.slice none 0 0),.val (.slice none 0 0),.val (.slice none 0 0),.val (.slice none 0 0),.val (.slice none 0 0)]),(3,.box [.osl 11,.osl 14,.osl 17,.osl 20,.osl 23,.osl 26,.osl 29,.osl 32]),(11,.row 5 Aw n.devices),(14,.row 7 A7 n.ports),(17,.row 3 B5 n.links),(20,.row 6 Aq n.domains),(23,.row 4 A2 n.statics),(26,.row 4 Bh n.floods),(29,.row 5 Ck n.vrfs),(32,.row 5 Cb n.irbs)]) []
     uU ?_
    intro j hj;refine fU ?_;constructor<;>intro h
    ·have ab:j<n.vrfs.length:=by simpa using h
     obtain ⟨p,hp⟩:∃p,n.vrfs[(j:Int).toNat]'q_=p:=⟨_,rfl⟩
     have af:n.vrfs≠[]:=λe=>by rw[e]at ab;cases ab
     have a6:n.vrfs.set (j:Int).toNat p=n.vrfs:=by rw[←hp];exact wO _
     have a7:=h2.2.2.2 p (by rw[←hp];exact zJ _);refine fU ?_;have lp:n.vrfs.set (j:Int).toNat p≠[]:=by rw[a6];exact af
     have d8:(n.vrfs.set (j:Int).toNat p)[(j:Int).toNat]'(by rw[a6];omega)=p:=by simp
     have pl:(n.vrfs.set (j:Int).toNat p).set (j:Int).toNat p=n.vrfs:=by rw[a6,a6]
     refine⟨by omega,by show _<n.vrfs.length;omega,?_⟩;refine fW ?_;refine Bv (Dc E (.inr (.inr (.inr ⟨29,5,_,0,E,λκ w h=>J5 af h,E⟩)))) z_ E ?_;refine fU ?_;refine⟨af,?_⟩;refine fW ?_;refine⟨E,by omega,?_⟩;rw[hp];refine fW ?_;refine cD (Ey p.imports a7.1) F111 ?_;refine fU ?_;refine Bv (Dc E (.inr (.inr (.inr ⟨29,5,_,0,E,λκ w h=>J5 af h,E⟩)))) z_ E ?_;refine fU ?_;refine⟨af,?_⟩;refine fW ?_;refine⟨E,by omega,?_⟩;rw[hp];refine fW ?_;refine cD (Ey p.exports a7.2) F111 ?_;refine fU ?_;refine Bv (Dc E (.inr (.inr (.inr ⟨29,5,_,0,E,λκ w h=>J5 af h,E⟩)))) z_ E ?_;refine fU ?_;refine⟨af,?_⟩;refine fW ?_;refine⟨E,by omega,p,(by rw[hp];rfl),(by rw[hp];rfl),?_⟩;refine fW ?_;refine Bv (Dc E (.inr (.inr (.inr ⟨29,5,_,0,E,λκ w h=>J5 lp h,E⟩)))) z_ E ?_;refine fU ?_;refine⟨lp,?_⟩;refine fW ?_;refine⟨E,by rw[a6];omega,p,(by rw[d8];rfl),(by rw[d8];rfl),?_⟩;refine fW ?_;refine⟨z_,?_⟩;refine gJ ?_;exact Az [] ab ⟨⟨E,E,E,E,E,E,E,E,Y⟩,⟨.inl E,E,.inl E,E,.inl E,E,.inl E,E,.inl E,E,.inl E,E,.inl E,E,.inl E,E,.inl (zH (Ob.row 5 Ck) pl.symm),E,.inl E,E,Y⟩,E,E⟩
    ·refine fU ?_;exact done E (.cons (.cell E E E E) .nil) [(0,11),(1,14),(2,17),(3,20),(4,23),(5,26),(6,29),(7,32)] [(0,.row 5 Aw n.devices),(1,.row 7 A7 n.ports),(2,.row 3 B5 n.links),(3,.row 6 Aq n.domains),(4,.row 4 A2 n.statics),(5,.row 4 Bh n.floods),(6,.row 5 Ck n.vrfs),(7,.row 5 Cb n.irbs)] (λ_ h=>h) E E uU
structure LineFin(l:LineM):Prop where
 t:l.tagged.length≤100000
 i:l.imports.length≤100000
 e:l.exports.length≤100000
 a:l.addrs.length≤100000
def Mb(l m:List Int)(hl:l.length≤1000000)(ck:m.length≤1000000):Sp 384 [.sl 1 Aa l,.sl 1 Aa m] (Ab (l==m)):=cT F384 ntmps384 λF hF=>by
 by_cases hlen:l.length=m.length;rotate_left
 ·have hr:(l==m)=false:=by
   rw[zR];intro e;exact hlen (by rw[e])
  have f0:((l.length:Int) != (m.length:Int))=true:=by rw[xB];omega
  rw[hr];exact gB
 have f0:((l.length:Int) != (m.length:Int))=false:=by rw[bne_eq_false_iff_eq];omega
 refine T ?_;refine Bi l.length (λj=>l.take j=m.take j) (λj=>[(0,.sl 1 Aa l),(1,.sl 1 Aa m),(12,Aa l.length),(13,Aa j)]) (λ_=>[]) [] E U ?_;intro j hj hI;refine T ?_;constructor<;>intro h
 ·have ab:j<l.length:=qA h;have yd:j<m.length:=by omega
  have aq:(j:Int).toNat<l.length:=ab;have p6:(j:Int).toNat<m.length:=yd;clear h;by_cases he:l[j]=m[j]
  ·have f1:(l[(j:Int).toNat]'aq != m[(j:Int).toNat]'p6)=false:=by rw[bne_eq_false_iff_eq];exact he
   refine T ?_;refine Bc [] hI q_ ?_ U;rw[yC ab,yC yd,hI,he]
  ·have f1:(l[(j:Int).toNat]'aq != m[(j:Int).toNat]'p6)=true:=by rw[xB];exact he
   have hr:(l==m)=false:=by
    rw[zR];intro e;subst e;exact he rfl
   rw[hr];exact gB
 ·have cm:j=l.length:=qB h;subst cm;have hr:(l==m)=true:=by
   rw[yI];rw[yN,hlen,yN]at hI;exact hI
  rw[hr];clear h;exact gB
def Aek(l m:List Int)(hl:l.length≤1000000)(ck:m.length≤1000000):Sp 385 [.sl 1 A9 l,.sl 1 A9 m] (Ab (l==m)):=cT F385 ntmps385 λF hF=>by
 by_cases hlen:l.length=m.length;rotate_left
 ·have hr:(l==m)=false:=by
   rw[zR];intro e;exact hlen (by rw[e])
  have f0:((l.length:Int) != (m.length:Int))=true:=by rw[xB];omega
  rw[hr];exact gB
 have f0:((l.length:Int) != (m.length:Int))=false:=by rw[bne_eq_false_iff_eq];omega
 refine T ?_;refine Bi l.length (λj=>l.take j=m.take j) (λj=>[(0,.sl 1 A9 l),(1,.sl 1 A9 m),(12,Aa l.length),(13,Aa j)]) (λ_=>[]) [] E U ?_;intro j hj hI;refine T ?_;constructor<;>intro h
 ·have ab:j<l.length:=qA h;have yd:j<m.length:=by omega
  have aq:(j:Int).toNat<l.length:=ab;have p6:(j:Int).toNat<m.length:=yd;clear h;by_cases he:l[j]=m[j]
  ·have f1:(l[(j:Int).toNat]'aq != m[(j:Int).toNat]'p6)=false:=by rw[bne_eq_false_iff_eq];exact he
   refine T ?_;refine Bc [] hI q_ ?_ U;rw[yC ab,yC yd,hI,he]
  ·have f1:(l[(j:Int).toNat]'aq != m[(j:Int).toNat]'p6)=true:=by rw[xB];exact he
   have hr:(l==m)=false:=by
    rw[zR];intro e;subst e;exact he rfl
   rw[hr];exact gB
 ·have cm:j=l.length:=qB h;subst cm;have hr:(l==m)=true:=by
   rw[yI];rw[yN,hlen,yN]at hI;exact hI
  rw[hr];clear h;exact gB
def Aya(a b:LineM)(ha:LineFin a)(hb:LineFin b):Sp 361 [A3 a,A3 b] (Ab (M7 a b)):=cT F361 ntmps361 λF hF=>by
 have ht:=ha.t;have hi:=ha.i;have he:=ha.e;have haa:=ha.a
 have ht2:=hb.t;have kg:=hb.i;have dq:=hb.e;have haa2:=hb.a
 have q0:=Mb a.tagged b.tagged q_ q_;have q1:=Mb a.imports b.imports q_ q_;have q2:=Mb a.exports b.exports q_ q_;have q3:=Aek a.addrs b.addrs q_ q_;rw[M7];cases h_row:(a.row==b.row)
 ·rw[yG];exact gB
 rw[yF];cases h_kind:(a.kind==b.kind)
 ·rw[yG];exact gB
 rw[yF];cases h_dev:(a.dev==b.dev)
 ·rw[yG];exact gB
 rw[yF];cases h_port:(a.port==b.port)
 ·rw[yG];exact gB
 rw[yF];cases h_peer:(a.peer==b.peer)
 ·rw[yG];exact gB
 rw[yF];cases h_far:(a.far==b.far)
 ·rw[yG];exact gB
 rw[yF];cases h_name:(a.name==b.name)
 ·rw[yG];exact gB
 rw[yF];cases h_mac:(a.mac==b.mac)
 ·rw[yG];exact gB
 rw[yF];cases h_addr:(a.addr==b.addr)
 ·rw[yG];exact gB
 rw[yF];cases h_bits:(a.bits==b.bits)
 ·rw[yG];exact gB
 rw[yF];cases h_vlan:(a.vlan==b.vlan)
 ·rw[yG];exact gB
 rw[yF];cases h_num:(a.num==b.num)
 ·rw[yG];exact gB
 rw[yF];cases h_cost:(a.cost==b.cost)
 ·rw[yG];exact gB
 rw[yF];cases km:(a.tagged==b.tagged)
 ·rw[km]at q0;rw[yG];refine gD q0 F384 ?_;exact D
 rw[km]at q0;rw[yF];cases jf:(a.imports==b.imports)
 ·rw[jf]at q1;rw[yG];refine gA q0 F384 q1 F384 ?_;exact D
 rw[jf]at q1;rw[yF];cases jg:(a.exports==b.exports)
 ·rw[jg]at q2;rw[yG];refine gA q0 F384 q1 F384 ?_;refine C q2 F384 ?_;exact D
 rw[jg]at q2;rw[yF];cases m6:(a.addrs==b.addrs)
 ·rw[m6]at q3
  skip
  refine gA q0 F384 q1 F384 ?_;refine gI q2 F384 q3 F385 ?_;exact D
 rw[m6]at q3;refine gA q0 F384 q1 F384 ?_;refine gI q2 F384 q3 F385 ?_;exact D
def Hm(n lo hi:Int):Sp 381 [Aa n,Aa lo,Aa hi] (Ab (Cs n lo hi)):=cT F381 ntmps381 λF hF=>by
 rw[Cs];by_cases h1:lo≤n
 ·have f1:decide (n≥lo)=true:=zL h1;rw[zL h1,yF];exact gB
 ·have f1:decide (n≥lo)=false:=zI h1;rw[zI h1,yG];exact gB
def Abx(l:List Int)(bf:Int)(hl:l.length≤100000):Sp 382 [.sl 1 Aa l,Aa bf] (Ab (Ev l bf)):=cT F382 ntmps382 λF hF=>by
 have q:=Agd l 1 bf (by simp only[Am];omega);rw[Ev,U5];by_cases h0:l.length=0
 ·rw[zL h0,tR];have f0:((l.length:Int)==0)=true:=by rw[h0];rfl
  exact gB
 ·rw[zI h0,uB];have f0:((l.length:Int)==0)=false:=by rw[zR];omega
  refine gD q F132 ?_;exact D
def Wi(l:List Int)(i:Nat)(x:Int):Bool:=decide (x≠0)&&(i==0||decide (l.getD (i-1) 0<x))
def Avy(l:List Int):La l=(H7 (Wi l) l&&(decide (0<l.length)&&decide (l.length≤16))):=by
 have e:(List.range l.length).all (λi=>decide (l.getD i 0≠0)&&(i==0||decide (l.getD (i-1) 0<l.getD i 0)))=H7 (Wi l) l:=by
  rw[wF,yV,allB_iff];constructor
  ·intro h i hi;have:=h i (xC.2 hi);rw[show l.getD i 0=l[i] by rw[wC,zU hi];rfl]at this;exact this
  ·intro h i hi;have hi:=xC.1 hi;rw[show l.getD i 0=l[i] by rw[wC,zU hi];rfl];exact h i hi
 rw[La,e]
def Ast(l:List Int)(hl:l.length≤100000):Sp 383 [.sl 1 A9 l] (Ab (La l)):=cT F383 ntmps383 λF hF=>by
 have aa:=Avy l;generalize La l=r at *;refine T ?_;refine Bi l.length (λj=>H8 (Wi l) l j) (λj=>[(0,.sl 1 A9 l),(5,.sl 1 A9 l),(6,Aa l.length),(7,Aa j)]) (λ_=>[]) [] (Bo _ _) U ?_;intro j hj hI;refine T ?_;constructor<;>intro h
 ·have ab:j<l.length:=qA h;have aq:(j:Int).toNat<l.length:=ab;have dp:=λh=>Dg (p:=Wi l) ab h
  have gy:=λh=>Bl (p:=Wi l) hI ab h
  clear h;by_cases h1:l[j]=0
  ·have f1:(l[(j:Int).toNat]'aq==0)=true:=yI.2 h1;rw[dp (by simp[Wi,h1]),yG]at aa;subst aa;exact gB
  ·have f1:(l[(j:Int).toNat]'aq==0)=false:=zR.2 h1;by_cases h2:j=0
   ·subst h2;refine T ?_;exact Bc [] hI q_ (gy (by simp[Wi,h1])) U
   ·have f2:decide ((j:Int)>0)=true:=zL q_;have hk:((j:Int)-1).toNat<l.length:=by omega
    have hg:l.getD (j-1) 0=l[((j:Int)-1).toNat]'hk:=by
     rw[wC,zU (by omega:j-1<l.length)];have:((j:Int)-1).toNat=j-1:=by omega
     simp only[this];rfl
    have hx:Wi l j l[j]=(decide (l[j]≠0)&&(j==0||decide (l.getD (j-1) 0<l[j]))):=rfl;rw[hg]at hx;by_cases h3:l[((j:Int)-1).toNat]'hk<l[j]
    ·have f3:decide (l[((j:Int)-1).toNat]'hk≥l[(j:Int).toNat]'aq)=false:=zI (by show ¬_≥l[j];omega);refine T ?_;exact Bc [] hI q_ (gy (by rw[hx,zL h1,zL h3,Bool.or_true];rfl)) U
    ·have f3:decide (l[((j:Int)-1).toNat]'hk≥l[(j:Int).toNat]'aq)=true:=zL (by show _≥l[j];omega);rw[dp (by rw[hx,zI h3,zR.2 h2];simp),yG]at aa;subst aa;exact gB
 ·have cm:j=l.length:=qB h;subst cm;rw[Hh hI (yD _),yF]at aa;subst aa;clear h;by_cases h0:0<l.length
  ·rw[zL h0,yF];have f0:decide ((l.length:Int)>0)=true:=zL q_;refine T ?_;refine As E (.cons .tmp .nil) (zH Ab ?_) E;exact decide_eq_decide.2 q_
  ·rw[zI h0,yG];have f0:decide ((l.length:Int)>0)=false:=zI q_;exact gB
set_option maxRecDepth 20000
def Ky(l:List Device)(p:Device→Bool)(f:FuncId)(first cap:List SV)(hc:(SV.clo (.func f) first cap).inn []=true)(hf:∀x∈l,Hb prog f (first++[Aw x]++cap) (Ab (p x)))(hl:Am l):Sp 202 [.sl 5 Aw l,.clo (.func f) first cap] (Aa (Br p l)):=cT F202 ntmps202 λF hF=>by
 unfold Am at hl;have ar:∀x:Device,B8 [] (first++[Aw x]++cap)=true:=λx=>C9 hc rfl
 refine fW ?_;refine Bi l.length (λj=>H8 (λ_ x=>!(p x)) l j) (λj=>[(0,.sl 5 Aw l),(1,.clo (.func f) first cap),(7,Aa l.length),(8,Aa j)]) (λ_=>[]) [] (Bo _ _) ⟨⟨E,E,Bd _,hc,E,E,E,E,Y⟩,Y,E,E⟩ ?_;intro j hj hI;refine fU ?_;constructor<;>intro h
 ·have h:=zO h;have an:j<l.length:=by omega
  refine fU ?_;refine⟨E,by omega,by omega,?_⟩;refine fW ?_;refine Eg (hf l[j] (zJ an)) E E E (by simp only[ar];rfl) E E ?_;refine fU ?_;constructor<;>intro h2
  ·refine fU ?_;refine As E (.cons .tmp .nil) (zH Aa ?_) E;exact Co an (λi hi bc=>by simpa using hI i hi bc) h2
  ·refine gG ?_;exact Bc [] hI an (Bl hI an (by simp[h2])) ⟨⟨E,E,Bd _,hc,E,E,E,E,Y⟩,Y,E,E⟩
 ·have h:=zT h;refine fU ?_;refine As E (.cons .tmp .nil) (zH Aa ?_) E;exact Di (λi hi=>by simpa using hI i hi q_)
def Acg(l:List Flood)(p:Flood→Bool)(f:FuncId)(first cap:List SV)(hc:(SV.clo (.func f) first cap).inn []=true)(hf:∀x∈l,Hb prog f (first++[Bh x]++cap) (Ab (p x)))(hl:Am l):Sp 306 [.sl 4 Bh l,.clo (.func f) first cap] (Aa (Br p l)):=cT F306 ntmps306 λF hF=>by
 unfold Am at hl;have ar:∀x:Flood,B8 [] (first++[Bh x]++cap)=true:=λx=>C9 hc rfl
 refine fW ?_;refine Bi l.length (λj=>H8 (λ_ x=>!(p x)) l j) (λj=>[(0,.sl 4 Bh l),(1,.clo (.func f) first cap),(7,Aa l.length),(8,Aa j)]) (λ_=>[]) [] (Bo _ _) ⟨⟨E,E,Bd _,hc,E,E,E,E,Y⟩,Y,E,E⟩ ?_;intro j hj hI;refine fU ?_;constructor<;>intro h
 ·have h:=zO h;have an:j<l.length:=by omega
  refine fU ?_;refine⟨E,by omega,by omega,?_⟩;refine fW ?_;refine Eg (hf l[j] (zJ an)) E E E (by simp only[ar];rfl) E E ?_;refine fU ?_;constructor<;>intro h2
  ·refine fU ?_;refine As E (.cons .tmp .nil) (zH Aa ?_) E;exact Co an (λi hi bc=>by simpa using hI i hi bc) h2
  ·refine gG ?_;exact Bc [] hI an (Bl hI an (by simp[h2])) ⟨⟨E,E,Bd _,hc,E,E,E,E,Y⟩,Y,E,E⟩
 ·have h:=zT h;refine fU ?_;refine As E (.cons .tmp .nil) (zH Aa ?_) E;exact Di (λi hi=>by simpa using hI i hi q_)
def Agy(l:List Vrf)(p:Vrf→Bool)(f:FuncId)(first cap:List SV)(hc:(SV.clo (.func f) first cap).inn []=true)(hf:∀x∈l,Hb prog f (first++[Ck x]++cap) (Ab (p x)))(hl:Am l):Sp 386 [.sl 5 Ck l,.clo (.func f) first cap] (Aa (Br p l)):=cT F386 ntmps386 λF hF=>by
 unfold Am at hl;have ar:∀x:Vrf,B8 [] (first++[Ck x]++cap)=true:=λx=>C9 hc rfl
 refine fW ?_;refine Bi l.length (λj=>H8 (λ_ x=>!(p x)) l j) (λj=>[(0,.sl 5 Ck l),(1,.clo (.func f) first cap),(7,Aa l.length),(8,Aa j)]) (λ_=>[]) [] (Bo _ _) ⟨⟨E,E,Bd _,hc,E,E,E,E,Y⟩,Y,E,E⟩ ?_;intro j hj hI;refine fU ?_;constructor<;>intro h
 ·have h:=zO h;have an:j<l.length:=by omega
  refine fU ?_;refine⟨E,by omega,by omega,?_⟩;refine fW ?_;refine Eg (hf l[j] (zJ an)) E E E (by simp only[ar];rfl) E E ?_;refine fU ?_;constructor<;>intro h2
  ·refine fU ?_;refine As E (.cons .tmp .nil) (zH Aa ?_) E;exact Co an (λi hi bc=>by simpa using hI i hi bc) h2
  ·refine gG ?_;exact Bc [] hI an (Bl hI an (by simp[h2])) ⟨⟨E,E,Bd _,hc,E,E,E,E,Y⟩,Y,E,E⟩
 ·have h:=zT h;refine fU ?_;refine As E (.cons .tmp .nil) (zH Aa ?_) E;exact Di (λi hi=>by simpa using hI i hi q_)
def Wa(l:List Device)(p:Device→Bool)(f:FuncId)(first cap:List SV)(hc:(SV.clo (.func f) first cap).inn []=true)(hf:∀x∈l,Hb prog f (first++[Aw x]++cap) (Ab (p x)))(hl:Am l):Sp 294 [.sl 5 Aw l,.clo (.func f) first cap] (Ab (decide (0≤Br p l))):=cT F294 ntmps294 λF hF=>by
 have h0:B8 [] [.sl 5 Aw l,.clo (.func f) first cap]=true:=by simp only[B8,hc];rfl
 refine fW ?_;refine Mn (Ky l p f first cap hc hf hl) F202 E E (by simp only[h0];rfl) E E ?_;exact gC
def L6(l:List Domain)(p:Domain→Bool)(f:FuncId)(first cap:List SV)(hc:(SV.clo (.func f) first cap).inn []=true)(hf:∀x∈l,Hb prog f (first++[Aq x]++cap) (Ab (p x)))(hl:Am l):Sp 358 [.sl 6 Aq l,.clo (.func f) first cap] (Ab (decide (0≤Br p l))):=cT F358 ntmps358 λF hF=>by
 have h0:B8 [] [.sl 6 Aq l,.clo (.func f) first cap]=true:=by simp only[B8,hc];rfl
 refine fW ?_;refine Mn (E5 l p f first cap hc hf hl) F198 E E (by simp only[h0];rfl) E E ?_;exact gC
def Am5(n:Net)(hn:n.Fin)(l:List Device)(p:Device→Bool)(f:FuncId)(first cap:List SV)(hc:(SV.clo (.func f) first cap).inn []=true)(hf:∀x∈l,Hb prog f (first++[Aw x]++cap) (Ab (p x)))(hl:Am l):Sp 139 [Ao n,.sl 5 Aw l,.clo (.func f) first cap] (Aa (if Ac n=true then Br p l else -1)):=cT F139 ntmps139 λF hF=>by
 have hr:=A0 n hn;have q:=Ky l p f first cap hc hf hl
 refine fW ?_;refine c0 hr F20 ?_;cases hb:Ac n
 ·rw[zD y_];exact gC
 rw[zE rfl];refine fU ?_;refine Mn q F202 E E (by simp only[B8,hc,uA];rfl) E E ?_;exact gC
def Au4(n:Net)(hn:n.Fin)(l:List Port)(p:Port→Bool)(f:FuncId)(first cap:List SV)(hc:(SV.clo (.func f) first cap).inn []=true)(hf:∀x∈l,Hb prog f (first++[A7 x]++cap) (Ab (p x)))(hl:Am l):Sp 137 [Ao n,.sl 7 A7 l,.clo (.func f) first cap] (Aa (if Ac n=true then Br p l else -1)):=cT F137 ntmps137 λF hF=>by
 have hr:=A0 n hn;have q:=Uf l p f first cap hc hf hl
 refine fW ?_;refine c0 hr F20 ?_;cases hb:Ac n
 ·rw[zD y_];exact gC
 rw[zE rfl];refine fU ?_;refine Mn q F201 E E (by simp only[B8,hc,uA];rfl) E E ?_;exact gC
def A0m(n:Net)(hn:n.Fin)(l:List Vrf)(p:Vrf→Bool)(f:FuncId)(first cap:List SV)(hc:(SV.clo (.func f) first cap).inn []=true)(hf:∀x∈l,Hb prog f (first++[Ck x]++cap) (Ab (p x)))(hl:Am l):Sp 365 [Ao n,.sl 5 Ck l,.clo (.func f) first cap] (Aa (if Ac n=true then Br p l else -1)):=cT F365 ntmps365 λF hF=>by
 have hr:=A0 n hn;have q:=Agy l p f first cap hc hf hl
 refine fW ?_;refine c0 hr F20 ?_;cases hb:Ac n
 ·rw[zD y_];exact gC
 rw[zE rfl];refine fU ?_;refine Mn q F386 E E (by simp only[B8,hc,uA];rfl) E E ?_;exact gC
def Amn(s:ByteArray)(d:Device):Sp 140 [Aw d,.ref 1 (Ap s) 0] (Ab (d.name==s)):=cT F140 ntmps140 λF hF=>by
 exact gB
def At3(dev:Int)(s:ByteArray)(p:Port):Sp 138 [A7 p,.ref 1 (Aa dev) 0,.ref 1 (Ap s) 0] (Ab (p.dev==dev&&p.name==s)):=cT F138 ntmps138 λF hF=>by
 cases h:(p.dev==dev)
 ·exact gB
 ·exact gB
def Azl(dev:Int)(s:ByteArray)(p:Vrf):Sp 366 [Ck p,.ref 1 (Aa dev) 0,.ref 1 (Ap s) 0] (Ab (p.dev==dev&&p.name==s)):=cT F366 ntmps366 λF hF=>by
 cases h:(p.dev==dev)
 ·exact gB
 ·exact gB
def I4(n:Net)(hn:n.Fin)(hr:Ac n=true)(s:ByteArray):Sp 72 [Ao n,Ap s] (Aa (Cg n s)):=cT F72 ntmps72 λF hF=>by
 have q:=Am5 n hn n.devices (λd=>d.name==s) 140 [] [.ref 1 (Ap s) 0] rfl (λd _=>⟨⟨_,_,F140⟩,Amn s d⟩) hn.devices;rw[zE hr]at q;refine fW ?_;refine Ba 3 1 (Ap s) E E E ?_;refine c0 q F139 ?_;exact gC
def Tl(n:Net)(hn:n.Fin)(hr:Ac n=true)(dev:Int)(s:ByteArray):Sp 71 [Ao n,Aa dev,Ap s] (Aa (Og n dev s)):=cT F71 ntmps71 λF hF=>by
 have q:=Au4 n hn n.ports (λp=>p.dev==dev&&p.name==s) 138 [] [.ref 1 (Aa dev) 0,.ref 1 (Ap s) 0] rfl (λd _=>⟨⟨_,_,F138⟩,At3 dev s d⟩) hn.ports;rw[zE hr]at q;refine fW ?_;refine Ba 4 1 (Aa dev) E E E ?_;refine Ba 5 1 (Ap s) E E E ?_;refine c0 q F137 ?_;exact gC
def Aj0(n:Net)(hn:n.Fin)(hr:Ac n=true)(dev:Int)(s:ByteArray):Sp 303 [Ao n,Aa dev,Ap s] (Aa (Alh n dev s)):=cT F303 ntmps303 λF hF=>by
 have q:=A0m n hn n.vrfs (λp=>p.dev==dev&&p.name==s) 366 [] [.ref 1 (Aa dev) 0,.ref 1 (Ap s) 0] rfl (λd _=>⟨⟨_,_,F366⟩,Azl dev s d⟩) hn.vrfs;rw[zE hr]at q;refine fW ?_;refine Ba 4 1 (Aa dev) E E E ?_;refine Ba 5 1 (Ap s) E E E ?_;refine c0 q F365 ?_;exact gC
def Lo(n:Net)(hn:n.Fin)(hr:Ac n=true)(dev vlan:Int):Sp 141 [Ao n,Aa dev,Aa vlan] (Aa (C5 n dev vlan)):=by
 have q:=Ks n hn dev vlan;rwa [B6,zE hr]at q
set_option maxRecDepth 100000
structure LineW(l:LineM):Prop where
 fin:LineFin l
 ok:LineOK l
 dev:l.dev.size≤100000
 port:l.port.size≤100000
 peer:l.peer.size≤100000
 far:l.far.size≤100000
 name:l.name.size≤100000
def Asi(l:LineM)(hw:LineW l)(hk:l.kind=1):Sp 360 [A3 l] (.tup [A3 (Bm l).1,Ab (Bm l).2]):=cT F360 ntmps360 λF hF=>by
 have hU:Bm l=({lineZ with row:=l.row,kind:=1,dev:=l.dev,num:=l.num,mac:=l.mac},(Cs l.num 0 65535&&statB l.mac)):=by
  simp only[Bm,hk];rfl
 rw[hU];have q0:=Hm l.num 0 65535;have q1:Sp 157 [Bj l.mac] (Ab (statB l.mac)):=by
  have:=hw.ok.mac;obtain ⟨m,ck⟩:∃m:Nat,l.mac=m:=⟨l.mac.toNat,by omega⟩
  rw[ck];exact Afj m q_
 obtain ⟨row,kind,dev,port,peer,far,name,mac,addr,bits,vlan,num,cost,tagged,imports,exports,addrs⟩:=l;dsimp only at hk q0 q1⊢;subst hk;clear hU hw;generalize Cs num 0 65535=b0 at *;generalize statB mac=b1 at *;cases b0
 ·rw[yG];refine gD q0 F381 ?_;refine Al 2 (Ci {lineZ with row:=row,kind:=1,dev:=dev,num:=num,mac:=mac}) rfl vL ?_;exact gB
 rw[yF];refine gA q0 F381 q1 F157 ?_;refine Al 2 (Ci {lineZ with row:=row,kind:=1,dev:=dev,num:=num,mac:=mac}) rfl vL ?_;exact gB
def Ash(l:LineM)(hw:LineW l)(hk:l.kind=2):Sp 360 [A3 l] (.tup [A3 (Bm l).1,Ab (Bm l).2]):=cT F360 ntmps360 λF hF=>by
 have hU:Bm l=({lineZ with row:=l.row,kind:=2,dev:=l.dev,port:=l.port,cost:=l.cost,vlan:=l.vlan,tagged:=l.tagged},(A1 l.port&&(Cs l.cost 1 65535&&(Cs l.vlan 0 4094&&(Ev l.tagged 4094&&membersB l.vlan l.tagged))))):=by
  simp only[Bm,hk];rfl
 rw[hU];have q0:=E3 l.port (by have:=hw.port;omega);have q1:=Hm l.cost 1 65535;have q2:=Hm l.vlan 0 4094;have q3:=Abx l.tagged 4094 hw.fin.t;have q4:=Kk l (by have:=hw.fin.t;simp only[Am];omega);obtain ⟨row,kind,dev,port,peer,far,name,mac,addr,bits,vlan,num,cost,tagged,imports,exports,addrs⟩:=l;dsimp only at hk q0 q1 q2 q3 q4⊢;subst hk;clear hU hw;generalize A1 port=b0 at *;generalize Cs cost 1 65535=b1 at *;generalize Cs vlan 0 4094=b2 at *;generalize Ev tagged 4094=b3 at *;generalize membersB vlan tagged=b4 at *;cases b0
 ·rw[yG];refine gD q0 F47 ?_;refine Al 2 (Ci {lineZ with row:=row,kind:=2,dev:=dev,port:=port,cost:=cost,vlan:=vlan,tagged:=tagged}) rfl vL ?_;exact gB
 rw[yF];cases b1
 ·rw[yG];refine gA q0 F47 q1 F381 ?_;refine Al 2 (Ci {lineZ with row:=row,kind:=2,dev:=dev,port:=port,cost:=cost,vlan:=vlan,tagged:=tagged}) rfl vL ?_;exact gB
 rw[yF];cases b2
 ·rw[yG];refine gA q0 F47 q1 F381 ?_;refine C q2 F381 ?_;refine Al 2 (Ci {lineZ with row:=row,kind:=2,dev:=dev,port:=port,cost:=cost,vlan:=vlan,tagged:=tagged}) rfl vL ?_;exact gB
 rw[yF];cases b3
 ·rw[yG];refine gA q0 F47 q1 F381 ?_;refine gI q2 F381 q3 F382 ?_;refine Al 2 (Ci {lineZ with row:=row,kind:=2,dev:=dev,port:=port,cost:=cost,vlan:=vlan,tagged:=tagged}) rfl vL ?_;exact gB
 rw[yF];refine gA q0 F47 q1 F381 ?_;refine gI q2 F381 q3 F382 ?_;refine C q4 F158 ?_;refine Al 2 (Ci {lineZ with row:=row,kind:=2,dev:=dev,port:=port,cost:=cost,vlan:=vlan,tagged:=tagged}) rfl vL ?_;exact gB
def Asg(l:LineM)(hw:LineW l)(hk:l.kind=3):Sp 360 [A3 l] (.tup [A3 (Bm l).1,Ab (Bm l).2]):=cT F360 ntmps360 λF hF=>by
 have hU:Bm l=({lineZ with row:=l.row,kind:=3,dev:=l.dev,port:=l.port,peer:=l.peer,far:=l.far},(A1 l.port&&(A1 l.peer&&A1 l.far))):=by
  simp only[Bm,hk];rfl
 rw[hU];have q0:=E3 l.port (by have:=hw.port;omega);have q1:=E3 l.peer (by have:=hw.peer;omega);have q2:=E3 l.far (by have:=hw.far;omega);obtain ⟨row,kind,dev,port,peer,far,name,mac,addr,bits,vlan,num,cost,tagged,imports,exports,addrs⟩:=l;dsimp only at hk q0 q1 q2⊢;subst hk;clear hU hw;generalize A1 port=b0 at *;generalize A1 peer=b1 at *;generalize A1 far=b2 at *;cases b0
 ·rw[yG];refine gD q0 F47 ?_;refine Al 2 (Ci {lineZ with row:=row,kind:=3,dev:=dev,port:=port,peer:=peer,far:=far}) rfl vL ?_;exact gB
 rw[yF];cases b1
 ·rw[yG];refine gA q0 F47 q1 F47 ?_;refine Al 2 (Ci {lineZ with row:=row,kind:=3,dev:=dev,port:=port,peer:=peer,far:=far}) rfl vL ?_;exact gB
 rw[yF];refine gA q0 F47 q1 F47 ?_;refine C q2 F47 ?_;refine Al 2 (Ci {lineZ with row:=row,kind:=3,dev:=dev,port:=port,peer:=peer,far:=far}) rfl vL ?_;exact gB
def Asf(l:LineM)(hw:LineW l)(hk:l.kind=4):Sp 360 [A3 l] (.tup [A3 (Bm l).1,Ab (Bm l).2]):=cT F360 ntmps360 λF hF=>by
 have hU:Bm l=({lineZ with row:=l.row,kind:=4,dev:=l.dev,vlan:=l.vlan,mac:=l.mac,port:=l.port},(Cs l.vlan 1 4094&&(statB l.mac&&A1 l.port))):=by
  simp only[Bm,hk];rfl
 rw[hU];have q0:=Hm l.vlan 1 4094;have q1:Sp 157 [Bj l.mac] (Ab (statB l.mac)):=by
  have:=hw.ok.mac;obtain ⟨m,ck⟩:∃m:Nat,l.mac=m:=⟨l.mac.toNat,by omega⟩
  rw[ck];exact Afj m q_
 have q2:=E3 l.port (by have:=hw.port;omega);obtain ⟨row,kind,dev,port,peer,far,name,mac,addr,bits,vlan,num,cost,tagged,imports,exports,addrs⟩:=l;dsimp only at hk q0 q1 q2⊢;subst hk;clear hU hw;generalize Cs vlan 1 4094=b0 at *;generalize statB mac=b1 at *;generalize A1 port=b2 at *;cases b0
 ·rw[yG];refine gD q0 F381 ?_;refine Al 2 (Ci {lineZ with row:=row,kind:=4,dev:=dev,vlan:=vlan,mac:=mac,port:=port}) rfl vL ?_;exact gB
 rw[yF];cases b1
 ·rw[yG];refine gA q0 F381 q1 F157 ?_;refine Al 2 (Ci {lineZ with row:=row,kind:=4,dev:=dev,vlan:=vlan,mac:=mac,port:=port}) rfl vL ?_;exact gB
 rw[yF];refine gA q0 F381 q1 F157 ?_;refine C q2 F47 ?_;refine Al 2 (Ci {lineZ with row:=row,kind:=4,dev:=dev,vlan:=vlan,mac:=mac,port:=port}) rfl vL ?_;exact gB
def Asd(l:LineM)(hw:LineW l)(hk:l.kind=6):Sp 360 [A3 l] (.tup [A3 (Bm l).1,Ab (Bm l).2]):=cT F360 ntmps360 λF hF=>by
 have hU:Bm l=({lineZ with row:=l.row,kind:=6,dev:=l.dev,vlan:=l.vlan,num:=l.num},(Cs l.vlan 1 4094&&Cs l.num 1 16777215)):=by
  simp only[Bm,hk];rfl
 rw[hU];have q0:=Hm l.vlan 1 4094;have q1:=Hm l.num 1 16777215;obtain ⟨row,kind,dev,port,peer,far,name,mac,addr,bits,vlan,num,cost,tagged,imports,exports,addrs⟩:=l;dsimp only at hk q0 q1⊢;subst hk;clear hU hw;generalize Cs vlan 1 4094=b0 at *;generalize Cs num 1 16777215=b1 at *;cases b0
 ·rw[yG];refine gD q0 F381 ?_;refine Al 2 (Ci {lineZ with row:=row,kind:=6,dev:=dev,vlan:=vlan,num:=num}) rfl vL ?_;exact gB
 rw[yF];refine gA q0 F381 q1 F381 ?_;refine Al 2 (Ci {lineZ with row:=row,kind:=6,dev:=dev,vlan:=vlan,num:=num}) rfl vL ?_;exact gB
def Asc(l:LineM)(hw:LineW l)(hk:l.kind=7):Sp 360 [A3 l] (.tup [A3 (Bm l).1,Ab (Bm l).2]):=cT F360 ntmps360 λF hF=>by
 have hU:Bm l=({lineZ with row:=l.row,kind:=7,dev:=l.dev,num:=l.num,addrs:=l.addrs},(Cs l.num 1 16777215&&La l.addrs)):=by
  simp only[Bm,hk];rfl
 rw[hU];have q0:=Hm l.num 1 16777215;have q1:=Ast l.addrs hw.fin.a;obtain ⟨row,kind,dev,port,peer,far,name,mac,addr,bits,vlan,num,cost,tagged,imports,exports,addrs⟩:=l;dsimp only at hk q0 q1⊢;subst hk;clear hU hw;generalize Cs num 1 16777215=b0 at *;generalize La addrs=b1 at *;cases b0
 ·rw[yG];refine gD q0 F381 ?_;refine Al 2 (Ci {lineZ with row:=row,kind:=7,dev:=dev,num:=num,addrs:=addrs}) rfl vL ?_;exact gB
 rw[yF];refine gA q0 F381 q1 F383 ?_;refine Al 2 (Ci {lineZ with row:=row,kind:=7,dev:=dev,num:=num,addrs:=addrs}) rfl vL ?_;exact gB
def Asb(l:LineM)(hw:LineW l)(hk:l.kind=8):Sp 360 [A3 l] (.tup [A3 (Bm l).1,Ab (Bm l).2]):=cT F360 ntmps360 λF hF=>by
 have hU:Bm l=({lineZ with row:=l.row,kind:=8,dev:=l.dev,name:=l.name,imports:=l.imports,exports:=l.exports},(A1 l.name&&(Ev l.imports 65535&&Ev l.exports 65535))):=by
  simp only[Bm,hk];rfl
 rw[hU];have q0:=E3 l.name (by have:=hw.name;omega);have q1:=Abx l.imports 65535 hw.fin.i;have q2:=Abx l.exports 65535 hw.fin.e;obtain ⟨row,kind,dev,port,peer,far,name,mac,addr,bits,vlan,num,cost,tagged,imports,exports,addrs⟩:=l;dsimp only at hk q0 q1 q2⊢;subst hk;clear hU hw;generalize A1 name=b0 at *;generalize Ev imports 65535=b1 at *;generalize Ev exports 65535=b2 at *;cases b0
 ·rw[yG];refine gD q0 F47 ?_;refine Al 2 (Ci {lineZ with row:=row,kind:=8,dev:=dev,name:=name,imports:=imports,exports:=exports}) rfl vL ?_;exact gB
 rw[yF];cases b1
 ·rw[yG];refine gA q0 F47 q1 F382 ?_;refine Al 2 (Ci {lineZ with row:=row,kind:=8,dev:=dev,name:=name,imports:=imports,exports:=exports}) rfl vL ?_;exact gB
 rw[yF];refine gA q0 F47 q1 F382 ?_;refine C q2 F382 ?_;refine Al 2 (Ci {lineZ with row:=row,kind:=8,dev:=dev,name:=name,imports:=imports,exports:=exports}) rfl vL ?_;exact gB
def Asa(l:LineM)(hw:LineW l)(hk:l.kind=9):Sp 360 [A3 l] (.tup [A3 (Bm l).1,Ab (Bm l).2]):=cT F360 ntmps360 λF hF=>by
 have hU:Bm l=({lineZ with row:=l.row,kind:=9,dev:=l.dev,vlan:=l.vlan,name:=l.name,addr:=l.addr,bits:=l.bits},(Cs l.vlan 1 4094&&(A1 l.name&&subnetB l.addr l.bits))):=by
  simp only[Bm,hk];rfl
 rw[hU];have q0:=Hm l.vlan 1 4094;have q1:=E3 l.name (by have:=hw.name;omega);have q2:Sp 98 [Oh l.addr l.bits] (Ab (subnetB l.addr l.bits)):=by
  have:=hw.ok.addr;obtain ⟨m,ck⟩:∃m:Nat,l.addr=m:=⟨l.addr.toNat,by omega⟩
  rw[ck];exact Acx m l.bits q_
 obtain ⟨row,kind,dev,port,peer,far,name,mac,addr,bits,vlan,num,cost,tagged,imports,exports,addrs⟩:=l;dsimp only at hk q0 q1 q2⊢;subst hk;clear hU hw;generalize Cs vlan 1 4094=b0 at *;generalize A1 name=b1 at *;generalize subnetB addr bits=b2 at *;cases b0
 ·rw[yG];refine gD q0 F381 ?_;refine Al 2 (Ci {lineZ with row:=row,kind:=9,dev:=dev,vlan:=vlan,name:=name,addr:=addr,bits:=bits}) rfl vL ?_;exact gB
 rw[yF];cases b1
 ·rw[yG];refine gA q0 F381 q1 F47 ?_;refine Al 2 (Ci {lineZ with row:=row,kind:=9,dev:=dev,vlan:=vlan,name:=name,addr:=addr,bits:=bits}) rfl vL ?_;exact gB
 rw[yF];refine gA q0 F381 q1 F47 ?_;refine C q2 F98 ?_;refine Al 2 (Ci {lineZ with row:=row,kind:=9,dev:=dev,vlan:=vlan,name:=name,addr:=addr,bits:=bits}) rfl vL ?_;exact gB
def Ase(l:LineM)(hw:LineW l)(hk:l.kind=5):Sp 360 [A3 l] (.tup [A3 (Bm l).1,Ab (Bm l).2]):=cT F360 ntmps360 λF hF=>by
 have hU:Bm l=({lineZ with row:=l.row,kind:=5,dev:=l.dev,addr:=l.addr},decide (l.addr≠0)):=by
  simp only[Bm,hk];rfl
 rw[hU];obtain ⟨row,kind,dev,port,peer,far,name,mac,addr,bits,vlan,num,cost,tagged,imports,exports,addrs⟩:=l;dsimp only at hk⊢;subst hk;clear hU hw;have hb:decide (addr≠0)=(addr != 0):=by
  by_cases h:addr=0
  ·rw[h];rfl
  ·rw[zL h,xB.2 h]
 rw[hb];refine T ?_;refine Al 2 (Ci {lineZ with row:=row,kind:=5,dev:=dev,addr:=addr}) rfl vL ?_;exact gB
def Asj(l:LineM)(hk:¬(1≤l.kind∧l.kind≤9)):Sp 360 [A3 l] (.tup [A3 (Bm l).1,Ab (Bm l).2]):=cT F360 ntmps360 λF hF=>by
 have n1:¬l.kind=1:=by omega
 have f1:(l.kind==1)=false:=zR.2 n1;have n2:¬l.kind=2:=by omega
 have f2:(l.kind==2)=false:=zR.2 n2;have n3:¬l.kind=3:=by omega
 have f3:(l.kind==3)=false:=zR.2 n3;have n4:¬l.kind=4:=by omega
 have f4:(l.kind==4)=false:=zR.2 n4;have n5:¬l.kind=5:=by omega
 have f5:(l.kind==5)=false:=zR.2 n5;have n6:¬l.kind=6:=by omega
 have f6:(l.kind==6)=false:=zR.2 n6;have n7:¬l.kind=7:=by omega
 have f7:(l.kind==7)=false:=zR.2 n7;have n8:¬l.kind=8:=by omega
 have f8:(l.kind==8)=false:=zR.2 n8;have n9:¬l.kind=9:=by omega
 have f9:(l.kind==9)=false:=zR.2 n9;have hU:Bm l=({lineZ with row:=l.row,kind:=l.kind,dev:=l.dev},false):=by
  simp only[Bm,zD n1,zD n2,zD n3,zD n4,zD n5,zD n6,zD n7,zD n8,zD n9]
 rw[hU];refine T ?_;refine Al 2 (Ci {lineZ with row:=l.row,kind:=l.kind,dev:=l.dev}) rfl vL ?_;exact gB
def Ax8(l:LineM)(hw:LineW l):Sp 360 [A3 l] (.tup [A3 (Bm l).1,Ab (Bm l).2]):=by
 by_cases hk:1≤l.kind∧l.kind≤9
 ·rcases (by omega:l.kind=1∨l.kind=2∨l.kind=3∨l.kind=4∨l.kind=5∨l.kind=6∨l.kind=7∨l.kind=8∨l.kind=9) with h|h|h|h|h|h|h|h|h
  ·exact Asi l hw h
  ·exact Ash l hw h
  ·exact Asg l hw h
  ·exact Asf l hw h
  ·exact Ase l hw h
  ·exact Asd l hw h
  ·exact Asc l hw h
  ·exact Asb l hw h
  ·exact Asa l hw h
 ·exact Asj l hk
def Axw{l:LineM}(h:LineFin l):LineFin (Bm l).1:=by
 have ht:=h.t;have hi:=h.i;have he:=h.e;have haa:=h.a
 unfold Bm;dsimp only
 repeat' split
 all_goals exact⟨by first|exact ht|(show 0≤100000;decide),by first|exact hi|(show 0≤100000;decide),by first|exact he|(show 0≤100000;decide),by first|exact haa|(show 0≤100000;decide)⟩
def Lf(l:LineM)(hw:LineW l):Sp 297 [A3 l] (Ab (Cq l)):=cT F297 ntmps297 λF hF=>by
 have q1:=Ax8 l hw;have q2:=E3 l.dev (by have:=hw.dev;omega);have q3:=Aya (Bm l).1 l (Axw hw.fin) hw.fin;rw[Cq];generalize Bm l=u at *;obtain ⟨ul,ub⟩:=u;dsimp only at q1 q3⊢;cases ub
 ·rw[yG];refine gD q1 F360 ?_;exact D
 rw[yF];cases hn:A1 l.dev
 ·rw[hn]at q2;rw[yG];refine gA q1 F360 q2 F47 ?_;exact D
 rw[hn]at q2;rw[yF];refine gA q1 F360 q2 F47 ?_;refine C q3 F361 ?_;exact D
def Ke{α:Type}{p:α→Bool}{l:List α}(h:¬Br p l<0):∃i:Nat,Br p l=i∧i<l.length:=by
 have:=Ij p l;exact⟨(Br p l).toNat,by omega,by omega⟩
def Qu(n:Net)(hn:n.Fin)(l:LineM)(hl:LineW l)(k:Int):Sp 300 [Ao n,A3 l,Aa k] (.tup [Aa (begT n l k).1,Aa (begT n l k).2]):=cT F300 ntmps300 λF hF=>by
 have q1:=Lf l hl;have q2:=A0 n hn;have aa:=begT.eq_1 n l k;have hf:=fitsB.eq_1 n l k;generalize begT n l k=res at *;generalize fitsB n l k=f at *;cases h1:(l.kind==k) with
 |false=>
  have g1:(l.kind != k)=true:=by rw[bne,h1];rfl
  rw[h1,yG]at hf;rw[hf,zE rfl]at aa;subst aa;exact gB
 |true=>
  have g1:(l.kind != k)=false:=by rw[bne,h1];rfl
  rw[h1,yF]at hf;cases h2:Cq l with
  |false=>
   rw[h2]at q1 hf;rw[hf,yG,zE rfl]at aa;subst aa;refine gD q1 F297 ?_;exact D
  |true=>
   rw[h2]at q1 hf;cases h3:Ac n with
   |false=>
    rw[h3]at q2 hf;rw[hf,wK,zE rfl]at aa;subst aa;refine gA q1 F297 q2 F20 ?_;exact D
   |true=>
    have q3:=I4 n hn h3 l.dev;rw[h3]at q2 hf;rw[hf,zD y_]at aa;generalize Cg n l.dev=d at *;by_cases h4:d<0
    ·have g4:decide (d<0)=true:=zL h4;rw[zE h4]at aa;subst aa;refine gA q1 F297 q2 F20 ?_;refine C q3 F72 ?_;exact D
    ·have g4:decide (d<0)=false:=zI h4;rw[zD h4]at aa;subst aa;refine gA q1 F297 q2 F20 ?_;refine C q3 F72 ?_;exact D
def Ae7(n:Net)(hn:n.Fin)(l:LineM)(hl:LineW l)(k:Int):Sp 302 [Ao n,A3 l,Aa k] (.tup [Aa (begT n l k).1,Aa (begT n l k).2]):=cT F302 ntmps302 λF hF=>by
 have q1:=Lf l hl;have q2:=A0 n hn;have aa:=begT.eq_1 n l k;have hf:=fitsB.eq_1 n l k;generalize begT n l k=res at *;generalize fitsB n l k=f at *;cases h1:(l.kind==k) with
 |false=>
  have g1:(l.kind != k)=true:=by rw[bne,h1];rfl
  rw[h1,yG]at hf;rw[hf,zE rfl]at aa;subst aa;exact gB
 |true=>
  have g1:(l.kind != k)=false:=by rw[bne,h1];rfl
  rw[h1,yF]at hf;cases h2:Cq l with
  |false=>
   rw[h2]at q1 hf;rw[hf,yG,zE rfl]at aa;subst aa;refine gD q1 F297 ?_;exact D
  |true=>
   rw[h2]at q1 hf;cases h3:Ac n with
   |false=>
    rw[h3]at q2 hf;rw[hf,wK,zE rfl]at aa;subst aa;refine gA q1 F297 q2 F20 ?_;exact D
   |true=>
    have q3:=I4 n hn h3 l.dev;rw[h3]at q2 hf;rw[hf,zD y_]at aa;generalize Cg n l.dev=d at *;by_cases h4:d<0
    ·have g4:decide (d<0)=true:=zL h4;rw[zE h4]at aa;subst aa;refine gA q1 F297 q2 F20 ?_;refine C q3 F72 ?_;exact D
    ·have g4:decide (d<0)=false:=zI h4;rw[zD h4]at aa;subst aa;refine gA q1 F297 q2 F20 ?_;refine C q3 F72 ?_;exact D
def beg_ok{n:Net}{l:LineM}{k:Int}(h:(begT n l k).2=0):fitsB n l k=true∧Ac n=true∧∃i:Nat,(begT n l k).1=i∧i<n.devices.length:=by
 unfold begT at h⊢;cases hf:fitsB n l k with
 |false=>rw[hf,zE rfl]at h;exact yB h j_
 |true=>
  rw[hf,zD y_]at h;rw[zD y_];by_cases hd:Cg n l.dev<0
  ·rw[zE hd]at h;exact yB h j_
  ·rw[zD hd];refine⟨E,?_,Ke hd⟩;unfold fitsB at hf;simp only[zG]at hf;exact hf.2.2
def ownerC(a:Int)(d:Device):Sp 309 [Aw d,.ref 1 (A9 a) 0] (Ab (d.vtep==a)):=cT F309 ntmps309 λF hF=>by
 exact gB
def Atv(n:Net)(hn:n.Fin)(a:Int):Sp 238 [Ao n,A9 a] (Aa (C4 n a)):=cT F238 ntmps238 λF hF=>by
 have q:=Ky n.devices (λd=>d.vtep==a) 309 [] [.ref 1 (A9 a) 0] rfl (λd _=>⟨⟨_,_,F309⟩,ownerC a d⟩) hn.devices;refine fW ?_;refine Ba 3 1 (A9 a) E E E ?_;refine c0 q F202 ?_;exact gC
def A6r(dev vni:Int)(d:Domain):Sp 308 [Aq d,.ref 1 (Aa dev) 0,.ref 1 (Aa vni) 0] (Ab (d.dev==dev&&(d.vni==vni&&vni != 0))):=cT F308 ntmps308 λF hF=>by
 cases h:(d.dev==dev)
 ·exact gB
 ·cases h2:(d.vni==vni)
  ·exact gB
  ·exact gB
def Z5(n:Net)(hn:n.Fin)(dev vni:Int):Sp 237 [Ao n,Aa dev,Aa vni] (Aa (Je n dev vni)):=cT F237 ntmps237 λF hF=>by
 have q:=E5 n.domains (λd=>d.dev==dev&&(d.vni==vni&&vni != 0)) 308 [] [.ref 1 (Aa dev) 0,.ref 1 (Aa vni) 0] rfl (λd _=>⟨⟨_,_,F308⟩,A6r dev vni d⟩) hn.domains;refine fW ?_;refine Ba 4 1 (Aa dev) E E E ?_;refine Ba 5 1 (Aa vni) E E E ?_;refine c0 q F198 ?_;exact gC
def A6q(dev vni:Int)(f:Flood):Sp 307 [Bh f,.ref 1 (Aa dev) 0,.ref 1 (Aa vni) 0] (Ab (f.dev==dev&&f.vni==vni)):=cT F307 ntmps307 λF hF=>by
 cases h:(f.dev==dev)
 ·exact gB
 ·exact gB
def Amf(n:Net)(hn:n.Fin)(dev vni:Int):Sp 236 [Ao n,Aa dev,Aa vni] (Aa (Ef n dev vni)):=cT F236 ntmps236 λF hF=>by
 have q:=Acg n.floods (λf=>f.dev==dev&&f.vni==vni) 307 [] [.ref 1 (Aa dev) 0,.ref 1 (Aa vni) 0] rfl (λf _=>⟨⟨_,_,F307⟩,A6q dev vni f⟩) hn.floods;refine fW ?_;refine Ba 4 1 (Aa dev) E E E ?_;refine Ba 5 1 (Aa vni) E E E ?_;refine c0 q F306 ?_;exact gC
def A6p(n:Net)(hn:n.Fin)(l:LineM)(hl:LineW l):Sp 230 [Ao n,A3 l] (.tup [Ao (putVtep n l).1,Aa (putVtep n l).2]):=cT F230 ntmps230 λF hF=>by
 have q1:=Qu n hn l hl 5;have ax:=@beg_ok n l 5;have aa:=putVtep.eq_1 n l;have q2:=Atv n hn l.addr;have q3:=T3 n hn;generalize putVtep n l=res at *;generalize begT n l 5=b at *;obtain ⟨d,e⟩:=b;dsimp only at aa ax q1;by_cases h1:e≠0
 ·have g1:(e != 0)=true:=by rw[xB];exact h1
  rw[zE h1]at aa;subst aa;refine gD q1 F300 ?_;refine Al 4 (Da emptyN) E vL ?_;exact gB
 have g1:(e != 0)=false:=by rw[bne_eq_false_iff_eq];omega
 rw[zD h1]at aa;obtain ⟨_,_,i,hi,ab⟩:=ax q_;subst hi;clear ax;have aq:(i:Int).toNat<n.devices.length:=ab;have fc:nth n.devices (i:Int)=n.devices[(i:Int).toNat]'aq:=Af aq;rw[fc]at aa;by_cases h2:(n.devices[(i:Int).toNat]'aq).vtep≠0
 ·have g2:((n.devices[(i:Int).toNat]'aq).vtep != 0)=true:=by rw[xB];exact h2
  rw[zE (.inl h2)]at aa;subst aa;refine gD q1 F300 ?_;refine Al 4 (Da emptyN) E vL ?_;exact gB
 have g2:((n.devices[(i:Int).toNat]'aq).vtep != 0)=false:=by rw[bne_eq_false_iff_eq];omega
 by_cases h3:0≤C4 n l.addr
 ·have g3:decide (C4 n l.addr≥0)=true:=zL h3;rw[zE (.inr h3)]at aa;subst aa;refine gA q1 F300 q2 F238 ?_;refine Al 4 (Da emptyN) E vL ?_;exact gB
 have g3:decide (C4 n l.addr≥0)=false:=zI h3;rw[zD (λh=>h.elim h2 h3)]at aa;have a6:Yq n.devices (i:Int) l.addr=n.devices.set (i:Int).toNat { (n.devices[(i:Int).toNat]'aq) with vtep:=l.addr}:=by rw[Yq,fc]
 rw[a6]at aa;subst aa;have af:n.devices≠[]:=λe=>by rw[e]at ab;cases ab
 refine gA q1 F300 q2 F238 ?_;refine X (Ad [(0,901),(1,902),(2,903),(3,904),(4,905),(5,906),(6,907),(7,908)] E F38 q3 E W E V) ?_;refine⟨af,?_⟩;refine T ?_;refine⟨{ (n.devices[(i:Int).toNat]'aq) with vtep:=l.addr},rfl,rfl,?_⟩;refine T ?_;refine Aj 901 E ?_;refine Aj 902 E ?_;refine Aj 903 E ?_;refine Aj 904 E ?_;refine Aj 905 E ?_;refine Aj 906 E ?_;refine Aj 907 E ?_;refine Aj 908 E ?_;exact D
end Go.Sy.YtolnneiipmfgaaaGreatDoor
