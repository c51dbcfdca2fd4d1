/- Parts of a proof. -/
import Derived.Test.YticmobkdaneelaaGreatDoorYE13
set_option linter.all false
set_option linter.unusedVariables false
set_option linter.unusedSimpArgs false
set_option linter.deprecated false
namespace Go.Sy.YticmobkdaneelaaGreatDoor
open Go.Proofs Go.ChangeShapes Go.WideShapes Go.ChangeAt Go.RowKit
set_option maxRecDepth 100000
section
variable {H:Type} {enc:TypeId×Value→H} {W:World}
theorem A1q{P:Program}{t:TypeId}(ht:P.underlying t=some (.int .u8)):OpN enc P W t Al (λ_=>True) 1:=λn cs y h=>by
 obtain ⟨z,h1,h2,h3,h4⟩:=Ava ht n cs y h;have hz:0≤z∧z<256:=by
  simp only[Lit.wf,zE,zJ]at h1;have a:=h1.1;have b:=h1.2;simp only[IntKind.min,IntKind.max,IntKind.signed,IntKind.bits]at a b;constructor<;>simp at a b<;>omega
 refine⟨UInt8.ofNat z.toNat,Y,h2,h3,?_⟩;have e:Al (UInt8.ofNat z.toNat)=.val (.int .u8 z):=by
  rw[Al,UInt8.toNat_ofNat_of_lt' (by show _<256;omega),xD hz.1]
 rw[e];exact h4
theorem A1o:Op1 enc Tryz.prog W 22 (λl:List UInt8=>.sl 1 Al l) (λl=>(∀x∈l,True)∧l.length≤maxLen) :=
 An0 Tryz.underlying22 (by kernel_rfl:Tryz.prog.cellsOf 5=1) j_ (λ_=>rfl) (λ_=>rfl) (A1q Tryz.underlying5)
def StepM.In(x:StepM):Prop:=wI .i64 x.kind∧wI .i64 x.port∧wI .i64 x.domain∧wI .i64 x.at_∧((∀y∈x.bytes,True)∧x.bytes.length≤maxLen)∧((∀y∈x.up,True)∧x.up.length≤maxLen)
def SeenM.In(x:SeenM):Prop:=wI .i64 x.port∧wI .i64 x.origin∧((∀y∈x.bytes,True)∧x.bytes.length≤maxLen)
def EntryM.In(x:EntryM):Prop:=x.mac<18446744073709551616∧wI .i64 x.where_∧wI .i64 x.seen
end
open Go.Proofs Go.Proofs.Tryz
attribute [local irreducible] Go.Sy.G Go.Sy.DR
set_option maxHeartbeats 4000000
def Jv{κ:Ka}{w:World}{k sz:Nat}{α:Type}{e:α→SV}{l:List α}(ag:l≠[])(h:ObOK κ w k (.row sz e l)):∃b n c,κ k=.row b n c:=by
 rcases h with ⟨_,h⟩|⟨b,cap,_,_,_,h,_⟩
 ·exact zY h ag
 ·exact⟨b,_,cap,h⟩
def Al3(l:List Device)(hl:l.length<2147483648):Sp 83 [.sl 5 Ax l] (.sl 5 Ax l):=cT F83 ntmps83 λF hF=>by
 conv=>whnf
 refine D1 E (.inl E) E E E .sl E E ?_;intro b hb;cases b
 ·refine oF ?_;refine Af (Ag Γ.toTy 7 E E E E E (.lit (e:=Ax) (l:=[]) E E) .sl y_ (by simp;omega) (by simp;omega)) E E ?_;refine Aj 7 E ?_;exact gE
 ·have h0:l=[]:=zZ (hb rfl);subst h0;refine oT ?_;refine Au 2 5 Ax E ?_;exact dN
def Aua(l:List Link)(hl:l.length<2147483648):Sp 85 [.sl 3 Bz l] (.sl 3 Bz l):=cT F85 ntmps85 λF hF=>by
 conv=>whnf
 refine D1 E (.inl E) E E E .sl E E ?_;intro b hb;cases b
 ·refine oF ?_;refine Af (Ag Γ.toTy 7 E E E E E (.lit (e:=Bz) (l:=[]) E E) .sl y_ (by simp;omega) (by simp;omega)) E E ?_;refine Aj 7 E ?_;exact gE
 ·have h0:l=[]:=zZ (hb rfl);subst h0;refine oT ?_;refine Au 2 3 Bz E ?_;exact dN
def Alz(l:List Static)(hl:l.length<2147483648):Sp 87 [.sl 4 A0 l] (.sl 4 A0 l):=cT F87 ntmps87 λF hF=>by
 conv=>whnf
 refine D1 E (.inl E) E E E .sl E E ?_;intro b hb;cases b
 ·refine oF ?_;refine Af (Ag Γ.toTy 7 E E E E E (.lit (e:=A0) (l:=[]) E E) .sl y_ (by simp;omega) (by simp;omega)) E E ?_;refine Aj 7 E ?_;exact gE
 ·have h0:l=[]:=zZ (hb rfl);subst h0;refine oT ?_;refine Au 2 4 A0 E ?_;exact dN
def Azb(l:List Irb)(hl:l.length<2147483648):Sp 90 [.sl 5 B4 l] (.sl 5 B4 l):=cT F90 ntmps90 λF hF=>by
 conv=>whnf
 refine D1 E (.inl E) E E E .sl E E ?_;intro b hb;cases b
 ·refine oF ?_;refine Af (Ag Γ.toTy 7 E E E E E (.lit (e:=B4) (l:=[]) E E) .sl y_ (by simp;omega) (by simp;omega)) E E ?_;refine Aj 7 E ?_;exact gE
 ·have h0:l=[]:=zZ (hb rfl);subst h0;refine oT ?_;refine Au 2 5 B4 E ?_;exact dN
def Es(l:List Int)(hl:l.length<2147483648):Sp 91 [.sl 1 Aa l] (.sl 1 Aa l):=cT F91 ntmps91 λF hF=>by
 conv=>whnf
 refine D1 E (.inl E) E E E .sl E E ?_;intro b hb;cases b
 ·refine oF ?_;refine Af (Ag Γ.toTy 7 E E E E E (.lit (e:=Aa) (l:=[]) E E) .sl y_ (by simp;omega) (by simp;omega)) E E ?_;refine Aj 7 E ?_;exact gE
 ·have h0:l=[]:=zZ (hb rfl);subst h0;refine oT ?_;refine Au 2 1 Aa E ?_;exact dN
def Abm(l:List Int)(hl:l.length<2147483648):Sp 92 [.sl 1 Bb l] (.sl 1 Bb l):=cT F92 ntmps92 λF hF=>by
 conv=>whnf
 refine D1 E (.inl E) E E E .sl E E ?_;intro b hb;cases b
 ·refine oF ?_;refine Af (Ag Γ.toTy 7 E E E E E (.lit (e:=Bb) (l:=[]) E E) .sl y_ (by simp;omega) (by simp;omega)) E E ?_;refine Aj 7 E ?_;exact gE
 ·have h0:l=[]:=zZ (hb rfl);subst h0;refine oT ?_;refine Au 2 1 Bb E ?_;exact dN
def Auc(l:List Bool)(hl:l.length<2147483648):Sp 99 [.sl 1 Ab l] (.sl 1 Ab l):=cT F99 ntmps99 λF hF=>by
 conv=>whnf
 refine D1 E (.inl E) E E E .sl E E ?_;intro b hb;cases b
 ·refine oF ?_;refine Af (Ag Γ.toTy 7 E E E E E (.lit (e:=Ab) (l:=[]) E E) .sl y_ (by simp;omega) (by simp;omega)) E E ?_;refine Aj 7 E ?_;exact gE
 ·have h0:l=[]:=zZ (hb rfl);subst h0;refine oT ?_;refine Au 2 1 Ab E ?_;exact dN
def Agq(l:List Port)(hl:l.length<2147483648):Sq 84 [.sl 7 A4 l] [] (.osl 0) [(0,.row 7 A4 l)]:=cT F84 ntmps84 λF hF=>by
 conv=>whnf
 refine D1 E (.inl E) E E E .sl E E ?_;intro b hb;cases b
 ·refine oF ?_;refine Af (Ag Γ.toTy 7 E E E E E (.lit (e:=A4) (l:=[]) E E) .sl y_ (by simp;omega) (by simp;omega)) E E ?_;refine oO ?_;exact done E (.cons .tmp .nil) [(0,7)] [(0,.row 7 A4 l)] (λ_ h=>h) E E kU
 ·have h0:l=[]:=zZ (hb rfl);subst h0;refine oT ?_;refine B7 2 1000 7 A4 E E ?_;exact done E (.cons .tmp .nil) [(0,1000)] [(0,.row 7 A4 [])] (λ_ h=>h) E E kU
def Z8(l:List Domain)(hl:l.length<2147483648):Sq 86 [.sl 6 As l] [] (.osl 0) [(0,.row 6 As l)]:=cT F86 ntmps86 λF hF=>by
 conv=>whnf
 refine D1 E (.inl E) E E E .sl E E ?_;intro b hb;cases b
 ·refine oF ?_;refine Af (Ag Γ.toTy 7 E E E E E (.lit (e:=As) (l:=[]) E E) .sl y_ (by simp;omega) (by simp;omega)) E E ?_;refine oO ?_;exact done E (.cons .tmp .nil) [(0,7)] [(0,.row 6 As l)] (λ_ h=>h) E E kU
 ·have h0:l=[]:=zZ (hb rfl);subst h0;refine oT ?_;refine B7 2 1000 6 As E E ?_;exact done E (.cons .tmp .nil) [(0,1000)] [(0,.row 6 As [])] (λ_ h=>h) E E kU
def Acz(l:List Flood)(hl:l.length<2147483648):Sq 88 [.sl 4 Ba l] [] (.osl 0) [(0,.row 4 Ba l)]:=cT F88 ntmps88 λF hF=>by
 conv=>whnf
 refine D1 E (.inl E) E E E .sl E E ?_;intro b hb;cases b
 ·refine oF ?_;refine Af (Ag Γ.toTy 7 E E E E E (.lit (e:=Ba) (l:=[]) E E) .sl y_ (by simp;omega) (by simp;omega)) E E ?_;refine oO ?_;exact done E (.cons .tmp .nil) [(0,7)] [(0,.row 4 Ba l)] (λ_ h=>h) E E kU
 ·have h0:l=[]:=zZ (hb rfl);subst h0;refine oT ?_;refine B7 2 1000 4 Ba E E ?_;exact done E (.cons .tmp .nil) [(0,1000)] [(0,.row 4 Ba [])] (λ_ h=>h) E E kU
def Ajv(l:List Vrf)(hl:l.length<2147483648):Sq 89 [.sl 5 Ca l] [] (.osl 0) [(0,.row 5 Ca l)]:=cT F89 ntmps89 λF hF=>by
 conv=>whnf
 refine D1 E (.inl E) E E E .sl E E ?_;intro b hb;cases b
 ·refine oF ?_;refine Af (Ag Γ.toTy 7 E E E E E (.lit (e:=Ca) (l:=[]) E E) .sl y_ (by simp;omega) (by simp;omega)) E E ?_;refine oO ?_;exact done E (.cons .tmp .nil) [(0,7)] [(0,.row 5 Ca l)] (λ_ h=>h) E E kU
 ·have h0:l=[]:=zZ (hb rfl);subst h0;refine oT ?_;refine B7 2 1000 5 Ca E E ?_;exact done E (.cons .tmp .nil) [(0,1000)] [(0,.row 5 Ca [])] (λ_ h=>h) E E kU
def copyS(n:Net)(hn:n.Fin):Sp 30 [Am n] (Am n):=cT F30 ntmps30 λF hF=>by
 have h1:n.devices.length<2147483648∧n.ports.length<2147483648∧n.links.length<2147483648∧n.domains.length<2147483648∧n.statics.length<2147483648∧n.floods.length<2147483648∧n.vrfs.length<2147483648∧n.irbs.length<2147483648:=⟨hn.devices,hn.ports,hn.links,hn.domains,hn.statics,hn.floods,hn.vrfs,hn.irbs⟩
 have h2:(∀p∈n.ports,p.tagged.length<2147483648)∧(∀p∈n.domains,p.peers.length<2147483648)∧(∀p∈n.floods,p.addrs.length<2147483648)∧(∀p∈n.vrfs,p.imports.length<2147483648∧p.exports.length<2147483648):=⟨hn.tagged,hn.peers,hn.addrs,λv hv=>⟨hn.imports v hv,hn.exports v hv⟩⟩
 conv=>whnf
 refine cD (Al3 n.devices h1.1) F83 ?_;refine oD ?_;refine Bw (Ad [(0,14)] E F84 (Agq n.ports h1.2.1) E Y E ⟨.inr E,Y⟩) z_ E ?_;refine oD ?_;refine cD (Aua n.links h1.2.2.1) F85 ?_;refine oD ?_;refine Bw (Ad [(0,20)] E F86 (Z8 n.domains h1.2.2.2.1) E Y E ⟨.inr E,Y⟩) z_ E ?_;refine oD ?_;refine cD (Alz n.statics h1.2.2.2.2.1) F87 ?_;refine oD ?_;refine Bw (Ad [(0,26)] E F88 (Acz n.floods h1.2.2.2.2.2.1) E Y E ⟨.inr E,Y⟩) z_ E ?_;refine oD ?_;refine Bw (Ad [(0,29)] E F89 (Ajv n.vrfs h1.2.2.2.2.2.2.1) E Y E ⟨.inr E,Y⟩) z_ E ?_;refine oD ?_;refine cD (Azb n.irbs h1.2.2.2.2.2.2.2) F90 ?_;refine gH ?_;refine A5 n.ports.length (λj=>[(2,.ptr 2 0),(3,.ptr 3 0),(36,Aa n.ports.length),(37,Aa j)]) (λ_=>[(2,.box [.val (.slice none 0 0),.val (.slice none 0 0),.val (.slice none 0 0),.val (.slice none 0 0),.val (.slice none 0 0),.val (.slice none 0 0),.val (.slice none 0 0),.val (.slice none 0 0)]),(3,.box [.sl 5 Ax n.devices,.osl 14,.sl 3 Bz n.links,.osl 20,.sl 4 A0 n.statics,.osl 26,.osl 29,.sl 5 B4 n.irbs]),(14,.row 7 A4 n.ports),(20,.row 6 As n.domains),(26,.row 4 Ba n.floods),(29,.row 5 Ca n.vrfs)]) []
  kU ?_
 intro j hj;refine oO ?_;constructor<;>intro h
 ·have ab:j<n.ports.length:=by simpa using h
  obtain ⟨p,hp⟩:∃p,n.ports[(j:Int).toNat]'q_=p:=⟨_,rfl⟩
  have ag:n.ports≠[]:=λe=>by rw[e]at ab;cases ab
  have a7:n.ports.set (j:Int).toNat p=n.ports:=by rw[←hp];exact wS _
  have bh:=h2.1 p (by rw[←hp];exact zI _);refine oO ?_;refine⟨by omega,by show _<n.ports.length;omega,?_⟩
  conv=>whnf
  refine⟨ag,?_⟩
  conv=>whnf
  refine⟨E,by omega,?_⟩;rw[hp]
  conv=>whnf
  refine cD (Es p.tagged bh) F91 ?_;refine oD ?_;refine⟨by omega,by show _<n.ports.length;omega,?_⟩
  conv=>whnf
  refine⟨ag,?_⟩
  conv=>whnf
  refine⟨E,by omega,p,(by rw[hp];rfl),(by rw[hp];rfl),?_⟩
  conv=>whnf
  refine kW ?_;refine iW ?_;exact Ay [] ab ⟨⟨E,E,E,E,E,E,E,E,Y⟩,⟨.inl E,E,.inl E,E,.inl (zH (Ob.row 7 A4) a7.symm),E,.inl E,E,.inl E,E,.inl E,E,Y⟩,E,E⟩
 ·refine oO ?_;refine A5 n.domains.length (λj=>[(2,.ptr 2 0),(3,.ptr 3 0),(55,Aa n.domains.length),(56,Aa j)]) (λ_=>[(2,.box [.val (.slice none 0 0),.val (.slice none 0 0),.val (.slice none 0 0),.val (.slice none 0 0),.val (.slice none 0 0),.val (.slice none 0 0),.val (.slice none 0 0),.val (.slice none 0 0)]),(3,.box [.sl 5 Ax n.devices,.osl 14,.sl 3 Bz n.links,.osl 20,.sl 4 A0 n.statics,.osl 26,.osl 29,.sl 5 B4 n.irbs]),(14,.row 7 A4 n.ports),(20,.row 6 As n.domains),(26,.row 4 Ba n.floods),(29,.row 5 Ca n.vrfs)]) []
   kU ?_
  intro j hj;refine oO ?_;constructor<;>intro h
  ·have ab:j<n.domains.length:=by simpa using h
   obtain ⟨p,hp⟩:∃p,n.domains[(j:Int).toNat]'q_=p:=⟨_,rfl⟩
   have ag:n.domains≠[]:=λe=>by rw[e]at ab;cases ab
   have a7:n.domains.set (j:Int).toNat p=n.domains:=by rw[←hp];exact wS _
   have bh:=h2.2.1 p (by rw[←hp];exact zI _);refine oO ?_;refine⟨by omega,by show _<n.domains.length;omega,?_⟩
   conv=>whnf
   refine⟨ag,?_⟩
   conv=>whnf
   refine⟨E,by omega,?_⟩;rw[hp]
   conv=>whnf
   refine cD (Es p.peers bh) F91 ?_;refine oD ?_;refine⟨by omega,by show _<n.domains.length;omega,?_⟩
   conv=>whnf
   refine⟨ag,?_⟩
   conv=>whnf
   refine⟨E,by omega,p,(by rw[hp];rfl),(by rw[hp];rfl),?_⟩
   conv=>whnf
   refine kW ?_;refine iW ?_;exact Ay [] ab ⟨⟨E,E,E,E,E,E,E,E,Y⟩,⟨.inl E,E,.inl E,E,.inl E,E,.inl (zH (Ob.row 6 As) a7.symm),E,.inl E,E,.inl E,E,Y⟩,E,E⟩
  ·refine oO ?_;refine A5 n.floods.length (λj=>[(2,.ptr 2 0),(3,.ptr 3 0),(74,Aa n.floods.length),(75,Aa j)]) (λ_=>[(2,.box [.val (.slice none 0 0),.val (.slice none 0 0),.val (.slice none 0 0),.val (.slice none 0 0),.val (.slice none 0 0),.val (.slice none 0 0),.val (.slice none 0 0),.val (.slice none 0 0)]),(3,.box [.sl 5 Ax n.devices,.osl 14,.sl 3 Bz n.links,.osl 20,.sl 4 A0 n.statics,.osl 26,.osl 29,.sl 5 B4 n.irbs]),(14,.row 7 A4 n.ports),(20,.row 6 As n.domains),(26,.row 4 Ba n.floods),(29,.row 5 Ca n.vrfs)]) []
    kU ?_
   intro j hj;refine oO ?_;constructor<;>intro h
   ·have ab:j<n.floods.length:=by simpa using h
    obtain ⟨p,hp⟩:∃p,n.floods[(j:Int).toNat]'q_=p:=⟨_,rfl⟩
    have ag:n.floods≠[]:=λe=>by rw[e]at ab;cases ab
    have a7:n.floods.set (j:Int).toNat p=n.floods:=by rw[←hp];exact wS _
    have bh:=h2.2.2.1 p (by rw[←hp];exact zI _);refine oO ?_;refine⟨by omega,by show _<n.floods.length;omega,?_⟩
    conv=>whnf
    refine⟨ag,?_⟩
    conv=>whnf
    refine⟨E,by omega,?_⟩;rw[hp]
    conv=>whnf
    refine cD (Abm p.addrs bh) F92 ?_;refine oD ?_;refine⟨by omega,by show _<n.floods.length;omega,?_⟩
    conv=>whnf
    refine⟨ag,?_⟩
    conv=>whnf
    refine⟨E,by omega,p,(by rw[hp];rfl),(by rw[hp];rfl),?_⟩
    conv=>whnf
    refine kW ?_;refine iW ?_;exact Ay [] ab ⟨⟨E,E,E,E,E,E,E,E,Y⟩,⟨.inl E,E,.inl E,E,.inl E,E,.inl E,E,.inl (zH (Ob.row 4 Ba) a7.symm),E,.inl E,E,Y⟩,E,E⟩
   ·refine oO ?_;refine A5 n.vrfs.length (λj=>[(2,.ptr 2 0),(3,.ptr 3 0),(93,Aa n.vrfs.length),(94,Aa j)]) (λ_=>[(2,.box [.val (.slice none 0 0),.val (.slice none 0 0),.val (.slice none 0 0),.val (.slice none 0 0),.val (.slice none 0 0),.val (.slice none 0 0),.val (.slice none 0 0),.val (.slice none 0 0)]),(3,.box [.sl 5 Ax n.devices,.osl 14,.sl 3 Bz n.links,.osl 20,.sl 4 A0 n.statics,.osl 26,.osl 29,.sl 5 B4 n.irbs]),(14,.row 7 A4 n.ports),(20,.row 6 As n.domains),(26,.row 4 Ba n.floods),(29,.row 5 Ca n.vrfs)]) []
     kU ?_
    intro j hj;refine oO ?_;constructor<;>intro h
    ·have ab:j<n.vrfs.length:=by simpa using h
     obtain ⟨p,hp⟩:∃p,n.vrfs[(j:Int).toNat]'q_=p:=⟨_,rfl⟩
     have ag:n.vrfs≠[]:=λe=>by rw[e]at ab;cases ab
     have a7:n.vrfs.set (j:Int).toNat p=n.vrfs:=by rw[←hp];exact wS _
     have bh:=h2.2.2.2 p (by rw[←hp];exact zI _);refine oO ?_;have kw:n.vrfs.set (j:Int).toNat p≠[]:=by rw[a7];exact ag
     have ec:(n.vrfs.set (j:Int).toNat p)[(j:Int).toNat]'(by rw[a7];omega)=p:=by simp
     have oz:(n.vrfs.set (j:Int).toNat p).set (j:Int).toNat p=n.vrfs:=by rw[a7,a7]
     refine⟨by omega,by show _<n.vrfs.length;omega,?_⟩
     conv=>whnf
     refine Bw (C0 E (.inr (.inr (.inr ⟨29,5,_,0,E,λκ w h=>Jv ag h,E⟩)))) z_ E ?_;refine oD ?_;refine⟨ag,?_⟩
     conv=>whnf
     refine⟨E,by omega,?_⟩;rw[hp]
     conv=>whnf
     refine cD (Es p.imports bh.1) F91 ?_;refine oD ?_;refine Bw (C0 E (.inr (.inr (.inr ⟨29,5,_,0,E,λκ w h=>Jv ag h,E⟩)))) z_ E ?_;refine oD ?_;refine⟨ag,?_⟩
     conv=>whnf
     refine⟨E,by omega,?_⟩;rw[hp]
     conv=>whnf
     refine cD (Es p.exports bh.2) F91 ?_;refine oD ?_;refine Bw (C0 E (.inr (.inr (.inr ⟨29,5,_,0,E,λκ w h=>Jv ag h,E⟩)))) z_ E ?_;refine oD ?_;refine⟨ag,?_⟩
     conv=>whnf
     refine⟨E,by omega,p,(by rw[hp];rfl),(by rw[hp];rfl),?_⟩
     conv=>whnf
     refine Bw (C0 E (.inr (.inr (.inr ⟨29,5,_,0,E,λκ w h=>Jv kw h,E⟩)))) z_ E ?_;refine oD ?_;refine⟨kw,?_⟩
     conv=>whnf
     refine⟨E,by rw[a7];omega,p,(by rw[ec];rfl),(by rw[ec];rfl),?_⟩
     conv=>whnf
     refine kW ?_;refine iW ?_;exact Ay [] ab ⟨⟨E,E,E,E,E,E,E,E,Y⟩,⟨.inl E,E,.inl E,E,.inl E,E,.inl E,E,.inl E,E,.inl (zH (Ob.row 5 Ca) oz.symm),E,Y⟩,E,E⟩
    ·refine oO ?_;refine Aj 14 E ?_;refine Aj 20 E ?_;refine Aj 26 E ?_;refine Aj 29 E ?_;exact dN
structure Bx(Q:Prop):Prop where out:Q
def sE{α:Sort _}{a b:α}{K:Prop}(e:a=b)(h:K):a=b∧K:=⟨e,h⟩
def xE{α:Sort _}{a b:α}{K:a=b→Prop}(e:a=b)(h:K e):∃e:a=b,K e:=⟨e,h⟩
def sL{a b:Int}{K:Prop}(e:a≤b)(h:K):a≤b∧K:=⟨e,h⟩
def xL{a b:Int}{K:a≤b→Prop}(e:a≤b)(h:K e):∃e:a≤b,K e:=⟨e,h⟩
def sM{a b:Nat}{K:Prop}(e:a≤b)(h:K):a≤b∧K:=⟨e,h⟩
def sT{a b:Nat}{K:Prop}(e:a<b)(h:K):a<b∧K:=⟨e,h⟩
def xT{a b:Nat}{K:a<b→Prop}(e:a<b)(h:K e):∃e:a<b,K e:=⟨e,h⟩
def sN{a b:Int}{K:Prop}(e:a≠b)(h:K):a≠b∧K:=⟨e,h⟩
def sI{a:Int}{K:Prop}(e:I64 a)(h:K):I64 a∧K:=⟨e,h⟩
def ct{p q:Prop}{b:Bool}(h:q)(e:b=true→False:=by
 intro _h
 first | exact zY _h j_ | exact tK (Eq.trans (Eq.symm (by with_reducible assumption)) _h) | (simp at _h;done) | (simp at _h;omega)):(b=true→p)∧(b=false→q):=⟨λ x=>(e x).elim,λ _=>h⟩
def cf{p q:Prop}{b:Bool}(h:p)(e:b=false→False:=by
 intro _h
 first | exact zY _h j_ | exact tK (Eq.trans (Eq.symm _h) (by with_reducible assumption)) | (simp at _h;done) | (simp at _h;omega)):(b=true→p)∧(b=false→q):=⟨λ _=>h,λ x=>(e x).elim⟩
def S{P Q:Prop}(h:Q)(e:Bx Q→P:=by
 intro hb
 first|refine rg ?_|refine rd z_ ?_|skip
 conv=>whnf
 repeat (first
  |((first|refine aF ?_|refine aT ?_|refine ct ?_|refine cf ?_);(first|refine rg ?_|refine rd z_ ?_);(conv=>whnf))
  | ((first | refine⟨(by kernel_rfl:Alr _ _=true),?_⟩ | refine sI (by unfold I64;omega) ?_);(conv=>whnf)))
 exact hb.out):P:=e ⟨h⟩
def T{P Q:Prop}(h:Q)(e:Bx Q→P:=by
 intro hb;refine S ?_
 repeat ((first|refine sE (by exact rfl) ?_|refine sL (by first|omega|decide) ?_|refine xL (by first|omega|decide) ?_|refine sT (by first|omega|decide) ?_|refine xT (by first|omega|decide) ?_|refine sM (by first|omega|decide) ?_|refine sN (by first|omega|decide) ?_|refine xE (by exact rfl) ?_);refine S ?_)
 exact hb.out):P:=e ⟨h⟩
def D{P:Prop}(h:P:=by
 apply At
 ·exact E
 ·(repeat (first|exact ResVs.nil|(apply ResVs.cons;(first|exact .tmp|exact .cell rfl rfl rfl rfl))))
 ·exact E
 ·exact E):P:=h
def U{P:Prop}(h:P:=by
 refine⟨?_,?_,E,E⟩
 ·repeat (first|exact trivial|exact rfl|refine⟨rfl,rfl,?_⟩)
 ·repeat (first | exact trivial | refine⟨.inl rfl,rfl,?_⟩ | refine⟨.inr rfl,rfl,?_⟩)):P:=h
def Uo{P:Prop}(h:P:=by
 repeat (first | exact trivial | refine⟨.inl rfl,rfl,?_⟩ | refine⟨.inr rfl,rfl,?_⟩)):P:=h
def doneE{P:Program}{fn:Func}{F:Fr}{R:SV}{H':Obs}{Γ:Go.Sy.Ty P}{n:Nat}{bn:List Nat}{hbn:∀k,F.k0 k≠.new→k∈bn}{k:List KI}{s:SS}{rs:List ResultVar}(hf:fn.results=rs.toArray){xs:List SV}(hx:ResVs Γ.get s rs xs)(hR:R.ren (Bd [])=Ah4 xs)(my:R.inn (Obs.keys H')=true)(bc:Sub ⟨P,Γ,F,n,Wo P fn F R H',bn,hbn⟩ s [] [] H'):G ⟨P,Γ,F,n,Wo P fn F R H',bn,hbn⟩ (.code .ret::k) s:=done hf hx [] H' (λ_ h=>h) hR my bc
def doneF{P:Program}{fn:Func}{F:Fr}{R:SV}{H':Obs}{Γ:Go.Sy.Ty P}{n:Nat}{bn:List Nat}{hbn:∀k,F.k0 k≠.new→k∈bn}{s:SS}{rs:List ResultVar}(hf:fn.results=rs.toArray){xs:List SV}(hx:ResVs Γ.get s rs xs)(hR:R.ren (Bd [])=Ah4 xs)(my:R.inn (Obs.keys H')=true)(bc:Sub ⟨P,Γ,F,n,Wo P fn F R H',bn,hbn⟩ s [] [] H'):G ⟨P,Γ,F,n,Wo P fn F R H',bn,hbn⟩ [] s:=A6 hf hx [] H' (λ_ h=>h) hR my bc
def E0{P:Prop}(h:P:=by
 first|apply doneE|apply doneF
 ·exact E
 ·(repeat (first|exact ResVs.nil|(apply ResVs.cons;(first|exact .tmp|exact .cell rfl rfl rfl rfl))))
 ·exact E
 ·exact E
 ·exact U):P:=h
def W{P:Prop}(h:P:=by
 repeat (first | exact trivial | exact rfl | refine⟨rfl,?_⟩)):P:=h
def V{P:Prop}(h:P:=by
 repeat (first | exact trivial | refine⟨.inl rfl,?_⟩ | refine⟨.inr rfl,?_⟩)):P:=h
def C{P:Program}{f:FuncId}{fn:Func}{c:Code}{A:List SV}{R:SV}{Z Q:Prop}(hs:Sy.Spec P f A [] R [])(hf:Fun P f fn c)(h:Q)(e:Sy.Spec P f A [] R []→Fun P f fn c→Bx Q→Z:=by
 intro hs hf hb
 first|refine Oz hs hf rfl rfl rfl rfl rfl ?_|refine A31 hs hf rfl rfl rfl z_ rfl ?_
 refine T ?_;exact hb.out):Z:=e hs hf ⟨h⟩
def X{C:Cx}{k:List KI}{s:SS}{all:Array Oper}{o:Oper}{rest:List Oper}{V:Up}{Q:Prop}(hg:Good C.P o s V)(h:Q)(hd:Vf C.n o=true:=by exact rfl)(hw:Hd C.n all o s=some true:=by exact rfl)(e:Bx Q→G C (.ops all rest::k) (s.upd o.dst V):=by
 intro hb;refine T ?_;exact hb.out):G C (.ops all (o::rest)::k) s:=Af hg hd hw (e ⟨h⟩)
def Xd{C:Cx}{k:List KI}{s:SS}{all:Array Oper}{done:List Stp}{o:Oper}{rest:List Oper}{V:Up}{Q:Prop}(hg:Good C.P o s V)(h:Q)(hi:all[done.length]? = some o:=by kernel_rfl)(hw:Hd C.n all o s=some true:=by exact rfl)(hn:(Lq o || T1 o)=false:=by exact rfl)(e:Bx Q→DR C k all (done++[⟨done.length,o,V,true⟩]) rest (s.upd o.dst V):=by
 intro hb;refine T ?_;exact hb.out):DR C k all done (o::rest) s:=Bw hg hi hw (e ⟨h⟩) hn
theorem gA {P:Prop} (e:P:=by refine T ?_;exact D):P:=e
theorem gB {S0 F0 S1 F1 P Q:Prop} (s0:S0) (t0:F0) (s1:S1) (t1:F1) (h:Q) (e:S0→F0→S1→F1→Bx Q→P:=by intro s0 t0 s1 t1 b;refine T ?_;refine C s0 t0 ?_;refine C s1 t1 ?_;exact b.out):P:=e s0 t0 s1 t1 ⟨h⟩
theorem gD {S0 F0 P Q:Prop} (s0:S0) (t0:F0) (h:Q) (e:S0→F0→Bx Q→P:=by intro s0 t0 b;refine T ?_;refine C s0 t0 ?_;exact b.out):P:=e s0 t0 ⟨h⟩
theorem gJ {S0 F0 S1 F1 P Q:Prop} (s0:S0) (t0:F0) (s1:S1) (t1:F1) (h:Q) (e:S0→F0→S1→F1→Bx Q→P:=by intro s0 t0 s1 t1 b;refine C s0 t0 ?_;refine C s1 t1 ?_;exact b.out):P:=e s0 t0 s1 t1 ⟨h⟩
end Go.Sy.YticmobkdaneelaaGreatDoor
namespace Go.Sy
def Tt{P:Program}(Γ:Ty P){o:Oper}{s:SS}{t:TypeId}{ti:TI}{et:TypeId}{len esz sz g:Nat}{y:Operand}{ik:IntKind}{n:Int}{z:SV}(k:Nat)(h:o.op=.indexAddr t (.global g) y)(ht:Γ.get t=some ti)(hk:ti.k=.array et len esz)(hb:s.h k=.glob sz z g)(hy:ev s y=.val (.int ik n))(h0:0≤n)(hn:n.toNat<len):Good P o s ⟨.ref sz z (n.toNat*esz),[k],[]⟩ :=
 Good.pure λκ a w _ hr ho=>by
  have h1:=ho k y_;have h2:=hr y (by simp[h,Op.operands]);rw[hb]at h1;rw[hy]at h2;simp only[ObOK,Rd,RdD]at h1;obtain ⟨b,oo,u,e1,e2,e3,e4,e5⟩:=h1;obtain ⟨hu,i,q1,q2⟩:=Vm Γ ht hk;simp only[Nat.add_zero,Value.pointer.injEq,Option.some.injEq,Addr.mk.injEq,and_true]at e1;obtain ⟨rfl,rfl⟩:=e1;refine⟨.pointer (some ⟨g,0+n.toNat*esz,none⟩),?_,?_⟩
  ·have hg:a.eval (.global g)=.pointer (some ⟨g,0,none⟩):=rfl;simp only[execOp,h,hg,h2.val];simp[Sg w hu q1 q2 h0 hn]
  ·simp only[Rd,RdD];exact⟨g,0,u,E,e2,e3,e4,e5⟩
theorem Ob.shp_glob{x:Ob}{sz g:Nat}{z:SV}(h:x.shp=(Ob.glob sz z g).shp):x=.glob sz z g:=by
 cases x<;>simp_all[Ob.shp]
theorem GoodX.glob{P:Program}(Γ:Ty P){o:Oper}{s:SS}{t:TypeId}{ti:TI}{et:TypeId}{len esz sz g:Nat}{y:Operand}{ik:IntKind}{n:Int}{z:SV}(k:Nat)(h:o.op=.indexAddr t (.global g) y)(ht:Γ.get t=some ti)(hk:ti.k=.array et len esz)(hb:s.h k=.glob sz z g)(hy:ev s y=.val (.int ik n))(h0:0≤n)(hn:n.toNat<len):GoodX P o s ⟨.ref sz z (n.toNat*esz),[k],[]⟩ where
 good:=(Tt Γ k h ht hk hb hy h0 hn).two
 idx _:=⟨rfl,λs' h1 h2=>Tt Γ k h ht hk (Ob.shp_glob ((h2 k y_).trans (zH Ob.shp hb))) ((h1 y (by simp[h,Op.operands])).trans hy) h0 hn⟩
 st hs:=by simp[T1,h]at hs
section
open Go.ChangeShapes Go.WideShapes Go.ChangeAt Go.RowKit
variable {H:Type} {enc:TypeId×Value→H} {P:Program}
end
def Cs{P:Program}(Γ:Ty P){o:Oper}{s:SS}{t:TypeId}{ti:TI}{et:TypeId}{len:Nat}{x y:Operand}{ik:IntKind}{n:Int}{l:List SV}{z:SV}{k:EK}(h:o.op=.index t x y)(ht:Γ.get t=some ti)(hk:ti.k=.array et len 1)(he:P.underlying et=some (EK.desc k))(hx:ev s x=.agg l)(hy:ev s y=.val (.int ik n))(h0:0≤n)(hn:n.toNat<len)(hz:If l n.toNat=some z):Good P o s ⟨z,[],[]⟩ :=
 Good.pure λκ a w _ hr _=>by
  have h1:=hr x (by simp[h,Op.operands]);have h2:=hr y (by simp[h,Op.operands]);rw[hx]at h1;rw[hy]at h2;simp only[Rd]at h1;obtain ⟨cs,e1,_,e2⟩:=h1;obtain ⟨v,e3,e4⟩:=e2.getT hz;obtain ⟨hu,i,q1,q2⟩:=Vm Γ ht hk;have hp:=Aep (P:=P) w he cs.toArray e3;have ab:n<len:=by omega
  refine⟨v,?_,e4⟩;simp[execOp,h,e1,h2.val,Instr.index,run_underlying hu,asIntOf,h0,ab,sizeOf,typeInfo,q1,q2,hp]
def Ak{C:Cx}{k:List KI}{s:SS}(d:Nat)(l':List SV){l:List SV}(h:s.h d=.box l)(hv:VwL s [] l l')(hg:G C k ⟨s.σ,upd s.h d (.box l')⟩):G C k s:=λκ a w hs=>
 hg κ a w ⟨hs.defers,hs.size,hs.inv,hs.ctx,hs.slot,λ i=>by
  show ObOK κ w i (upd s.h d (.box l') i);by_cases hi:i=d
  ·subst hi;rw[B1];have:=hs.obj i;rw[h]at this;obtain ⟨b,cs,T,fr,e1,e2,e3,e4,e5⟩:=this;exact⟨b,cs,T,fr,e1,e2,e3,e4,VwL.rd hs.inv (λ_ hn=>by cases hn) hv e5⟩
  ·rw[Cp _ _ hi];exact hs.obj i⟩
def Av9{C:Cx}{kk:List KI}{s:SS}(q:Nat)(r:List Nat){sz:Nat}{α:Type}{e:α→SV}{l:List α}(h:s.h q=.row sz e l)(hl:l≠[])(hr:∀i∈r,s.σ i=.osl q)(hg:∀b cap,l.length≤cap→G C kk ⟨freezeσ s.σ (.val (.slice (some ⟨b,0,none⟩) l.length cap)) r,upd s.h q (.pin b l.length cap sz e l)⟩):G C kk s:=λκ a w hs=>by
 have cj:=hs.obj q;rw[h]at cj;rcases cj with ⟨_,h1⟩|fx
 ·exact zY h1 hl
 obtain ⟨b,cap,cs,T,fr,e1,e2,e3,e4,e5,e6⟩:=fx;refine hg b cap e5 κ a w ⟨hs.defers,hs.size,hs.inv,hs.ctx,λi=>?_,λj=>?_⟩
 ·refine freezeσ_ok r _ i (hs.slot i) (λhi=>?_);have:=hs.slot i;rw[hr i hi]at this;simp only[Rd,e1]at this;simp only[Rd];exact this
 ·show ObOK κ w j (upd s.h q _ j);by_cases hj:j=q
  ·subst hj;rw[B1];exact⟨e1,b,cap,cs,T,fr,e1,e2,e3,e4,e5,e6⟩
  ·rw[Cp _ _ hj];exact hs.obj j
def Ad8{C:Cx}{kk:List KI}{s:SS}(q d:Nat)(r:List Nat)(m:Nat){b n cap sz:Nat}{α:Type}{e:α→SV}{l:List α}(h:s.h q=.pin b n cap sz e l)(hd:s.h d=.fresh)(hm:m≤l.length)(hr:∀i∈r,s.σ i=.val (.slice (some ⟨b,0,none⟩) m cap))(hg:G C kk ⟨freezeσ s.σ (.osl d) r,upd (upd s.h q .non) d (.row sz e (l.take m))⟩):G C kk s:=λκ a w hs=>by
 have cj:=hs.obj q;rw[h]at cj;have a6:κ d=.new:=by have:=hs.obj d;rwa [hd]at this
 obtain ⟨e0,b',dx,cs,T,fr,e1,e2,e3,e4,e5,e6⟩:=cj;rw[e0]at e1;cases e1;have s6:l.length≤n:=by
  by_cases h0:l.length=0
  ·omega
  ·have:=(e6 (l.length-1) _ ⟨by omega,rfl⟩).1;omega
 obtain ⟨st,inv⟩:=Qk (n':=m) (w':=w) hs.inv e0 a6 rfl rfl rfl rfl (λ_ _=>rfl);have ab:(l.take m).length=m:=by rw[yA];omega
 refine hg _ a w ⟨hs.defers,hs.size,inv,hs.ctx.step inv st,λj=>?_,λj=>?_⟩
 ·refine freezeσ_ok r _ j (Rd.step st _ _ (hs.slot j)) (λhj=>?_);have:=hs.slot j;rw[hr j hj]at this;simp only[Rd]at this;simp[Rd,Az,this]
 ·show ObOK _ w j (upd (upd s.h q .non) d _ j);by_cases hj:j=d
  ·subst hj;rw[B1];refine .inr ⟨b,cap,cs,T,fr,by rw[Az,ab],e2,e3,e4,by omega,λi x hx=>?_⟩;obtain ⟨hi,rfl⟩:=hx;obtain ⟨_,u,q2,q3⟩:=e6 i (e l[i]) ⟨by omega,rfl⟩;refine⟨hi,u,?_,q3⟩;rw[wA];exact RdD.keep st.keeps _ _ q2
  ·rw[Cp _ _ hj];by_cases an:j=q
   ·subst an;rw[B1];trivial
   ·rw[Cp _ _ an];exact ObOK.step st (λe=>e.elim an hj) _ (hs.obj j)
def Ed{P:Program}(Γ:Ty P){o:Oper}{s:SS}{t:TypeId}{ti:TI}{et:TypeId}{sz eb b n cap lo hi:Nat}{ez:List Value}{x:Operand}{lx hx:Option Operand}(h:o.op=.slice t x lx hx none)(ht:Γ.get t=some ti)(hk:ti.k=.slice et sz eb ez)(mo:ev s x=.val (.slice (some ⟨b,0,none⟩) n cap))(jw:BoundIs s lx 0 lo)(kt:BoundIs s hx n hi)(h1:lo≤hi)(h2:hi≤cap):Good P o s ⟨.val (.slice (some (if cap=lo then ⟨b,0,none⟩ else ⟨b,lo*sz,none⟩)) (hi-lo) (cap-lo)),[],[]⟩ :=
 Good.pure λκ a w _ hr _=>by
  have r1:=hr x (by simp[h,Op.operands]);rw[mo]at r1;obtain ⟨hu,i,zv,q1,q2,q3,q4,q5⟩:=Cq Γ ht hk;have b1:=jw.val (a:=a) (λy hy=>hr y (by simp[h,Op.operands,hy]));have b2:=kt.val (a:=a) (λy hy=>hr y (by simp[h,Op.operands,hy]));have hb:=Jl (P:=P) w (len:=n) (cap:=cap) b1 b2 h1 h2;refine⟨.slice (some (if cap=lo then ⟨b,0,none⟩ else ⟨b,lo*sz,none⟩)) (hi-lo) (cap-lo),?_,by simp only[Rd]⟩;by_cases hc:cap=lo
  ·subst hc;simp[execOp,h,r1.val,Instr.sliceAt,Instr.slice,run_underlying hu,hb,sizeOf,typeInfo,q1]
  ·simp[execOp,h,r1.val,Instr.sliceAt,Instr.slice,run_underlying hu,hb,sizeOf,typeInfo,q1,q2,hc,Addr.add_lit]
def Ahs{P:Program}(Γ:Ty P){o:Oper}{s:SS}{t:TypeId}{ti:TI}{et:TypeId}{sz eb b n cap lo hi mm:Nat}{ez:List Value}{x:Operand}{lx hx mx:Operand}{k1 k2 k3:IntKind}(h:o.op=.slice t x (some lx) (some hx) (some mx))(ht:Γ.get t=some ti)(hk:ti.k=.slice et sz eb ez)(mo:ev s x=.val (.slice (some ⟨b,0,none⟩) n cap))(jw:ev s lx=.val (.int k1 lo))(kt:ev s hx=.val (.int k2 hi))(vh:ev s mx=.val (.int k3 mm))(h1:lo≤hi)(h2:hi≤mm)(h3:mm≤cap):Good P o s ⟨.top,[],[]⟩ :=
 Good.pure λκ a w _ hr _=>by
  have r1:=hr x (by simp[h,Op.operands]);have r2:=hr lx (by simp[h,Op.operands]);have r3:=hr hx (by simp[h,Op.operands]);have r4:=hr mx (by simp[h,Op.operands]);rw[mo]at r1;rw[jw]at r2;rw[kt]at r3;rw[vh]at r4;obtain ⟨hu,i,zv,q1,q2,q3,q4,q5⟩:=Cq Γ ht hk;have hb:(Instr.sliceBounds true n cap (some (a.eval lx)) (some (a.eval hx)) (some (a.eval mx))).run P w=.ok (lo,hi,mm) w:=by
   rw[r2.val,r3.val,r4.val];simp[Instr.sliceBounds,Instr.sliceBound,asIntOf,h1,h2,h3]
  refine⟨.slice (some (if mm=lo then ⟨b,0,none⟩ else ⟨b,lo*sz,none⟩)) (hi-lo) (mm-lo),?_,by simp only[Rd]⟩;by_cases hc:mm=lo
  ·subst hc;simp[execOp,h,r1.val,Instr.sliceAt,Instr.slice,run_underlying hu,hb,sizeOf,typeInfo,q1]
  ·simp[execOp,h,r1.val,Instr.sliceAt,Instr.slice,run_underlying hu,hb,sizeOf,typeInfo,q1,q2,hc,Addr.add_lit]
def T8{κ:Ka}{w w':World}{k b n cap:Nat}(hi:Inv κ w)(hk:κ k=.row b n cap)(wg:w'.os=w.os)(ht:w'.tape=w.tape)(ho:w'.output=w.output)(hs:w'.heap.size=w.heap.size)(hb:∀i,i≠b→w'.heap[i]? = w.heap[i]?):Step (λj=>j=k) κ w κ w'∧Inv κ w':=by
 have iy:(κ k).block? = some b:=by rw[hk];rfl
 refine⟨⟨by omega,wg,ht,ho,E,λ c hm=>hb c (λ e=>hi.apart k b iy (e ▸ hm)),λ c _ hn=>hb c (λ e=>hn (.inl ⟨k,e ▸ iy⟩)),λ j c hj hjc=>hb c (λ e=>hj ?_),λ _ _=>rfl,λ _ _=>.inr (.inl E),λ _ h=>.inl h⟩,
  ⟨hi.inj,λ j c h=>by rw[hs];exact hi.bnd j c h,hi.apart,λ c h=>by rw[hs];exact hi.mbnd c h⟩⟩
 subst e;exact hi.inj j k _ hjc iy
def Am8{cs:List Value}{sz n:Nat}(h:∀i,i<n→∃u:Value,u.cells.size=sz∧Ones u.cells.toList∧∀j,j<sz→cs[i*sz+j]? = u.cells[j]?){p:Nat}(hp:p<n*sz){v:Value}(hv:cs[p]? = some v):v.oneCell'=true:=by
 have h0:0<sz:=by
  rcases uB sz with rfl|h
  ·simp at hp
  ·exact h
 obtain ⟨u,h1,h2,h3⟩:=h (p/sz) (Nat.div_lt_of_lt_mul (by rw[vB];exact hp));have h4:=h3 (p%sz) (tW _ h0);rw[vB,vX,hv]at h4;obtain ⟨hl,he⟩:=wX.1 h4.symm;refine h2 v ?_;rw[←he];exact Array.getElem_mem_toList hl
def Ado{P:Program}(Γ:Ty P){o:Oper}{s:SS}(q:Nat){t:TypeId}{ti:TI}{et:TypeId}{sz eb b n cap i j:Nat}{ez:List Value}{x y:Operand}{α:Type}{e:α→SV}{l:List α}{B:Option Addr}{c:Nat}(h:o.op=.call ⟨.builtin .append,#[x,y],#[t,t]⟩)(ht:Γ.get t=some ti)(hk:ti.k=.slice et sz eb ez)(hx:ev s x=.val (.slice (some ⟨b,0,none⟩) i cap))(hy:ev s y=.val (.slice B (n-j) c))(hB:B=some (if cap=j then ⟨b,0,none⟩ else ⟨b,j*sz,none⟩))(cj:s.h q=.pin b n cap sz e l)(hl:l.length=n)(br:i≤j)(hj:j≤n):Good P o s ⟨.val (.slice (some ⟨b,0,none⟩) (i+(n-j)) cap),[],[(q,.pin b n cap sz e (l.take i++l.drop j))]⟩:=by
 intro κ a w hinv hr ho N Q hN;have r1:=hr x (by simp[h,Op.operands,Call.operands]);have r2:=hr y (by simp[h,Op.operands,Call.operands]);rw[hx]at r1;rw[hy]at r2;subst hB;have hq:=ho q (.inr (by simp[Up.ws]));rw[cj]at hq;obtain ⟨e0,b',dx,cs,T,fr,e1,e2,e3,e4,e5,e6⟩:=hq;rw[e0]at e1;cases e1;obtain ⟨hu,ii,zv,q1,q2,q3,q4,q5⟩:=Cq Γ ht hk;have dw:∀i,i<n→∃u:Value,u.cells.size=sz∧Ones u.cells.toList∧∀j,j<sz→cs[i*sz+j]? = u.cells[j]?:=λi hi=>by
  obtain ⟨_,u,_,u2⟩:=e6 i (e l[i]) ⟨by omega,rfl⟩;exact⟨u,u2⟩
 obtain ⟨news,er⟩:∃news,news=(cs.drop (j*sz)).take ((n-j)*sz):=⟨_,rfl⟩
 have hmul:(n-j)*sz+j*sz=n*sz:=by rw[←xI];congr 1;omega
 have ns:n*sz≤cap*sz:=yX sz e5;have hijs:i*sz≤j*sz:=yX sz br;have kx:news.length=(n-j)*sz:=by rw[er,yA,yO];omega
 have bf:∀p,p<(n-j)*sz→news[p]? = cs[j*sz+p]?:=λp hp=>by
  rw[er,vN,zG hp,List.getElem?_drop]
 have j4:Ones news:=λv hv=>by
  obtain ⟨p,hp,he⟩:=wD hv;have h1:news[p]? = some v:=by rw[zT hp,he]
  rw[kx]at hp;rw[bf p hp]at h1;exact Am8 dw q_ h1
 obtain ⟨w',f1,f2,f3,f4,f5,f6,f7⟩:=De P b (i*sz) T fr news 0 cs w e2 e3 q_ j4;obtain ⟨st,inv⟩:=T8 hinv e0 f3 f4 f5 f6 f7;have bz:i+(n-j)≤cap:=by omega
 have fm:∀p v,cs[p]? = some v→w.cell? ⟨b,p,none⟩=some v:=λp v hp=>by
  simp[World.cell?,e2,hp]
 have hc:(Builtin.firstCells sz (n-j) (.slice (some (if cap=j then ⟨b,0,none⟩ else ⟨b,j*sz,none⟩)) (n-j) c)).run P w=.ok news.toArray w:=by
  by_cases ky:cap=j
  ·have h0:n-j=0:=by omega
   rw[zG ky,h0];have h1:news=[]:=by rw[h0]at kx;simpa using kx
   rw[h1];exact run_firstCells_some (P:=P) w sz 0 ⟨b,0,none⟩ 0 c [] y_ (λj v hj=>by simp at hj)
  ·rw[zD ky];refine run_firstCells_some (P:=P) w sz (n-j) ⟨b,j*sz,none⟩ (n-j) c news kx (λp v hp=>?_);rw[Addr.add_lit];have ab:p<(n-j)*sz:=by
    rw[←kx];exact(List.getElem?_eq_some_iff.1 hp).1
   rw[bf p ab]at hp;exact fm _ _ hp
 have au:(execOp a.eval o).run P w=.ok (.value (.slice (some ⟨b,0,none⟩) (i+(n-j)) cap)) w':=by
  simp[execOp,h,resolve,invoke,builtin,Builtin.append_,r1.val,r2.val,run_underlying hu,sizeOf,typeInfo,q1,q2,Builtin.lenOf,bz,hc,Addr.add_lit,f1]
 simp only[Oper.wp,au,Oper.upon];refine hN _ κ w' (st.weaken (λk hk=>by subst hk;simp[Up.ws])) inv (by simp only[Rd]) (λp hp=>?_);simp only[yB]at hp;subst hp;refine⟨e0,b,cap,_,T,fr,e0,f2,by rw[Cg];exact e3,by rw[Cg];exact e4,e5,?_⟩;rintro k z ⟨cm,rfl⟩;have a7:=Mp cs news (i*sz+0);have hlen:(l.take i++l.drop j).length=i+(n-j):=by rw[zW,yA,yO];omega
 rw[hlen]at cm;by_cases py:k<i
 ·obtain ⟨_,u,u1,u2,u3,u4⟩:=e6 k (e l[k]) ⟨by omega,rfl⟩;have:(k+1)*sz≤i*sz:=yX sz q_;rw[xI,wL]at this;refine⟨by omega,u,?_,u2,u3,λp hp=>?_⟩
  ·rw[yT (by rw[yA];omega),wA];exact RdD.keep st.keeps _ _ u1
  ·rw[a7 _ q_,zD q_,u4 p hp]
 ·obtain ⟨_,u,u1,u2,u3,u4⟩:=e6 (j+(k-i)) (e l[j+(k-i)]) ⟨by omega,rfl⟩;have hks:k*sz=i*sz+(k-i)*sz:=by rw[←xI];congr 1;omega
  have hjs:(j+(k-i))*sz=j*sz+(k-i)*sz:=by rw[←xI]
  have:(k-i+1)*sz≤(n-j)*sz:=yX sz q_;rw[xI,wL]at this;refine⟨by omega,u,?_,u2,u3,λp hp=>?_⟩
  ·rw[xP (by rw[yA];omega),vT];have qz:j+(k-(l.take i).length)=j+(k-i):=by rw[yA];omega
   simp only[qz];exact RdD.keep st.keeps _ _ u1
  ·rw[a7 _ q_,zG q_,←u4 p hp,hjs];rw[show k*sz+p-(i*sz+0)=(k-i)*sz+p by omega,bf _ q_];congr 1;omega
def M6{P:Program}(Γ:Ty P){o:Oper}{s:SS}(q:Nat){t:TypeId}{ti:TI}{et:TypeId}{sz eb b n cap k m c:Nat}{ez:List Value}{x:Operand}{α:Type}{e:α→SV}{l:List α}{B:Option Addr}(h:o.op=.call ⟨.builtin .clear,#[x],#[t]⟩)(ht:Γ.get t=some ti)(hk:ti.k=.slice et sz eb ez)(nu:ez.length=sz)(hz1:∀v∈ez,v.oneCell'=true)(hx:ev s x=.val (.slice B m c))(hB:B=some (if cap=k then ⟨b,0,none⟩ else ⟨b,k*sz,none⟩))(cj:s.h q=.pin b n cap sz e l)(s7:k≤l.length)(hm:k+m≤cap):Good P o s ⟨.tup [],[],[(q,.pin b n cap sz e (l.take k))]⟩:=by
 intro κ a w hinv hr ho N Q hN;have r1:=hr x (by simp[h,Op.operands,Call.operands]);rw[hx]at r1;subst hB;have hq:=ho q (.inr (by simp[Up.ws]));rw[cj]at hq;obtain ⟨e0,b',dx,cs,T,fr,e1,e2,e3,e4,e5,e6⟩:=hq;rw[e0]at e1;cases e1;obtain ⟨hu,ii,zv,q1,q2,q3,q4,q5⟩:=Cq Γ ht hk;have q9:zv.cells.size=sz:=by rw[←nu,←q5];simp
 have ab:(l.take k).length=k:=by rw[yA];omega
 by_cases a8:m=0
 ·subst a8;have au:(execOp a.eval o).run P w=.ok (.value (.tuple #[])) w:=by
   simp[execOp,h,resolve,invoke,builtin,Builtin.clear_,r1.val,run_underlying hu]
  simp only[Oper.wp,au,Oper.upon];refine hN _ κ w (Step.refl _ κ w) hinv (by simp[Rd,RdL]) (λp hp=>?_);simp only[yB]at hp;subst hp;refine⟨e0,b,cap,cs,T,fr,e0,e2,e3,e4,e5,?_⟩;rintro p z ⟨gr,rfl⟩;rw[wA];exact e6 p (e l[p]) ⟨by omega,E⟩
 obtain ⟨m,rfl⟩:∃p,m=p+1:=⟨m-1,by omega⟩
 rw[zD q_]at r1;obtain ⟨news,er⟩:∃news,news=(Builtin.zeroCells zv.cells (m+1)).toList:=⟨_,rfl⟩
 have kx:news.length=(m+1)*sz:=by rw[er,wT,W6,q9]
 have j4:Ones news:=λv hv=>by
  rw[er,Array.mem_toList_iff]at hv;refine hz1 v ?_;rw[←q5];simp only[Builtin.zeroCells,Array.mem_map,Array.mem_range]at hv;obtain ⟨p,hp,rfl⟩:=hv;have h0:0<zv.cells.size:=by
   rcases uB zv.cells.size with h|h
   ·rw[h]at hp;simp at hp
   ·exact h
  have cw:p%zv.cells.size<zv.cells.size:=tW _ h0;rw[getElem!_pos zv.cells _ cw];exact Array.getElem_mem_toList cw
 have hmul:k*sz+(m+1)*sz≤cap*sz:=by rw[←xI];exact yX sz hm
 obtain ⟨w',f1,f2,f3,f4,f5,f6,f7⟩:=De P b (k*sz) T fr news 0 cs w e2 e3 q_ j4;obtain ⟨st,inv⟩:=T8 hinv e0 f3 f4 f5 f6 f7;have au:(execOp a.eval o).run P w=.ok (.value (.tuple #[])) w':=by
  simp[execOp,h,resolve,invoke,builtin,Builtin.clear_,r1.val,run_underlying hu,zeroValue,typeInfo,q1,q4,←er,f1]
 simp only[Oper.wp,au,Oper.upon];refine hN _ κ w' (st.weaken (λk hk=>by subst hk;simp[Up.ws])) inv (by simp[Rd,RdL]) (λp hp=>?_);simp only[yB]at hp;subst hp;refine⟨e0,b,cap,_,T,fr,e0,f2,by rw[Cg];exact e3,by rw[Cg];exact e4,e5,?_⟩;rintro p z ⟨gr,rfl⟩;have a7:=Mp cs news (k*sz+0);obtain ⟨h0,u,u1,u2,u3,u4⟩:=e6 p (e l[p]) ⟨by omega,rfl⟩;have:(p+1)*sz≤k*sz:=yX sz q_;rw[xI,wL]at this;refine⟨h0,u,?_,u2,u3,λj hj=>?_⟩
 ·rw[wA];exact RdD.keep st.keeps _ _ u1
 ·have j5:k*sz≤cs.length:=by omega
  rw[a7 _ q_,zD q_,u4 j hj]
def G_dat{C:Cx}{kk:List KI}{s:SS}(i q:Nat){sz:Nat}{α:Type}{e:α→SV}{l:List α}(h:s.σ i=.sl sz e l)(hl:l≠[])(hg:∀b off cap,l.length≤cap→G C kk ⟨upd s.σ i (.val (.slice (some ⟨b,off,none⟩) l.length cap)),upd s.h q (.dat (.slice (some ⟨b,off,none⟩) l.length cap) sz e l)⟩):G C kk s:=λκ a w hs=>by
 have h1:=hs.slot i;rw[h]at h1;have y2:=h1;simp only[Rd,RdD]at h1;rcases h1 with ⟨h2,_⟩|⟨b,off,cap,h2,h3,_⟩
 ·exact zY h2 hl
 ·refine hg b off cap h3 κ a w ⟨hs.defers,hs.size,hs.inv,hs.ctx,λj=>?_,λj=>?_⟩
  ·show Rd κ w (upd s.σ i (.val (.slice (some ⟨b,off,none⟩) l.length cap)) j) _;by_cases hj:j=i
   ·subst hj;rw[B1];simp only[Rd];exact h2
   ·rw[Cp _ _ hj];exact hs.slot j
  ·show ObOK κ w j (upd s.h q (.dat (.slice (some ⟨b,off,none⟩) l.length cap) sz e l) j);by_cases hj:j=q
   ·subst hj;rw[B1];rw[h2]at y2;exact y2
   ·rw[Cp _ _ hj];exact hs.obj j
def Aht{P:Program}(Γ:Ty P){o:Oper}{s:SS}{t:TypeId}{ti:TI}{et:TypeId}{sz eb b off n cap hi:Nat}{ez:List Value}{x hx mx:Operand}{k2 k3:IntKind}(h:o.op=.slice t x none (some hx) (some mx))(ht:Γ.get t=some ti)(hk:ti.k=.slice et sz eb ez)(mo:ev s x=.val (.slice (some ⟨b,off,none⟩) n cap))(kt:ev s hx=.val (.int k2 hi))(vh:ev s mx=.val (.int k3 hi))(h3:hi≤cap):Good P o s ⟨.val (.slice (some ⟨b,off,none⟩) hi hi),[],[]⟩ :=
 Good.pure λκ a w _ hr _=>by
  have r1:=hr x (by simp[h,Op.operands]);have r3:=hr hx (by simp[h,Op.operands]);have r4:=hr mx (by simp[h,Op.operands]);rw[mo]at r1;rw[kt]at r3;rw[vh]at r4;obtain ⟨hu,i,zv,q1,q2,q3,q4,q5⟩:=Cq Γ ht hk;have hb:(Instr.sliceBounds true n cap none (some (a.eval hx)) (some (a.eval mx))).run P w=.ok (0,hi,hi) w:=by
   rw[r3.val,r4.val];simp[Instr.sliceBounds,Instr.sliceBound,asIntOf,h3]
  refine⟨.slice (some ⟨b,off,none⟩) hi hi,?_,by simp only[Rd]⟩;by_cases hc:hi=0
  ·subst hc;simp[execOp,h,r1.val,Instr.sliceAt,Instr.slice,run_underlying hu,hb,sizeOf,typeInfo,q1]
  ·simp[execOp,h,r1.val,Instr.sliceAt,Instr.slice,run_underlying hu,hb,sizeOf,typeInfo,q1,q2,hc,Addr.add_lit]
def Ahy{P:Program}(Γ:Ty P){o:Oper}{s:SS}(q:Nat){t:TypeId}{ti:TI}{et:TypeId}{sz eb b off n cap:Nat}{ez:List Value}{x y:Operand}{α:Type}{e:α→SV}{l l':List α}(h:o.op=.call ⟨.builtin .append,#[x,y],#[t,t]⟩)(ht:Γ.get t=some ti)(hk:ti.k=.slice et sz eb ez)(nu:ez.length=sz)(hx:ev s x=.val (.slice (some ⟨b,off,none⟩) n n))(hq:s.h q=.dat (.slice (some ⟨b,off,none⟩) l.length cap) sz e l)(hn:n≤l.length)(hy:ev s y=.sl sz e l')(cx:(n+l'.length)*eb≤140737488355328)(rf:n+l'.length≤9223372036854775807):Good P o s ⟨.sl sz e (l.take n++l'),[q],[]⟩:=by
 intro κ a w hinv hr ho N Q hN;have r1:=hr x (by simp[h,Op.operands,Call.operands]);have r2:=hr y (by simp[h,Op.operands,Call.operands]);rw[hx]at r1;rw[hy]at r2;have o0:=ho q (.inl y_);rw[hq]at o0;have o0:Rd κ w (.sl sz e l) (.slice (some ⟨b,off,none⟩) l.length cap):=o0;obtain ⟨hu,ii,zv,q1,q2,q3,q4,q5⟩:=Cq Γ ht hk;have q9:zv.cells.size=sz:=by rw[←nu,←q5];simp
 have rh:(l.take n).length=n:=by rw[yA];omega
 have cd:Rd κ w (.sl sz e (l.take n)) (.slice (some ⟨b,off,none⟩) n n):=by
  simp only[Rd,RdD]at o0⊢;rcases o0 with ⟨h0,_⟩|⟨b2,off2,ri,h2,h3,h4,h5,h6⟩
  ·have dy:n=0:=by rw[h0]at hn;simpa using hn
   subst dy;exact .inl ⟨by simp,_,_,E⟩
  ·cases h2;refine .inr ⟨b,off,n,by rw[rh],by rw[rh];exact yG _,h4,h5,λi hi=>?_⟩;obtain ⟨u,h7,h8⟩:=h6 i q_;exact⟨u,by rw[wA];exact h7,h8⟩
 have hrb:=cd.src;have hru:=r2.src;rw[rh]at hrb;obtain ⟨m,hm⟩:∃m,l'.length=m:=⟨_,rfl⟩
 rw[hm]at hru cx rf;generalize hve:a.eval y=u at *;obtain ⟨ad,c,news,rj,kx,vi,ns,vj⟩:∃(a:Option Addr) (c:Nat) (news:List Value),u=.slice a m c∧news.length=m*sz∧Ones news∧(∀W:World,(∀p:Addr,p.block<w.heap.size→W.cell? p=w.cell? p)→(Builtin.firstCells sz m u).run P W=.ok news.toArray W) ∧
   (∀j x,rowF e l' j x→j<m∧∃q:Value,RdD (Own κ) w x q∧q.cells.size=sz∧Ones q.cells.toList∧∀l,l<sz→news[j*sz+l]? = q.cells[l]?):=by
  rcases hru with ⟨rfl,cu,a,c,rfl⟩|⟨b,o,c,news,rfl,h1,h2,h3,h4⟩
  ·refine⟨a,c,[],E,by simp,by simp[Ones],λW _=>?_,λj x h=>zY h (cu j x)⟩;cases a<;>simp[Builtin.firstCells,loadCells,loadCellsFrom]
  ·refine⟨some ⟨b,o,none⟩,c,news,E,h1,h2,λ W hW=>?_,λ j x hx=>h4 j x hx⟩;exact run_firstCells_some (P:=P) W sz m ⟨b,o,none⟩ m c news h1 (λ j q hj=>by
    rw[Addr.add_lit];have h5:=h3 j q hj;rw[hW _ (by exact World.block_lt_of_cell? w _ h5),h5])
 subst rj;by_cases a8:m=0
 ·subst a8;have ny:l'=[]:=zZ hm;subst ny;have hc:=ns w (λ_ _=>rfl);have y3:news=[]:=by simpa using kx
  subst y3;have au:(execOp a.eval o).run P w=.ok (.value (.slice (some ⟨b,off,none⟩) n n)) w:=by
   simp[execOp,h,resolve,invoke,builtin,Builtin.append_,r1.val,hve,run_underlying hu,sizeOf,typeInfo,q1,q2,Builtin.lenOf,hc,storeCells]
  simp only[Oper.wp,au,Oper.upon];refine hN _ κ w (Step.refl _ κ w) hinv ?_ (λp hp=>by cases hp);rw[xC];exact cd
 obtain ⟨cy,mz,y4,j6⟩:∃cy:List Value,cy.length=n*sz∧(∀j x,rowF e (l.take n) j x→j<n→∃q:Value,RdD (Own κ) w x q∧q.cells.size=sz∧Ones q.cells.toList∧∀l,l<sz→cy[j*sz+l]? = q.cells[l]?) ∧
   (Builtin.firstCells sz n (.slice (some ⟨b,off,none⟩) n n)).run P w.drew=.ok cy.toArray w.drew:=by
  rcases hrb with ⟨rfl,cu,_⟩|⟨b2,o2,c2,cy,he,g1,g2,g3,g4⟩
  ·exact⟨[],by simp,λj x _ hj=>zY hj q_,run_firstCells_some (P:=P) w.drew sz 0 ⟨b,off,none⟩ 0 0 [] y_ (λj v hj=>by simp at hj)⟩
  ·cases he;exact⟨cy,g1,λ j x hx _=>(g4 j x hx).2,run_firstCells_some (P:=P) w.drew sz n ⟨b,off,none⟩ n n cy g1 (λ j v hj=>by
    have:=g3 j v hj;rw[Addr.add_lit];simpa using this)⟩
 have jj:n+m≤grownCap w (n+m) n et:=grownCap_ge w (n+m) n et;have nz:¬(281474976710656<Builtin.nextslicecap (n+m) n*ii.bytes):=by
  have:=growslice_fits (need:=n+m) (old:=n) (bytes:=ii.bytes) q_ (by rw[q3];exact cx);omega
 have jk:¬(9223372036854775807<(n:Int)+(m:Int)):=by omega
 have bz:¬n+m≤n:=by omega
 have hc:=ns w.drew (λ_ _=>rfl);obtain ⟨w',s8⟩:∃w',w.drew.alloc (.cells (cy.toArray++news.toArray++Builtin.zeroCells zv.cells (grownCap w (n+m) n et-(n+m))) et)=w':=⟨_,rfl⟩
 have au:(execOp a.eval o).run P w=.ok (.value (.slice (some ⟨w.heap.size,0,none⟩) (n+m) (grownCap w (n+m) n et))) w':=by
  rw[←s8];simp[execOp,h,resolve,invoke,builtin,Builtin.append_,r1.val,hve,run_underlying hu,sizeOf,typeInfo,zeroValue,q4,q1,q2,Builtin.lenOf,jk,nz,Question.forced,j6,hc,newRow,grownCap];rw[zD bz];have ea:∀Z:Array Value,cy.toArray++(news.toArray++Z)=(cy++news).toArray++Z:=λZ=>by apply Array.ext';simp
  rw[ea]
 have g0:Grew w w':=by rw[←s8];exact(Grew.drew w).trans (Grew.alloc _ _)
 obtain ⟨st,inv⟩:=Aat hinv g0;have xb:w'.heap[w.heap.size]? = some (.cells (cy++news++(Builtin.zeroCells zv.cells (grownCap w (n+m) n et-(n+m))).toList).toArray et):=by
  rw[←s8];have:(w.drew.alloc (.cells (cy.toArray++news.toArray++Builtin.zeroCells zv.cells (grownCap w (n+m) n et-(n+m))) et)).heap[w.heap.size]? = some (.cells (cy.toArray++news.toArray++Builtin.zeroCells zv.cells (grownCap w (n+m) n et-(n+m))) et):=heap_alloc_new w.drew _;rw[this];congr 2;apply Array.ext';simp
 have bg:w.heap.size<w'.heap.size:=by rw[←s8];simp
 simp only[Oper.wp,au,Oper.upon];refine hN _ κ w' (st.weaken (λ_ h=>h.elim)) inv ?_ (λp hp=>by cases hp);simp only[Rd,RdD];have hlen:(l.take n++l').length=n+m:=by rw[zW,rh,hm]
 refine .inr ⟨w.heap.size,0,grownCap w (n+m) n et,by rw[hlen],by rw[hlen];exact jj,?_,bg,λj hj=>?_⟩
 ·rintro (⟨k,hk⟩|hk)
  ·exact Nat.lt_irrefl _ (hinv.bnd k _ hk)
  ·exact Nat.lt_irrefl _ (hinv.mbnd _ hk)
 ·rw[hlen]at hj;by_cases ou:j<n
  ·obtain ⟨qv,g1,g2,g3,g4⟩:=y4 j (e (l.take n)[j]) ⟨by omega,rfl⟩ ou;refine⟨qv,by rw[yT q_];exact RdD.keep st.keeps _ _ g1,g2,g3,λp hp=>?_⟩;have:(j+1)*sz≤n*sz:=yX sz q_;rw[xI,wL]at this;rw[cell_of_row w' _ _ _ et (0,0) xb,uS,xJ,xR q_,wE];exact g4 p hp
  ·obtain ⟨_,qv,g1,g2,g3,g4⟩:=vj (j-n) (e (l'[j-n]'q_)) ⟨by omega,rfl⟩;refine⟨qv,?_,g2,g3,λp hp=>?_⟩
   ·rw[xP q_];simp only[rh];exact RdD.keep st.keeps _ _ g1
   ·have e1:j*sz=n*sz+(j-n)*sz:=by rw[←xI];congr 1;omega
    have:(j-n+1)*sz≤m*sz:=yX sz q_;rw[xI,wL]at this;rw[cell_of_row w' _ _ _ et (0,0) xb,uS,xJ,wG q_,xR q_,←g4 p hp];congr 1;omega
def Acm{P:Program}{o:Oper}{s:SS}(q:Nat){sz:Nat}{α:Type}{e:α→SV}{l:List α}{v:Value}{x:Operand}(h:o.op=.move x∨o.op=.assign x)(hx:ev s x=.val v)(hq:s.h q=.dat v sz e l):Good P o s ⟨.sl sz e l,[q],[]⟩ :=
 Good.pure λκ a w _ hr ho=>by
  have o0:=ho q y_;rw[hq]at o0;have jl:=hr x (by rcases h with h|h<;>simp[h,Op.operands]);rw[hx]at jl;refine⟨a.eval x,?_,?_⟩
  ·rcases h with h|h<;>simp[execOp,h]
  ·rw[jl.val];exact o0
def Af8{f g:Nat→Option (Nat×Nat)}:∀(ps:List (Nat×Value)) (cs:Array Value),(∀p∈ps,f p.1=g p.1)→Instr.fill f cs ps=Instr.fill g cs ps
 |[],cs,_=>rfl
 |(i,v)::ps,cs,h=>by
  have h1:=h (i,v) y_;simp only[Instr.fill];dsimp only at h1;rw[h1];cases g i with
  |none=>rfl
  |some os=>
   dsimp only;split
   ·rfl
   ·exact Af8 ps _ (λp hp=>h p (by simp[hp]))
def Acp{P:Program}(Γ:Ty P){o:Oper}{s:SS}{t et:TypeId}{ti:TI}{len esz:Nat}{ps:List (Nat×Operand)}{out:List SV}(h:o.op=.build t ps.toArray)(ht:Γ.get t=some ti)(hk:ti.k=.array et len esz)(h1:Ace ti.zero=true)(ov:(ps.all λp=>Nat.blt p.1 len)=true)(hf:Af9 ((List.range len).map λi=>(i*esz,esz)) (ti.zero.map .val) (ps.map λp=>(p.1,ev s p.2))=some out):Good P o s ⟨.agg out,[],[]⟩ :=
 Good.pure λκ a w _ hr _=>by
  obtain ⟨d,info,z,k1,k2,k3,k4,k5,k6⟩:=Γ.ok t ti ht;obtain ⟨hu,i,q1,q2⟩:=Vm Γ ht hk;have hops:∀ p∈ps,Rd κ w (ev s p.2) (a.eval p.2):=λ p hp=>hr p.2 (by
   simp only[h,Op.operands];simp only[List.mem_toArray,yS];exact⟨p,hp,E⟩)
  obtain ⟨r,r1,r2,r3⟩:=Aln (κ:=κ) (w:=w) (a:=a) ps _ out z.cells (by rw[k6];exact Aah _) (by rw[k6];exact Uu h1) hops hf;refine⟨.agg r,?_,?_⟩
  ·have hcg:=Af8 (f:=λ i=>some (i * esz,esz)) (g:=λ i=>((List.range len).map λ i=>(i * esz,esz))[i]?) (ps.map λ p=>(p.1,a.eval p.2)) z.cells (λ p hp=>by
    obtain ⟨x,hx,rfl⟩:=yS.1 hp;have ab:x.1<len:=xZ (yZ.1 ov x hx);dsimp only;rw[uK,vW ab];rfl)
   simp only[execOp,h,Sem.run_bind,Instr.build,zeroValue,typeInfo,run_program,Result.andThen_ok,k3,k5,Sem.run_pure,run_underlying hu,sizeOf,q1,q2,List.map_toArray];rw[hcg,r1];simp
  ·simp only[Rd];exact⟨r.toList,by simp,r3,r2⟩
mutual
def rnb(k d:Nat):SV→SV
 | .ptr j o=>bif Nat.beq j k then .ptr d o else .ptr j o
 | .agg l=>.agg (Aeu k d l)
 | .tup l=>.tup (Aeu k d l)
 | .ifc t y=>.ifc t (rnb k d y)
 | .clo f g l=>.clo f (Aeu k d g) (Aeu k d l)
 |y=>y
def Aeu(k d:Nat):List SV→List SV
 |[]=>[]
 |y::l=>rnb k d y::Aeu k d l
end
mutual
theorem Arz{κ κ':Ka}{w:World}{K:Nat→Prop}{k d:Nat}(st:Step K κ w κ' w)(hx:∀o v,Rd κ w (.ptr k o) v→Rd κ' w (.ptr d o) v):∀(y:SV) (v:Value),Rd κ w y v→Rd κ' w (rnb k d y) v
 | .ptr j o,v,h=>by
  unfold rnb;by_cases hk:j=k
  ·subst hk;rw[show Nat.beq j j=true from tL j];exact hx o v h
  ·rw[show Nat.beq j k=false from by cases hb:Nat.beq j k with|false=>rfl|true=>exact zY (yK hb) hk];exact Rd.step st _ _ h
 | .agg l,v,h=>by
  simp only[Rd]at h;unfold rnb;simp only[Rd];obtain ⟨cs,h1,h2,h3⟩:=h;exact⟨cs,h1,h2,Sl st hx l cs h3⟩
 | .tup l,v,h=>by
  simp only[Rd]at h;unfold rnb;simp only[Rd];obtain ⟨cs,h1,h3⟩:=h;exact⟨cs,h1,Sl st hx l cs h3⟩
 | .ifc t y,v,h=>by
  simp only[Rd]at h;unfold rnb;simp only[Rd];obtain ⟨u,h1,h3⟩:=h;exact⟨u,h1,Arz st hx y u h3⟩
 | .clo f g l,v,h=>by
  simp only[Rd]at h;unfold rnb;simp only[Rd];obtain ⟨fs,cs,h1,h2,h3⟩:=h;exact⟨fs,cs,h1,Sl st hx g fs h2,Sl st hx l cs h3⟩
 | .top,v,h=>by unfold rnb;exact Rd.step st _ _ h
 | .val u,v,h=>by unfold rnb;exact Rd.step st _ _ h
 | .sl sz e l,v,h=>by unfold rnb;exact Rd.step st _ _ h
 | .ref sz z o,v,h=>by unfold rnb;exact Rd.step st _ _ h
 | .rpt k sz i o,v,h=>by unfold rnb;exact Rd.step st _ _ h
 | .osl k,v,h=>by unfold rnb;exact Rd.step st _ _ h
theorem Sl{κ κ':Ka}{w:World}{K:Nat→Prop}{k d:Nat}(st:Step K κ w κ' w)(hx:∀o v,Rd κ w (.ptr k o) v→Rd κ' w (.ptr d o) v):∀(l:List SV) (vs:List Value),RdL κ w l vs→RdL κ' w (Aeu k d l) vs
 |[],vs,h=>by
  unfold Aeu;simpa [RdL] using h
 |y::l,vs,h=>by
  simp only[RdL]at h;unfold Aeu;simp only[RdL];obtain ⟨v,r,h1,h2,h3⟩:=h;exact⟨v,r,h1,Arz st hx y v h2,Sl st hx l r h3⟩
end
def rnbO(k d:Nat):Ob→Ob
 | .box l=>.box (Aeu k d l)
 |o=>o
def Aro{κ:Ka}{w:World}{k d b:Nat}(hi:Inv κ w)(hk:κ k=.blk b)(hd:κ d=.new):Step (λj=>j=k∨j=d) κ w (Ec (Ec κ k .dead) d (.blk b)) w∧Inv (Ec (Ec κ k .dead) d (.blk b)) w:=by
 have ck:k≠d:=λe=>by subst e;rw[hk]at hd;cases hd
 have iy:(κ k).block? = some b:=by rw[hk];rfl
 have key:∀j c,((Ec (Ec κ k .dead) d (.blk b)) j).block? = some c→(j=d∧c=b)∨(j≠d∧j≠k∧(κ j).block? = some c):=by
  intro j c h;by_cases hj:j=d
  ·subst hj;rw[Az]at h;exact .inl ⟨rfl,by simpa [Ent.block?] using h.symm⟩
  ·rw[B8 _ _ hj]at h;by_cases an:j=k
   ·subst an;rw[Az]at h;cases h
   ·rw[B8 _ _ an]at h;exact .inr ⟨hj,an,h⟩
 refine⟨⟨yG _,E,E,E,E,λ_ _=>rfl,λ_ _ _=>rfl,λ_ _ _ _=>rfl,λj hj=>?_,?_,?_⟩,⟨?_,?_,?_,λc h=>hi.mbnd c h⟩⟩
 ·rw[B8 _ _ (λe=>hj (.inr e)),B8 _ _ (λe=>hj (.inl e))]
 ·rintro j (rfl|rfl)
  ·exact .inr (.inr (by rw[B8 _ _ ck,Az]))
  ·exact .inl hd
 ·rintro c (⟨j,hj⟩|hj)
  ·rcases key j c hj with ⟨_,rfl⟩|⟨_,_,h⟩
   ·exact .inl (.inl ⟨k,iy⟩)
   ·exact .inl (.inl ⟨j,h⟩)
  ·exact .inl (.inr hj)
 ·intro i j c h1 h2;rcases key i c h1 with ⟨a1,a2⟩|⟨a1,a2,a3⟩<;>rcases key j c h2 with ⟨b1,b2⟩|⟨b1,b2,b3⟩
  ·exact a1.trans b1.symm
  ·subst a2;exact zY (hi.inj j k _ b3 iy) b2
  ·subst b2;exact zY (hi.inj i k _ a3 iy) a2
  ·exact hi.inj i j c a3 b3
 ·intro j c h;rcases key j c h with ⟨_,rfl⟩|⟨_,_,h⟩
  ·exact hi.bnd k _ iy
  ·exact hi.bnd j c h
 ·intro j c h;rcases key j c h with ⟨_,rfl⟩|⟨_,_,h⟩
  ·exact hi.apart k _ iy
  ·exact hi.apart j c h
def La{C:Cx}{kk:List KI}{s:SS}(k d:Nat){l:List SV}(h:s.h k=.box l)(hd:s.h d=.fresh)(ck:k≠d)(hg:G C kk ⟨λi=>rnb k d (s.σ i),upd (λj=>bif Nat.beq j k then .non else rnbO k d (s.h j)) d (.box (Aeu k d l))⟩):G C kk s:=λκ a w hs=>by
 have cj:=hs.obj k;rw[h]at cj;have a6:κ d=.new:=by have:=hs.obj d;rwa [hd]at this
 obtain ⟨b,cs,T,fr,e1,e2,e3,e4,e5⟩:=cj;obtain ⟨st,inv⟩:=Aro hs.inv e1 a6;have ag:∀j,j≠k→j≠d→(Ec (Ec κ k .dead) d (.blk b)) j=κ j:=λj h1 h2=>by rw[B8 _ _ h2,B8 _ _ h1]
 have hv:∀o v,Rd κ w (.ptr k o) v→Rd (Ec (Ec κ k .dead) d (.blk b)) w (.ptr d o) v:=λo v hv=>by
  simp only[Rd,e1]at hv;simp only[Rd,Az];exact hv
 refine hg _ a w ⟨hs.defers,hs.size,inv,hs.ctx.step inv st,λj=>Arz st hv _ _ (hs.slot j),λj=>?_⟩;show ObOK _ w j (upd (λj=>bif Nat.beq j k then .non else rnbO k d (s.h j)) d (.box (Aeu k d l)) j);by_cases hj:j=d
 ·subst hj;rw[B1];exact⟨b,cs,T,fr,Az _ _ _,e2,e3,e4,Sl st hv l cs e5⟩
 ·rw[Cp _ _ hj];by_cases an:j=k
  ·subst an;rw[show Nat.beq j j=true from tL j];trivial
  ·rw[show Nat.beq j k=false from by cases hb:Nat.beq j k with|false=>rfl|true=>exact zY (yK hb) an];have hb:=ObOK.step st (λe=>e.elim an hj) _ (hs.obj j);have h0:=hs.obj j;show ObOK _ w j (rnbO k d (s.h j));cases hh:s.h j with
   |box m=>
    rw[hh]at h0 hb;obtain ⟨b2,vk,T2,xc,f1,f2,f3,f4,f5⟩:=h0;exact⟨b2,vk,T2,xc,(ag j an hj).trans f1,f2,f3,f4,Sl st hv m vk f5⟩
   |fresh=>rw[hh]at hb;exact hb
   |non=>rw[hh]at hb;exact hb
   |row dz e' l'=>rw[hh]at hb;exact hb
   |lit dz svs=>rw[hh]at hb;exact hb
   |glob dz x' g'=>rw[hh]at hb;exact hb
   |pin b' n' dx dz e' l'=>rw[hh]at hb;exact hb
   |dat v' dz e' l'=>rw[hh]at hb;exact hb
   |trow T' m'=>rw[hh]at hb;exact hb
   |rown dz e' l' i' xd=>rw[hh]at hb;exact hb
   |tbox T' m'=>rw[hh]at hb;exact hb
structure Meth(P:Program)(t:TypeId)(name:String)(f:FuncId)(pr:Bool)(e:TypeId):Prop where
 row:∃i m,P.info? t=some i∧i.methods.find? (·.name==name)=some m∧m.path=#[]∧m.func=some (f,pr)
 under:P.underlying t=some (.pointer e)
def Aer{P:Program}{t:TypeId}{name:String}{f:FuncId}{e:TypeId}(hm:Meth P t name f true e)(w:World)(v:Value):(Go.method (P.types.size+Made.depth) t v name).run P w=.ok (f,v) w:=by
 obtain ⟨⟨i,m,h1,h2,h3,h4⟩,hu⟩:=hm;show (Go.method (P.types.size+99+1) t v name).run P w=_;rw[Go.method];simp only[Sem.run_bind,run_typeInfo w h1,Result.andThen_ok,h2,h3,Go.follow,Sem.run_pure,h4,Go.receiverAt,run_underlying hu,Go.Place.get]
def Aeq{P:Program}{t:TypeId}{name:String}{f:FuncId}{e:TypeId}(hm:Meth P t name f false e)(w:World)(a:Addr){v:Value}(hv:(loadVar e a).run P w=.ok v w):(Go.method (P.types.size+Made.depth) t (.pointer (some a)) name).run P w=.ok (f,v) w:=by
 obtain ⟨⟨i,m,h1,h2,h3,h4⟩,hu⟩:=hm;show (Go.method (P.types.size+99+1) t (.pointer (some a)) name).run P w=_;rw[Go.method];have he:(#[]:Array FieldStep).isEmpty=true:=rfl;simp only[Sem.run_bind,run_typeInfo w h1,Result.andThen_ok,h2,h3,Go.follow,Sem.run_pure,h4,Go.receiverAt,run_underlying hu,Go.Place.get,he,if_true];have hs : ∀n : String, (Builtin.ssaWrapNilChk_ #[t] t #[.pointer (some a), strVal "", strVal n]).run P w = .ok (.pointer (some a)) w := λn=> rfl
 simp only[hs,Result.andThen_ok,asAddr,Sem.run_pure,hv]
def Xh{P:Program}{o:Oper}{s:SS}{rd:List Nat}{f:FuncId}{fn:Func}{c:Code}{t e:TypeId}{name:String}{x:Operand}{xs:List Operand}{ts:Array TypeId}{y:SV}(hm:Meth P t name f true e)(hf:Fun P f fn c)(h:o.op=.call ⟨.invoke x name,xs.toArray,ts⟩)(hx:ev s x=.ifc t y):Tm P o s rd f (y::xs.map (ev s)) :=
 λκ a w hr _=>by
  have h1:=hr x (by simp[h,Op.operands,Call.operands]);rw[hx]at h1;simp only[Rd]at h1;obtain ⟨u,e1,e2⟩:=h1;refine⟨u::xs.map a.eval,?_,?_⟩
  ·have d8:=Md hf (u::xs.map a.eval).toArray w;have o5:=Aer hm w u;simp only[execOp,h,resolve,invoke,e1,Sem.run_bind,Sem.run_pure,Result.andThen_ok]at d8⊢;simp only[callMethod];rw[←d8];have gh:(xs.map a.eval).take xs.length=xs.map a.eval:=xK y_;simp[o5,Sem.run_bind,gh]
  ·simp only[RdL];exact⟨_,_,E,e2,O2 xs (λy hy=>hr y (by simp[h,Op.operands,Call.operands,hy]))⟩
def B0{P:Program}(Γ:Ty P){o:Oper}{s:SS}{f:FuncId}{fn:Func}{c:Code}{t e:TypeId}{ti:TI}{name:String}{x:Operand}{xs:List Operand}{ts:Array TypeId}{k off:Nat}{l:List SV}{z:SV}(hm:Meth P t name f false e)(hf:Fun P f fn c)(h:o.op=.call ⟨.invoke x name,xs.toArray,ts⟩)(hx:ev s x=.ifc t (.ptr k off))(hk:s.h k=.box l)(ht:Γ.get e=some ti)(hz:M0 ti l off=some z):Tm P o s [k] f (z::xs.map (ev s)) :=
 λκ a w hr ho=>by
  have h1:=hr x (by simp[h,Op.operands,Call.operands]);rw[hx]at h1;simp only[Rd]at h1;obtain ⟨u,e1,e2⟩:=h1;have cj:=ho k y_;rw[hk]at cj;obtain ⟨b,f1,f2⟩:=cj.cellsAt;rw[f1]at e2;simp only at e2;subst e2;obtain ⟨v,g1,g2⟩:=Ms (P:=P) Γ ht f2 hz;rw[wE]at g1;refine⟨v::xs.map a.eval,?_,?_⟩
  ·have d8:=Md hf (v::xs.map a.eval).toArray w;have o5:=Aeq hm w ⟨b,off,none⟩ g1;simp only[execOp,h,resolve,invoke,e1,Sem.run_bind,Sem.run_pure,Result.andThen_ok]at d8⊢;simp only[callMethod];rw[←d8];have gh:(xs.map a.eval).take xs.length=xs.map a.eval:=xK y_;simp[o5,Sem.run_bind,gh]
  ·simp only[RdL];exact⟨_,_,E,g2,O2 xs (λy hy=>hr y (by simp[h,Op.operands,Call.operands,hy]))⟩
def Acq{P:Program}(Γ:Ty P){o:Oper}{s:SS}{x:Operand}{xt t:TypeId}{ti:TI}{y:SV}{ok:Bool}(h:o.op=.typeAssert x xt t ok)(hx:ev s x=.ifc t y)(ht:Γ.get t=some ti)(hk:ti.k matches .bool| .int _| .string| .slice .. | .struct _| .ptr| .func):Good P o s ⟨if ok then .tup [y,Ab true] else y,[],[]⟩ :=
 Good.pure λκ a w _ hr _=>by
  have h1:=hr x (by simp[h,Op.operands]);rw[hx]at h1;simp only[Rd]at h1;obtain ⟨u,e1,e2⟩:=h1;obtain ⟨d,info,z,k1,k2,_⟩:=Γ.ok t ti ht;have hni:∀ms,d≠.interface ms:=by
   obtain ⟨k,n,zz⟩:=ti;intro ms hd;subst hd;cases k<;>simp_all[TK.ok]
  have au:(Instr.typeAssert (.iface t u) xt t ok).run P w=.ok (if ok then .tuple #[u,.bool true] else u) w:=by
   cases d<;>first
    |exact zY rfl (hni _)
    |(cases ok<;>simp[Instr.typeAssert,run_underlying k1])
  refine⟨if ok then .tuple #[u,.bool true] else u,by simp[execOp,h,e1,au],?_⟩;cases ok
  ·exact e2
  ·simp only[if_true,Rd,RdL];exact⟨[u,.bool true],E,_,_,E,e2,_,_,E,by simp[Ab,Rd],E⟩
def A6x(P:Program)(t:TypeId)(name:String)(f:FuncId)(pr:Bool):Bool :=
 match P.info? t with
 | some i=>(match i.methods.find? (·.name == name) with
  |some m=>m.path.isEmpty&&(match m.func with|some (g,b)=>Nat.beq g f&&(b==pr)|none=>false)
  | none=>false)
 |none=>false
theorem Meth.of{P:Program}{t:TypeId}{name:String}{f:FuncId}{pr:Bool}{e:TypeId}(h:A6x P t name f pr=true)(hu:P.underlying t=some (.pointer e)):Meth P t name f pr e:=by
 refine⟨?_,hu⟩;unfold A6x at h;split at h
 ·rename_i i hi;split at h
  ·rename_i m hm;simp only[zE]at h;obtain ⟨h1,h2⟩:=h;split at h2
   ·rename_i g b hf;simp only[zE,yJ]at h2;obtain ⟨h3,rfl⟩:=h2;have h3:=yK h3;subst h3;exact⟨i,m,hi,hm,by simpa using h1,hf⟩
   ·cases h2
  ·cases h
 ·cases h
theorem VwL.get{s:SS}{V:List Nat}:∀{l m:List SV} (_:VwL s V l m) {i:Nat} {y:SV},If m i=some y→∃x,If l i=some x∧Vw s V x y
 |_,_,.nil,i,y,h=>by cases i<;>simp[If]at h
 |_,_,.cons (x:=x) h0 hs,0,y,h=>by
  simp only[If,Option.some.injEq]at h;subst h;exact⟨x,E,h0⟩
 |_,_,.cons h0 hs,i+1,y,h=>VwL.get hs (i:=i) h
theorem VwL.len{s:SS}{V:List Nat}:∀{l m:List SV} (_:VwL s V l m),m.length=l.length
 |_,_,.nil=>rfl
 |_,_,.cons _ hs=>by simp[VwL.len hs]
def Ajr:∀{l:List SV} {i:Nat} {x:SV},Q5 l=true→If l i=some x→x.data=true
 |[],i,x,_,h=>by cases i<;>simp[If]at h
 |y::l,0,x,hd,h=>by
  simp only[If,Option.some.injEq]at h;subst h;simp only[Q5,zE]at hd;exact hd.1
 |y::l,i+1,x,hd,h=>by
  simp only[Q5,zE]at hd;exact Ajr hd.2 (i:=i) h
def A4n{C:Cx}{k:List KI}{s:SS}(d:Nat){sz:Nat}{svs:List SV}(rk:List SV)(h:s.h d=.lit sz svs)(hv:VwL s [] svs rk)(hd:Q5 rk=true)(hg:G C k ⟨s.σ,upd s.h d (.lit sz rk)⟩):G C k s:=λκ a w hs=>by
 refine hg κ a w ⟨hs.defers,hs.size,hs.inv,hs.ctx,hs.slot,λj=>?_⟩;show ObOK κ w j (upd s.h d (.lit sz rk) j);by_cases hj:j=d
 ·subst hj;rw[B1];have cj:=hs.obj j;rw[h]at cj;have hlen:=hv.len;obtain ⟨b,cap,cs,T,fr,e1,e2,e3,e4,e5,e6⟩:=cj;refine⟨b,cap,cs,T,fr,by rw[hlen];exact e1,e2,e3,e4,by omega,λi x hx=>?_⟩;obtain ⟨y,hy,hvw⟩:=hv.get hx;obtain ⟨f1,u,f2,f3⟩:=e6 i y hy;exact⟨by omega,u,Rd.data _ _ (Ajr hd hx) (hvw.rd hs.inv (λn hn=>by cases hn) f2.toRd),f3⟩
 ·rw[Cp _ _ hj];exact hs.obj j
end Go.Sy
