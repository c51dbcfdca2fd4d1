/- Parts of a proof. -/
import Derived.Test.YticmobkdaneelaaGreatDoorYE35
set_option linter.all false
set_option linter.unusedVariables false
set_option linter.unusedSimpArgs false
set_option linter.deprecated false
namespace Go.Sy.YticmobkdaneelaaGreatDoor
open Go.Proofs Go.Proofs.Tryz
attribute [local irreducible] Go.Sy.G Go.Sy.DR
set_option maxRecDepth 100000
set_option maxHeartbeats 4000000
def A08(n:Net)(hn:n.Fin)(l:LineM)(hl:LineW l):Sp 183 [Am n,A3 l] (.tup [Am (putPort n l).1,Aa (putPort n l).2]):=cT F183 ntmps183 λF hF=>by
 have aa:=putPort.eq_1 n l;generalize putPort n l=res at *;cases hf:fitsB n l 2 with
 |false=>
  have q1:=Wx n hn l hl 2 hf;rw[hf,zG rfl]at aa;subst aa;refine gD q1 F255 ?_;refine Ak 4 (C6 emptyN) E vL ?_;exact gA
 |true=>
 have q1:=Acb n hn l hl 2 hf;have hr:Ac n=true:=by
  unfold fitsB at hf;simp only[zE]at hf;exact hf.2.2
 rw[hf,zD y_]at aa;have q2:=Ke n hn hr l.dev;have q3:=Xy n hn hr (Cn n l.dev) l.port;have ab:=hl.fin.t;have q5:=Es l.tagged q_;have il:n.ports.length≤40∧n.domains.length≤48:=⟨(Avv hr).2.1,(Avv hr).2.2.2.1⟩
 generalize Uq n (Cn n l.dev) l.port=pt at *;generalize Cn n l.dev=dv at *;by_cases h3:dv<0
 ·have g3:decide (dv<0)=true:=zO h3;rw[zG h3]at aa;subst aa;refine T ?_;refine X (Ad [] E F255 q1 E W E V) ?_;refine C q2 F258 ?_;refine Ak 4 (C6 emptyN) E vL ?_;exact gA
 have g3:decide (dv<0)=false:=zL h3;rw[zD h3]at aa;by_cases h4:0≤pt
 ·have g4:decide (pt≥0)=true:=zO h4;rw[zG h4]at aa;subst aa;refine T ?_;refine X (Ad [] E F255 q1 E W E V) ?_;refine gJ q2 F258 q3 F259 ?_;refine Ak 4 (C6 emptyN) E vL ?_;exact gA
 have g4:decide (pt≥0)=false:=zL h4;rw[zD h4]at aa;by_cases h5:n.ports.length=40
 ·have g5:((n.ports.length:Int)==40)=true:=by rw[yJ];omega
  rw[zG h5]at aa;subst aa;refine T ?_;refine X (Ad [] E F255 q1 E W E V) ?_;refine gJ q2 F258 q3 F259 ?_;refine Ak 4 (C6 emptyN) E vL ?_;exact gA
 have g5:((n.ports.length:Int)==40)=false:=by rw[zR];omega
 rw[zD h5]at aa;have x4:(Cr dv n.domains l.vlan).length≤49:=by unfold Cr;split<;>(try simp)<;>omega
 have me:∀j,(Bh dv (Cr dv n.domains l.vlan) (l.tagged.take j)).length≤200000:=λj=>by
  have h1:=Aag dv (l.tagged.take j) (Cr dv n.domains l.vlan);rw[yA]at h1;omega
 by_cases hc:0<l.vlan∧n.domains.any (λd=>d.dev==dv&&d.vlan==l.vlan)=false
 ·have q6:=L4 ({n with ports:=n.ports++[(⟨l.row,dv,l.vlan,l.cost,-1,l.port,l.tagged⟩:Port)]}:Net) (by show n.domains.length<_;omega) dv l.vlan hc;obtain ⟨d1,ph⟩:∃d1,Cr dv n.domains l.vlan=d1:=⟨_,rfl⟩
  have kf:=me;rw[ph]at kf;have hde:=ph.symm.trans (Yo hc);rw[←hde]at q6;clear me hde hc x4;refine T ?_;refine X (Ad [] E F255 q1 E W E V) ?_;refine gJ q2 F258 q3 F259 ?_;refine C q5 F91 ?_;refine Xd (Ag Γ.toTy 66 E E E E E (.row E) (.lit (e:=A4) (l:=[(⟨l.row,dv,l.vlan,l.cost,-1,l.port,l.tagged⟩:Port)]) E E) j_ (by simp only[yC];omega) (by simp only[yC];omega)) ?_;refine T ?_;refine X (Ap [(902,66),(1904,1101)] (Aq E E F260) q6 E W E V) ?_;refine T ?_;refine C3 (λj:Nat=>j≤l.tagged.length) (λj=>[(4,.ptr 1001 0),(6,.ptr 900 0),(8,Aa dv),(9,.clo (.func 260) [] []),(77,.sl 1 Aa l.tagged),(78,Aa l.tagged.length),(79,Aa j)]) (λj=>[(1001,.box [.val (.slice none 0 0),.val (.slice none 0 0),.val (.slice none 0 0),.val (.slice none 0 0),.val (.slice none 0 0),.val (.slice none 0 0),.val (.slice none 0 0),.val (.slice none 0 0)]),(900,.box [.osl 901,.osl 1002,.osl 903,.osl 1004,.osl 905,.osl 906,.osl 907,.osl 908]),(901,.row 5 Ax n.devices),(1002,.row 7 A4 (n.ports++[(⟨l.row,dv,l.vlan,l.cost,-1,l.port,l.tagged⟩:Port)])),(903,.row 3 Bz n.links),(1004,.row 6 As (Bh dv d1 (l.tagged.take j))),(905,.row 4 A0 n.statics),(906,.row 4 Ba n.floods),(907,.row 5 Ca n.vrfs),(908,.row 5 B4 n.irbs)]) (λj=>l.tagged.length-j) 0 [(1001,4),(1002,66),(1004,1101)] q_ U ?_;intro j hj;have hlen:=kf j;refine T ?_;constructor<;>intro h
  ·have ab:j<l.tagged.length:=qA h;have aq:(j:Int).toNat<l.tagged.length:=ab;clear h;have ff:Bh dv d1 (l.tagged.take (j+1))=Cr dv (Bh dv d1 (l.tagged.take j)) (l.tagged[(j:Int).toNat]'aq):=by
    rw[yD ab,Aaf];rfl
   by_cases hc:0<(l.tagged[(j:Int).toNat]'aq)∧(Bh dv d1 (l.tagged.take j)).any (λd=>d.dev==dv&&d.vlan==(l.tagged[(j:Int).toNat]'aq))=false
   ·have q:=L4 ({n with ports:=n.ports++[(⟨l.row,dv,l.vlan,l.cost,-1,l.port,l.tagged⟩:Port)],domains:=Bh dv d1 (l.tagged.take j)}:Net) (by show (Bh dv d1 (l.tagged.take j)).length<_;omega) dv (l.tagged[(j:Int).toNat]'aq) hc;rw[Yo hc]at ff;refine T ?_;refine X (Ap [(902,1002),(904,1004),(1904,1102)] (Aq E E F260) q E W E V) ?_;exact Be (j+1) [(1004,1102)] ab q_ ⟨⟨E,E,E,E,E,E,E,E,E,E,E,E,E,E,Y⟩,⟨.inl E,E,.inl E,E,.inl E,E,.inl E,E,.inl E,E,.inl (zH (Ob.row 6 As) ff),E,.inl E,E,.inl E,E,.inl E,E,.inl E,E,Y⟩,E,E⟩
   ·have q:=Oa ({n with ports:=n.ports++[(⟨l.row,dv,l.vlan,l.cost,-1,l.port,l.tagged⟩:Port)],domains:=Bh dv d1 (l.tagged.take j)}:Net) (by show (Bh dv d1 (l.tagged.take j)).length<_;omega) dv (l.tagged[(j:Int).toNat]'aq) hc;rw[Abq hc]at ff;refine T ?_;refine X (Ap [(902,1002),(904,1004)] (Aq E E F260) q E W E V) ?_;exact Be (j+1) [] ab q_ ⟨⟨E,E,E,E,E,E,E,E,E,E,E,E,E,E,Y⟩,⟨.inl E,E,.inl E,E,.inl E,E,.inl E,E,.inl E,E,.inl (zH (Ob.row 6 As) ff),E,.inl E,E,.inl E,E,.inl E,E,.inl E,E,Y⟩,E,E⟩
  ·have dh:j=l.tagged.length:=qB h;clear h;rw[dh,yN];have kg:Bh dv n.domains (l.vlan::l.tagged)=Bh dv d1 l.tagged:=(show Bh dv n.domains (l.vlan::l.tagged)=Bh dv (Cr dv n.domains l.vlan) l.tagged from rfl).trans (by rw[ph]);rw[kg]at aa;by_cases h9:48<(Bh dv d1 l.tagged).length
   ·have g9:decide (((Bh dv d1 l.tagged).length:Int)>48)=true:=zO q_;rw[zG h9]at aa;subst aa;refine T ?_;refine Ak 1001 (C6 emptyN) E vL ?_;exact gA
   ·have g9:decide (((Bh dv d1 l.tagged).length:Int)>48)=false:=zL q_;rw[zD h9]at aa;subst aa;refine T ?_;refine Aj 901 E ?_;refine Aj 1002 E ?_;refine Aj 903 E ?_;refine Aj 1004 E ?_;refine Aj 905 E ?_;refine Aj 906 E ?_;refine Aj 907 E ?_;refine Aj 908 E ?_;exact D
 ·have q6:=Oa ({n with ports:=n.ports++[(⟨l.row,dv,l.vlan,l.cost,-1,l.port,l.tagged⟩:Port)]}:Net) (by show n.domains.length<_;omega) dv l.vlan hc;have ph:Cr dv n.domains l.vlan=n.domains:=Abq hc;have kf:=me;rw[ph]at kf;clear me hc x4;refine T ?_;refine X (Ad [] E F255 q1 E W E V) ?_;refine gJ q2 F258 q3 F259 ?_;refine C q5 F91 ?_;refine Xd (Ag Γ.toTy 66 E E E E E (.row E) (.lit (e:=A4) (l:=[(⟨l.row,dv,l.vlan,l.cost,-1,l.port,l.tagged⟩:Port)]) E E) j_ (by simp only[yC];omega) (by simp only[yC];omega)) ?_;refine T ?_;refine X (Ap [(902,66)] (Aq E E F260) q6 E W E V) ?_;refine T ?_;refine C3 (λj:Nat=>j≤l.tagged.length) (λj=>[(4,.ptr 1001 0),(6,.ptr 900 0),(8,Aa dv),(9,.clo (.func 260) [] []),(77,.sl 1 Aa l.tagged),(78,Aa l.tagged.length),(79,Aa j)]) (λj=>[(1001,.box [.val (.slice none 0 0),.val (.slice none 0 0),.val (.slice none 0 0),.val (.slice none 0 0),.val (.slice none 0 0),.val (.slice none 0 0),.val (.slice none 0 0),.val (.slice none 0 0)]),(900,.box [.osl 901,.osl 1002,.osl 903,.osl 1004,.osl 905,.osl 906,.osl 907,.osl 908]),(901,.row 5 Ax n.devices),(1002,.row 7 A4 (n.ports++[(⟨l.row,dv,l.vlan,l.cost,-1,l.port,l.tagged⟩:Port)])),(903,.row 3 Bz n.links),(1004,.row 6 As (Bh dv n.domains (l.tagged.take j))),(905,.row 4 A0 n.statics),(906,.row 4 Ba n.floods),(907,.row 5 Ca n.vrfs),(908,.row 5 B4 n.irbs)]) (λj=>l.tagged.length-j) 0 [(1001,4),(1002,66),(1004,904)] q_ U ?_;intro j hj;have hlen:=kf j;refine T ?_;constructor<;>intro h
  ·have ab:j<l.tagged.length:=qA h;have aq:(j:Int).toNat<l.tagged.length:=ab;clear h;have ff:Bh dv n.domains (l.tagged.take (j+1))=Cr dv (Bh dv n.domains (l.tagged.take j)) (l.tagged[(j:Int).toNat]'aq):=by
    rw[yD ab,Aaf];rfl
   by_cases hc:0<(l.tagged[(j:Int).toNat]'aq)∧(Bh dv n.domains (l.tagged.take j)).any (λd=>d.dev==dv&&d.vlan==(l.tagged[(j:Int).toNat]'aq))=false
   ·have q:=L4 ({n with ports:=n.ports++[(⟨l.row,dv,l.vlan,l.cost,-1,l.port,l.tagged⟩:Port)],domains:=Bh dv n.domains (l.tagged.take j)}:Net) (by show (Bh dv n.domains (l.tagged.take j)).length<_;omega) dv (l.tagged[(j:Int).toNat]'aq) hc;rw[Yo hc]at ff;refine T ?_;refine X (Ap [(902,1002),(904,1004),(1904,1102)] (Aq E E F260) q E W E V) ?_;exact Be (j+1) [(1004,1102)] ab q_ ⟨⟨E,E,E,E,E,E,E,E,E,E,E,E,E,E,Y⟩,⟨.inl E,E,.inl E,E,.inl E,E,.inl E,E,.inl E,E,.inl (zH (Ob.row 6 As) ff),E,.inl E,E,.inl E,E,.inl E,E,.inl E,E,Y⟩,E,E⟩
   ·have q:=Oa ({n with ports:=n.ports++[(⟨l.row,dv,l.vlan,l.cost,-1,l.port,l.tagged⟩:Port)],domains:=Bh dv n.domains (l.tagged.take j)}:Net) (by show (Bh dv n.domains (l.tagged.take j)).length<_;omega) dv (l.tagged[(j:Int).toNat]'aq) hc;rw[Abq hc]at ff;refine T ?_;refine X (Ap [(902,1002),(904,1004)] (Aq E E F260) q E W E V) ?_;exact Be (j+1) [] ab q_ ⟨⟨E,E,E,E,E,E,E,E,E,E,E,E,E,E,Y⟩,⟨.inl E,E,.inl E,E,.inl E,E,.inl E,E,.inl E,E,.inl (zH (Ob.row 6 As) ff),E,.inl E,E,.inl E,E,.inl E,E,.inl E,E,Y⟩,E,E⟩
  ·have dh:j=l.tagged.length:=qB h;clear h;rw[dh,yN];have kg:Bh dv n.domains (l.vlan::l.tagged)=Bh dv n.domains l.tagged:=(show Bh dv n.domains (l.vlan::l.tagged)=Bh dv (Cr dv n.domains l.vlan) l.tagged from rfl).trans (by rw[ph]);rw[kg]at aa;by_cases h9:48<(Bh dv n.domains l.tagged).length
   ·have g9:decide (((Bh dv n.domains l.tagged).length:Int)>48)=true:=zO q_;rw[zG h9]at aa;subst aa;refine T ?_;refine Ak 1001 (C6 emptyN) E vL ?_;exact gA
   ·have g9:decide (((Bh dv n.domains l.tagged).length:Int)>48)=false:=zL q_;rw[zD h9]at aa;subst aa;refine T ?_;refine Aj 901 E ?_;refine Aj 1002 E ?_;refine Aj 903 E ?_;refine Aj 1004 E ?_;refine Aj 905 E ?_;refine Aj 906 E ?_;refine Aj 907 E ?_;refine Aj 908 E ?_;exact D
end Go.Sy.YticmobkdaneelaaGreatDoor
