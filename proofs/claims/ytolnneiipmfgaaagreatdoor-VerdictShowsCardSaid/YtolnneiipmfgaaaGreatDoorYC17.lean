/- Parts of a proof. -/
import Derived.Test.YtolnneiipmfgaaaGreatDoorYC16
set_option linter.all false
set_option linter.unusedVariables false
set_option linter.unusedSimpArgs false
set_option linter.deprecated false
namespace Go.Sy.YtolnneiipmfgaaaGreatDoor
open Go.Proofs Go.Proofs.Tryz
attribute [local irreducible] Go.Sy.G Go.Sy.DR
set_option maxRecDepth 100000
set_option maxHeartbeats 4000000
def A2z(n:Net)(hn:n.Fin)(l:LineM)(hl:LineW l):Sp 227 [Ao n,A3 l] (.tup [Ao (putPort n l).1,Aa (putPort n l).2]):=cT F227 ntmps227 λF hF=>by
 have aa:=putPort.eq_1 n l;generalize putPort n l=res at *;cases hf:fitsB n l 2 with
 |false=>
  have q1:=Xw n hn l hl 2 hf;rw[hf,zE rfl]at aa;subst aa;refine gD q1 F293 ?_;refine Al 4 (Da emptyN) E vL ?_;exact gB
 |true=>
 have q1:=Adc n hn l hl 2 hf;have hr:Ac n=true:=by
  unfold fitsB at hf;simp only[zG]at hf;exact hf.2.2
 rw[hf,zD y_]at aa;have q2:=I4 n hn hr l.dev;have q3:=Tl n hn hr (Cg n l.dev) l.port;have ab:=hl.fin.t;have q5:=Ey l.tagged q_;have iy:n.ports.length≤40∧n.domains.length≤48:=⟨(Aky hr).2.1,(Aky hr).2.2.2.1⟩
 generalize Og n (Cg n l.dev) l.port=pt at *;generalize Cg n l.dev=dv at *;by_cases h3:dv<0
 ·have g3:decide (dv<0)=true:=zL h3;rw[zE h3]at aa;subst aa;refine T ?_;refine X (Ad [] E F293 q1 E W E V) ?_;refine C q2 F72 ?_;refine Al 4 (Da emptyN) E vL ?_;exact gB
 have g3:decide (dv<0)=false:=zI h3;rw[zD h3]at aa;by_cases h4:0≤pt
 ·have g4:decide (pt≥0)=true:=zL h4;rw[zE h4]at aa;subst aa;refine T ?_;refine X (Ad [] E F293 q1 E W E V) ?_;refine gI q2 F72 q3 F71 ?_;refine Al 4 (Da emptyN) E vL ?_;exact gB
 have g4:decide (pt≥0)=false:=zI h4;rw[zD h4]at aa;by_cases h5:n.ports.length=40
 ·have g5:((n.ports.length:Int)==40)=true:=by rw[yI];omega
  rw[zE h5]at aa;subst aa;refine T ?_;refine X (Ad [] E F293 q1 E W E V) ?_;refine gI q2 F72 q3 F71 ?_;refine Al 4 (Da emptyN) E vL ?_;exact gB
 have g5:((n.ports.length:Int)==40)=false:=by rw[zR];omega
 rw[zD h5]at aa;have yf:(C1 dv n.domains l.vlan).length≤49:=by unfold C1;split<;>(try simp)<;>omega
 have m8:∀j,(Bk dv (C1 dv n.domains l.vlan) (l.tagged.take j)).length≤200000:=λj=>by
  have h1:=Abh dv (l.tagged.take j) (C1 dv n.domains l.vlan);rw[zY]at h1;omega
 by_cases hc:0<l.vlan∧n.domains.any (λd=>d.dev==dv&&d.vlan==l.vlan)=false
 ·have q6:=Mf ({n with ports:=n.ports++[(⟨l.row,dv,l.vlan,l.cost,-1,l.port,l.tagged⟩:Port)]}:Net) (by show n.domains.length<_;omega) dv l.vlan hc;obtain ⟨d1,ly⟩:∃d1,C1 dv n.domains l.vlan=d1:=⟨_,rfl⟩
  have kq:=m8;rw[ly]at kq;have hde:=ly.symm.trans (Zc hc);rw[←hde]at q6;clear m8 hde hc yf;refine T ?_;refine X (Ad [] E F293 q1 E W E V) ?_;refine gI q2 F72 q3 F71 ?_;refine C q5 F111 ?_;refine Xd (Ag Γ.toTy 66 E E E E E (.row E) (.lit (e:=A7) (l:=[(⟨l.row,dv,l.vlan,l.cost,-1,l.port,l.tagged⟩:Port)]) E E) j_ (by simp only[zW];omega) (by simp only[zW];omega)) ?_;refine T ?_;refine X (Au [(902,66),(1904,1101)] (Av E E F296) q6 E W E V) ?_;refine T ?_;refine Cj (λj:Nat=>j≤l.tagged.length) (λj=>[(4,.ptr 1001 0),(6,.ptr 900 0),(8,Aa dv),(9,.clo (.func 296) [] []),(77,.sl 1 Aa l.tagged),(78,Aa l.tagged.length),(79,Aa j)]) (λj=>[(1001,.box [.val (.slice none 0 0),.val (.slice none 0 0),.val (.slice none 0 0),.val (.slice none 0 0),.val (.slice none 0 0),.val (.slice none 0 0),.val (.slice none 0 0),.val (.slice none 0 0)]),(900,.box [.osl 901,.osl 1002,.osl 903,.osl 1004,.osl 905,.osl 906,.osl 907,.osl 908]),(901,.row 5 Aw n.devices),(1002,.row 7 A7 (n.ports++[(⟨l.row,dv,l.vlan,l.cost,-1,l.port,l.tagged⟩:Port)])),(903,.row 3 B5 n.links),(1004,.row 6 Aq (Bk dv d1 (l.tagged.take j))),(905,.row 4 A2 n.statics),(906,.row 4 Bh n.floods),(907,.row 5 Ck n.vrfs),(908,.row 5 Cb n.irbs)]) (λj=>l.tagged.length-j) 0 [(1001,4),(1002,66),(1004,1101)] q_ U ?_;intro j hj;have hlen:=kq j;refine T ?_;constructor<;>intro h
  ·have ab:j<l.tagged.length:=qA h;have aq:(j:Int).toNat<l.tagged.length:=ab;clear h;have ff:Bk dv d1 (l.tagged.take (j+1))=C1 dv (Bk dv d1 (l.tagged.take j)) (l.tagged[(j:Int).toNat]'aq):=by
    rw[yC ab,Abg];rfl
   by_cases hc:0<(l.tagged[(j:Int).toNat]'aq)∧(Bk dv d1 (l.tagged.take j)).any (λd=>d.dev==dv&&d.vlan==(l.tagged[(j:Int).toNat]'aq))=false
   ·have q:=Mf ({n with ports:=n.ports++[(⟨l.row,dv,l.vlan,l.cost,-1,l.port,l.tagged⟩:Port)],domains:=Bk dv d1 (l.tagged.take j)}:Net) (by show (Bk dv d1 (l.tagged.take j)).length<_;omega) dv (l.tagged[(j:Int).toNat]'aq) hc;rw[Zc hc]at ff;refine T ?_;refine X (Au [(902,1002),(904,1004),(1904,1102)] (Av E E F296) q E W E V) ?_;exact Ax (j+1) [(1004,1102)] ab q_ ⟨⟨E,E,E,E,E,E,E,E,E,E,E,E,E,E,Y⟩,⟨.inl E,E,.inl E,E,.inl E,E,.inl E,E,.inl E,E,.inl (zH (Ob.row 6 Aq) ff),E,.inl E,E,.inl E,E,.inl E,E,.inl E,E,Y⟩,E,E⟩
   ·have q:=Oz ({n with ports:=n.ports++[(⟨l.row,dv,l.vlan,l.cost,-1,l.port,l.tagged⟩:Port)],domains:=Bk dv d1 (l.tagged.take j)}:Net) (by show (Bk dv d1 (l.tagged.take j)).length<_;omega) dv (l.tagged[(j:Int).toNat]'aq) hc;rw[Acs hc]at ff;refine T ?_;refine X (Au [(902,1002),(904,1004)] (Av E E F296) q E W E V) ?_;exact Ax (j+1) [] ab q_ ⟨⟨E,E,E,E,E,E,E,E,E,E,E,E,E,E,Y⟩,⟨.inl E,E,.inl E,E,.inl E,E,.inl E,E,.inl E,E,.inl (zH (Ob.row 6 Aq) ff),E,.inl E,E,.inl E,E,.inl E,E,.inl E,E,Y⟩,E,E⟩
  ·have cm:j=l.tagged.length:=qB h;clear h;rw[cm,yN];have kr:Bk dv n.domains (l.vlan::l.tagged)=Bk dv d1 l.tagged:=(show Bk dv n.domains (l.vlan::l.tagged)=Bk dv (C1 dv n.domains l.vlan) l.tagged from rfl).trans (by rw[ly]);rw[kr]at aa;by_cases h9:48<(Bk dv d1 l.tagged).length
   ·have g9:decide (((Bk dv d1 l.tagged).length:Int)>48)=true:=zL q_;rw[zE h9]at aa;subst aa;refine T ?_;refine Al 1001 (Da emptyN) E vL ?_;exact gB
   ·have g9:decide (((Bk dv d1 l.tagged).length:Int)>48)=false:=zI q_;rw[zD h9]at aa;subst aa;refine T ?_;refine Aj 901 E ?_;refine Aj 1002 E ?_;refine Aj 903 E ?_;refine Aj 1004 E ?_;refine Aj 905 E ?_;refine Aj 906 E ?_;refine Aj 907 E ?_;refine Aj 908 E ?_;exact D
 ·have q6:=Oz ({n with ports:=n.ports++[(⟨l.row,dv,l.vlan,l.cost,-1,l.port,l.tagged⟩:Port)]}:Net) (by show n.domains.length<_;omega) dv l.vlan hc;have ly:C1 dv n.domains l.vlan=n.domains:=Acs hc;have kq:=m8;rw[ly]at kq;clear m8 hc yf;refine T ?_;refine X (Ad [] E F293 q1 E W E V) ?_;refine gI q2 F72 q3 F71 ?_;refine C q5 F111 ?_;refine Xd (Ag Γ.toTy 66 E E E E E (.row E) (.lit (e:=A7) (l:=[(⟨l.row,dv,l.vlan,l.cost,-1,l.port,l.tagged⟩:Port)]) E E) j_ (by simp only[zW];omega) (by simp only[zW];omega)) ?_;refine T ?_;refine X (Au [(902,66)] (Av E E F296) q6 E W E V) ?_;refine T ?_;refine Cj (λj:Nat=>j≤l.tagged.length) (λj=>[(4,.ptr 1001 0),(6,.ptr 900 0),(8,Aa dv),(9,.clo (.func 296) [] []),(77,.sl 1 Aa l.tagged),(78,Aa l.tagged.length),(79,Aa j)]) (λj=>[(1001,.box [.val (.slice none 0 0),.val (.slice none 0 0),.val (.slice none 0 0),.val (.slice none 0 0),.val (.slice none 0 0),.val (.slice none 0 0),.val (.slice none 0 0),.val (.slice none 0 0)]),(900,.box [.osl 901,.osl 1002,.osl 903,.osl 1004,.osl 905,.osl 906,.osl 907,.osl 908]),(901,.row 5 Aw n.devices),(1002,.row 7 A7 (n.ports++[(⟨l.row,dv,l.vlan,l.cost,-1,l.port,l.tagged⟩:Port)])),(903,.row 3 B5 n.links),(1004,.row 6 Aq (Bk dv n.domains (l.tagged.take j))),(905,.row 4 A2 n.statics),(906,.row 4 Bh n.floods),(907,.row 5 Ck n.vrfs),(908,.row 5 Cb n.irbs)]) (λj=>l.tagged.length-j) 0 [(1001,4),(1002,66),(1004,904)] q_ U ?_;intro j hj;have hlen:=kq j;refine T ?_;constructor<;>intro h
  ·have ab:j<l.tagged.length:=qA h;have aq:(j:Int).toNat<l.tagged.length:=ab;clear h;have ff:Bk dv n.domains (l.tagged.take (j+1))=C1 dv (Bk dv n.domains (l.tagged.take j)) (l.tagged[(j:Int).toNat]'aq):=by
    rw[yC ab,Abg];rfl
   by_cases hc:0<(l.tagged[(j:Int).toNat]'aq)∧(Bk dv n.domains (l.tagged.take j)).any (λd=>d.dev==dv&&d.vlan==(l.tagged[(j:Int).toNat]'aq))=false
   ·have q:=Mf ({n with ports:=n.ports++[(⟨l.row,dv,l.vlan,l.cost,-1,l.port,l.tagged⟩:Port)],domains:=Bk dv n.domains (l.tagged.take j)}:Net) (by show (Bk dv n.domains (l.tagged.take j)).length<_;omega) dv (l.tagged[(j:Int).toNat]'aq) hc;rw[Zc hc]at ff;refine T ?_;refine X (Au [(902,1002),(904,1004),(1904,1102)] (Av E E F296) q E W E V) ?_;exact Ax (j+1) [(1004,1102)] ab q_ ⟨⟨E,E,E,E,E,E,E,E,E,E,E,E,E,E,Y⟩,⟨.inl E,E,.inl E,E,.inl E,E,.inl E,E,.inl E,E,.inl (zH (Ob.row 6 Aq) ff),E,.inl E,E,.inl E,E,.inl E,E,.inl E,E,Y⟩,E,E⟩
   ·have q:=Oz ({n with ports:=n.ports++[(⟨l.row,dv,l.vlan,l.cost,-1,l.port,l.tagged⟩:Port)],domains:=Bk dv n.domains (l.tagged.take j)}:Net) (by show (Bk dv n.domains (l.tagged.take j)).length<_;omega) dv (l.tagged[(j:Int).toNat]'aq) hc;rw[Acs hc]at ff;refine T ?_;refine X (Au [(902,1002),(904,1004)] (Av E E F296) q E W E V) ?_;exact Ax (j+1) [] ab q_ ⟨⟨E,E,E,E,E,E,E,E,E,E,E,E,E,E,Y⟩,⟨.inl E,E,.inl E,E,.inl E,E,.inl E,E,.inl E,E,.inl (zH (Ob.row 6 Aq) ff),E,.inl E,E,.inl E,E,.inl E,E,.inl E,E,Y⟩,E,E⟩
  ·have cm:j=l.tagged.length:=qB h;clear h;rw[cm,yN];have kr:Bk dv n.domains (l.vlan::l.tagged)=Bk dv n.domains l.tagged:=(show Bk dv n.domains (l.vlan::l.tagged)=Bk dv (C1 dv n.domains l.vlan) l.tagged from rfl).trans (by rw[ly]);rw[kr]at aa;by_cases h9:48<(Bk dv n.domains l.tagged).length
   ·have g9:decide (((Bk dv n.domains l.tagged).length:Int)>48)=true:=zL q_;rw[zE h9]at aa;subst aa;refine T ?_;refine Al 1001 (Da emptyN) E vL ?_;exact gB
   ·have g9:decide (((Bk dv n.domains l.tagged).length:Int)>48)=false:=zI q_;rw[zD h9]at aa;subst aa;refine T ?_;refine Aj 901 E ?_;refine Aj 1002 E ?_;refine Aj 903 E ?_;refine Aj 1004 E ?_;refine Aj 905 E ?_;refine Aj 906 E ?_;refine Aj 907 E ?_;refine Aj 908 E ?_;exact D
def A63(n:Net)(hn:n.Fin)(ha:Ds n)(l:LineM)(hl:LineW l):Sp 167 [Ao n,A3 l] (.tup [Ao (putT n l).1,Aa (putT n l).2]):=cT F167 ntmps167 λF hF=>by
 have aa:=putT.eq_1 n l;generalize putT n l=res at *;by_cases h1:l.kind=1
 ·have g1:(l.kind==1)=true:=by rw[yI];exact h1
  have q:=Avk n hn l hl;rw[zE h1]at aa;rw[←aa]at q;refine gD q F226 ?_;exact D
 have g1:(l.kind==1)=false:=by rw[zR];exact h1
 rw[zD h1]at aa;by_cases h2:l.kind=2
 ·have g2:(l.kind==2)=true:=by rw[yI];exact h2
  have q:=A2z n hn l hl;rw[zE h2]at aa;rw[←aa]at q;refine gD q F227 ?_;exact D
 have g2:(l.kind==2)=false:=by rw[zR];exact h2
 rw[zD h2]at aa;by_cases h3:l.kind=3
 ·have g3:(l.kind==3)=true:=by rw[yI];exact h3
  have q:=A36 n hn l hl;rw[zE h3]at aa;rw[←aa]at q;refine gD q F228 ?_;exact D
 have g3:(l.kind==3)=false:=by rw[zR];exact h3
 rw[zD h3]at aa;by_cases h4:l.kind=4
 ·have g4:(l.kind==4)=true:=by rw[yI];exact h4
  have q:=Asv n hn l hl;rw[zE h4]at aa;rw[←aa]at q;refine gD q F229 ?_;exact D
 have g4:(l.kind==4)=false:=by rw[zR];exact h4
 rw[zD h4]at aa;by_cases h5:l.kind=5
 ·have g5:(l.kind==5)=true:=by rw[yI];exact h5
  have q:=A6p n hn l hl;rw[zE h5]at aa;rw[←aa]at q;refine gD q F230 ?_;exact D
 have g5:(l.kind==5)=false:=by rw[zR];exact h5
 rw[zD h5]at aa;by_cases h6:l.kind=6
 ·have g6:(l.kind==6)=true:=by rw[yI];exact h6
  have q:=ovVniS n hn l hl;rw[zE h6]at aa;rw[←aa]at q;refine gD q F231 ?_;exact D
 have g6:(l.kind==6)=false:=by rw[zR];exact h6
 rw[zD h6]at aa;by_cases h7:l.kind=7
 ·have g7:(l.kind==7)=true:=by rw[yI];exact h7
  have q:=A28 n hn l hl;rw[zE h7]at aa;rw[←aa]at q;refine gD q F232 ?_;exact D
 have g7:(l.kind==7)=false:=by rw[zR];exact h7
 rw[zD h7]at aa;by_cases h8:l.kind=8
 ·have g8:(l.kind==8)=true:=by rw[yI];exact h8
  have q:=A55 n hn l hl;rw[zE h8]at aa;rw[←aa]at q;refine gD q F233 ?_;exact D
 have g8:(l.kind==8)=false:=by rw[zR];exact h8
 rw[zD h8]at aa;by_cases h9:l.kind=9
 ·have g9:(l.kind==9)=true:=by rw[yI];exact h9
  have q:=A7b n hn ha l hl;rw[zE h9]at aa;rw[←aa]at q;refine gD q F234 ?_;exact D
 have g9:(l.kind==9)=false:=by rw[zR];exact h9
 rw[zD h9]at aa;subst aa;refine T ?_;refine Al 4 (Da emptyN) E vL ?_;exact gB
def Axa{n:Net}(h:Ac n=true){i:Nat}(hi:i<n.floods.length):Oy n n.floods[i]=true:=by
 simp only[Ac,zG]at h;exact allB_iff.1 h.1.1.2 i hi
def A70(n:Net)(hn:n.Fin)(hr:Ac n=true)(f:Flood)(hf:f∈n.floods):Sp 235 [Ao n,Bh f] (Ab (agreesB n f)):=cT F235 ntmps235 λF hF=>by
 have rz:0≤f.dev∧f.dev.toNat<n.devices.length:=by
  obtain ⟨j,hj,rfl⟩:=vM hf;have:=Axa hr hj;simp only[Oy,Ai,zG,zK]at this;omega
 have hfa:f.addrs.length<2147483648:=hn.addrs f hf;have og:(nth n.devices f.dev).vtep=(n.devices[f.dev.toNat]'rz.2).vtep:=by rw[Af rz.2]
 have q1:=Z5 n hn f.dev f.vni;have aa:=agreesB.eq_1 n f;have hag:∀a,agreeA n f a=_:=agreeA.eq_1 n f;generalize agreesB n f=res at *;generalize Je n f.dev f.vni=v0 at *;refine T ?_;refine Ba 2 8 (Ao n) E E E ?_;refine Ba 3 4 (Bh f) E E E ?_;refine gD q1 F237 ?_;refine Cj (λj:Nat=>j≤f.addrs.length) (λj=>[(2,.ref 8 (Ao n) 0),(3,.ref 4 (Bh f) 0),(5,A9 (n.devices[f.dev.toNat]'rz.2).vtep),(6,Ab (decide (0≤v0)&&(f.addrs.take j).all (agreeA n f))),(28,.sl 1 A9 f.addrs),(29,Aa f.addrs.length),(30,Aa j)]) (λ_=>[]) (λj=>f.addrs.length-j) 0 [] q_ ⟨⟨E,E,E,E,E,E,zH Ab y_,E,E,E,E,E,E,E,Y⟩,Y,E,E⟩ ?_;intro j hj;refine T ?_;constructor<;>intro h
 ·have ab:j<f.addrs.length:=qA h;have ai:(j:Int).toNat<f.addrs.length:=ab;clear h;have qo:=Atv n hn (f.addrs[(j:Int).toNat]'ai);have hA:=hag (f.addrs[(j:Int).toNat]'ai);have ff:(f.addrs.take (j+1)).all (agreeA n f)=((f.addrs.take j).all (agreeA n f)&&agreeA n f (f.addrs[(j:Int).toNat]'ai)):=by
   rw[yC ab,List.all_append];simp only[List.all_cons,List.all_nil,uA];rfl
  have ig:agreeA n f (f.addrs[(j:Int).toNat]'ai)=false→f.addrs.all (agreeA n f)=false:=λh=>by
   rw[List.all_eq_false];exact⟨_,zJ ai,by rw[h];simp⟩
  have ud:(f.addrs.take j).all (agreeA n f)=false→f.addrs.all (agreeA n f)=false:=λh=>by
   rw[List.all_eq_false]at h⊢;obtain ⟨x,hx,hx2⟩:=h;exact⟨x,wR hx,hx2⟩
  have qf:=Z5 n hn (C4 n (f.addrs[(j:Int).toNat]'ai)) f.vni;have ql:=Amf n hn (C4 n (f.addrs[(j:Int).toNat]'ai)) f.vni;cases ho:(decide (0≤v0)&&(f.addrs.take j).all (agreeA n f)) with
  |false=>
   have ji:res=false:=by
    rw[aa];cases hd:decide (0≤v0)
    ·rfl
    ·rw[hd,yF]at ho;rw[ud ho];rfl
   subst ji;generalize C4 n (f.addrs[(j:Int).toNat]'ai)=dv at *;refine gD qo F238 ?_;exact D
  |true=>
   have ep:C4 n (f.addrs[(j:Int).toNat]'ai)<0∨0≤C4 n (f.addrs[(j:Int).toNat]'ai):=by omega
   have yg:Ef n (C4 n (f.addrs[(j:Int).toNat]'ai)) f.vni<0∨∃k:Nat,Ef n (C4 n (f.addrs[(j:Int).toNat]'ai)) f.vni=k∧k<n.floods.length:=by
    by_cases h:Ef n (C4 n (f.addrs[(j:Int).toNat]'ai)) f.vni<0
    ·exact .inl h
    ·exact .inr (Ke h)
   generalize Je n (C4 n (f.addrs[(j:Int).toNat]'ai)) f.vni=fv at *;generalize Ef n (C4 n (f.addrs[(j:Int).toNat]'ai)) f.vni=lv at *;generalize C4 n (f.addrs[(j:Int).toNat]'ai)=dv at *;by_cases k1:dv<0
   ·have g1:decide (dv≥0)=false:=zI q_;have g1n:(!(decide (dv≥0)))=true:=by rw[g1];rfl
    have ji:res=false:=by rw[aa,ig (by rw[hA,zI (by omega:¬0≤dv)];rfl),wK]
    subst ji;refine gD qo F238 ?_;exact D
   have g1:decide (dv≥0)=true:=zL q_;rw[zL (by omega:0≤dv),yF]at hA;by_cases k2:(f.addrs[(j:Int).toNat]'ai)=0
   ·have g2:((f.addrs[(j:Int).toNat]'ai) != 0)=false:=by rw[bne_eq_false_iff_eq];exact k2
    have g2n:(!((f.addrs[(j:Int).toNat]'ai) != 0))=true:=by rw[g2];rfl
    have ji:res=false:=by rw[aa,ig (by rw[hA,g2];rfl),wK]
    subst ji;refine gD qo F238 ?_;exact D
   have g2:((f.addrs[(j:Int).toNat]'ai) != 0)=true:=by rw[xB];exact k2
   rw[g2,yF]at hA;by_cases k3:fv<0
   ·have g3:decide (fv≥0)=false:=zI q_;have g3n:(!(decide (fv≥0)))=true:=by rw[g3];rfl
    have ji:res=false:=by rw[aa,ig (by rw[hA,zI (by omega:¬0≤fv)];rfl),wK]
    subst ji;refine gA qo F238 qf F237 ?_;exact D
   have g3:decide (fv≥0)=true:=zL q_;rw[zL (by omega:0≤fv),yF]at hA;by_cases k4:lv<0
   ·have g4:decide (lv≥0)=false:=zI q_;have g4n:(!(decide (lv≥0)))=true:=by rw[g4];rfl
    have ji:res=false:=by rw[aa,ig (by rw[hA,zI (by omega:¬0≤lv)];rfl),wK]
    subst ji;refine gA qo F238 qf F237 ?_;refine C ql F236 ?_;refine As E (.cons .tmp .nil) (zH Ab g4.symm) E
   have g4:decide (lv≥0)=true:=zL q_;have g4n:(!(decide (lv≥0)))=false:=by rw[g4];rfl
   rw[zL (by omega:0≤lv),yF]at hA;obtain ⟨m,hm,il⟩:=yg.resolve_left k4;subst hm;have ay:(m:Int).toNat<n.floods.length:=il;rw[Af ay,og]at hA;have eu:=hn.addrs _ (zJ ay);have qc:=T4 (n.floods[(m:Int).toNat]'ay).addrs (n.devices[f.dev.toNat]'rz.2).vtep eu;have qcb:=λb=>T4 (n.floods[(m:Int).toNat]'ay).addrs b eu
   have gy:(decide (0≤v0)&&(f.addrs.take (j+1)).all (agreeA n f))=(inB (n.floods[(m:Int).toNat]'ay).addrs (n.devices[f.dev.toNat]'rz.2).vtep&&f.addrs.all λb=>b==(f.addrs[(j:Int).toNat]'ai)||inB (n.floods[(m:Int).toNat]'ay).addrs b):=by
    rw[ff,←Bool.and_assoc,ho,yF,hA]
   clear hA ff ig ud ho hag;refine gA qo F238 qf F237 ?_;refine gI ql F236 ql F236 ?_;refine C qc F301 ?_;refine Cj (λk:Nat=>k≤f.addrs.length) (λk=>[(2,.ref 8 (Ao n) 0),(3,.ref 4 (Bh f) 0),(5,A9 (n.devices[f.dev.toNat]'rz.2).vtep),(6,Ab (inB (n.floods[(m:Int).toNat]'ay).addrs (n.devices[f.dev.toNat]'rz.2).vtep&&(f.addrs.take k).all λb=>b==(f.addrs[(j:Int).toNat]'ai)||inB (n.floods[(m:Int).toNat]'ay).addrs b)),(8,A9 (f.addrs[(j:Int).toNat]'ai)),(10,.sl 1 A9 (n.floods[(m:Int).toNat]'ay).addrs),(28,.sl 1 A9 f.addrs),(29,Aa f.addrs.length),(30,Aa j),(78,.sl 1 A9 f.addrs),(79,Aa f.addrs.length),(80,Aa k)]) (λ_=>[]) (λk=>f.addrs.length-k) 0 [] q_ ⟨⟨E,E,E,E,E,E,zH Ab y_,E,E,E,E,E,E,E,E,E,E,E,E,E,E,E,E,E,Y⟩,Y,E,E⟩ ?_;intro k hk;refine T ?_;constructor<;>intro h
   ·have cz:k<f.addrs.length:=qA h;have bl:(k:Int).toNat<f.addrs.length:=cz;clear h;have ff:(f.addrs.take (k+1)).all (λb=>b==(f.addrs[(j:Int).toNat]'ai)||inB (n.floods[(m:Int).toNat]'ay).addrs b)=((f.addrs.take k).all (λb=>b==(f.addrs[(j:Int).toNat]'ai)||inB (n.floods[(m:Int).toNat]'ay).addrs b)&&((f.addrs[(k:Int).toNat]'bl)==(f.addrs[(j:Int).toNat]'ai)||inB (n.floods[(m:Int).toNat]'ay).addrs (f.addrs[(k:Int).toNat]'bl))):=by
     rw[yC cz,List.all_append];simp only[List.all_cons,List.all_nil,uA];rfl
    have br:(inB (n.floods[(m:Int).toNat]'ay).addrs (n.devices[f.dev.toNat]'rz.2).vtep&&(f.addrs.take (k+1)).all λb=>b==(f.addrs[(j:Int).toNat]'ai)||inB (n.floods[(m:Int).toNat]'ay).addrs b)=((inB (n.floods[(m:Int).toNat]'ay).addrs (n.devices[f.dev.toNat]'rz.2).vtep&&(f.addrs.take k).all λb=>b==(f.addrs[(j:Int).toNat]'ai)||inB (n.floods[(m:Int).toNat]'ay).addrs b)&&((f.addrs[(k:Int).toNat]'bl)==(f.addrs[(j:Int).toNat]'ai)||inB (n.floods[(m:Int).toNat]'ay).addrs (f.addrs[(k:Int).toNat]'bl))):=by
     rw[ff,Bool.and_assoc]
    have qb:=qcb (f.addrs[(k:Int).toNat]'bl);cases ho2:(inB (n.floods[(m:Int).toNat]'ay).addrs (n.devices[f.dev.toNat]'rz.2).vtep&&(f.addrs.take k).all λb=>b==(f.addrs[(j:Int).toNat]'ai)||inB (n.floods[(m:Int).toNat]'ay).addrs b) with
    |false=>
     rw[ho2,yG]at br;refine T ?_;exact Ax (k+1) [] cz q_ ⟨⟨E,E,E,E,E,E,zH Ab br,E,E,E,E,E,E,E,E,E,E,E,E,E,E,E,E,E,Y⟩,Y,E,E⟩
    |true=>
     rw[ho2,yF]at br;cases he:((f.addrs[(k:Int).toNat]'bl)==(f.addrs[(j:Int).toNat]'ai)) with
     |true=>
      rw[he,tR]at br;refine T ?_;exact Ax (k+1) [] cz q_ ⟨⟨E,E,E,E,E,E,zH Ab br,E,E,E,E,E,E,E,E,E,E,E,E,E,E,E,E,E,Y⟩,Y,E,E⟩
     |false=>
      rw[he,uB]at br;refine gD qb F301 ?_;exact Ax (k+1) [] cz q_ ⟨⟨E,E,E,E,E,E,zH Ab br,E,E,E,E,E,E,E,E,E,E,E,E,E,E,E,E,E,Y⟩,Y,E,E⟩
   ·have vj:k=f.addrs.length:=qB h;clear h;rw[vj,yN];refine T ?_;exact Ax (j+1) [] ab q_ ⟨⟨E,E,E,E,E,E,zH Ab gy,E,E,E,E,E,E,E,Y⟩,Y,E,E⟩
 ·have cm:j=f.addrs.length:=qB h;clear h;subst cm;rw[yN,←aa];exact gB
def Ahf{α:Type}{p:α→Bool}:∀{l:List α} {j:Nat} (hj:j<l.length),(∀k (hk:k<l.length),k<j→p l[k]=false)→p l[j]=true→l.find? p=some l[j]
 |x::l,0,_,_,h2=>by
  rw[tO]at h2⊢;rw[List.find?_cons,h2]
 |x::l,j+1,hj,h1,h2=>by
  rw[uQ]at h2 ⊢;have h0:=h1 0 y_ q_;rw[tO]at h0;rw[List.find?_cons,h0];exact Ahf (by simpa using hj) (λ k hk hkj=>by
   have:=h1 (k+1) (by simp;omega) q_;rwa [uQ]at this) h2
def Uq(n:Net)(j:Nat):List Domain:=(n.domains.take j).map (λd=>{d with peers:=peersT n d})++n.domains.drop j
def Azm(n:Net):Uq n 0=n.domains:=by simp[Uq]
def A3o(n:Net):Uq n n.domains.length=(Bw n).domains:=by simp[Uq,Bw]
def A3n(n:Net){j:Nat}(hj:j≤n.domains.length):(Uq n j).length=n.domains.length:=by simp[Uq];omega
def Azn(n:Net){j:Nat}(hj:j<n.domains.length)(h:(j:Int).toNat<(Uq n j).length):(Uq n j)[(j:Int).toNat]'h=n.domains[j]∧(Uq n j).set (j:Int).toNat {n.domains[j] with peers:=peersT n n.domains[j]}=Uq n (j+1):=by
 have hl:((n.domains.take j).map (λd=>{d with peers:=peersT n d})).length=j:=by simp;omega
 have e:Uq n j=(n.domains.take j).map (λd=>{d with peers:=peersT n d})++n.domains[j]::n.domains.drop (j+1):=by
  rw[Uq,yK hj]
 have e2:Uq n (j+1)=(n.domains.take j).map (λd=>{d with peers:=peersT n d})++{n.domains[j] with peers:=peersT n n.domains[j]}::n.domains.drop (j+1):=by
  rw[Uq,yC hj,wZ,xW,vU,xD];rfl
 constructor
 ·simp only[zZ,e];rw[xO q_];simp only[hl,tS,tO]
 ·rw[zZ,e,e2,tV _ _ q_,hl,tS];rfl
def A45(n:Net)(h:Ac n=true):(∀f∈n.floods,f.addrs.length≤16):=λf hf=>by
 obtain ⟨j,hj,rfl⟩:=vM hf;have:=Axa h hj;simp only[Oy,zG,zK]at this;exact this.2
def Aza{n:Net}(h:Ac n=true)(d:Domain):(peersT n d).length≤16:=by
 unfold peersT;split
 ·rename_i hc;rw[xA];have hl:=Ij (λf:Flood=>f.dev==d.dev&&f.vni==d.vni) n.floods;have h0:(Ef n d.dev d.vni).toNat<n.floods.length:=by
   have e:Ef n d.dev d.vni=Br (λf:Flood=>f.dev==d.dev&&f.vni==d.vni) n.floods:=rfl;have:=hc.2;omega
  rw[Af h0];exact A45 n h _ (zJ h0)
 ·simp
def Agh{n:Net}(hn:n.Fin)(h:Ac n=true):(Bw n).Fin:=by
 have hl:(Bw n).domains.length=n.domains.length:=by simp[Bw]
 refine {hn with domains:=?_,peers:=?_}
 ·show (Bw n).domains.length<_;rw[hl];exact hn.domains
 ·intro p hp;have hp:p∈n.domains.map λd=>{d with peers:=peersT n d}:=hp
  obtain ⟨d,_,rfl⟩:=yS.1 hp;show (peersT n d).length<_;have:=Aza h d;omega
def meshS(n:Net)(hn:n.Fin):Sp 168 [Ao n] (.tup [Ao (meshNT n).1,Aa (meshNT n).2.1,Aa (meshNT n).2.2]):=cT F168 ntmps168 λF hF=>by
 have qn:=A0 n hn;have de:=T3 n hn;have aa:=meshNT.eq_1 n;generalize meshNT n=res at *;cases hr:Ac n with
 |false=>
  rw[hr]at qn;rw[hr,zE rfl]at aa;subst aa;refine gD qn F20 ?_;refine Al 2 (Da emptyN) E vL ?_;exact gB
 |true=>
 rw[hr]at qn;rw[hr,zD y_]at aa;have hff:n.floods.length<2147483648:=hn.floods;have dr:n.domains.length<2147483648:=hn.domains;refine gD qn F20 ?_;refine Ba 1 8 (Ao n) E E E ?_;refine Cj (λj:Nat=>j≤n.floods.length∧∀k (hk:k<n.floods.length),k<j→agreesB n n.floods[k]=true) (λj=>[(1,.ref 8 (Ao n) 0),(2,.ptr 1001 0),(18,.sl 4 Bh n.floods),(19,Aa n.floods.length),(20,Aa j)]) (λ_=>[(1001,.box [.val (.slice none 0 0),.val (.slice none 0 0),.val (.slice none 0 0),.val (.slice none 0 0),.val (.slice none 0 0),.val (.slice none 0 0),.val (.slice none 0 0),.val (.slice none 0 0)])]) (λj=>n.floods.length-j) 0 [(1001,2)] ⟨by omega,λk hk h=>by omega⟩ U ?_;rintro j ⟨hj,hI⟩;refine T ?_;constructor<;>intro h
 ·have ab:j<n.floods.length:=qA h;have ai:(j:Int).toNat<n.floods.length:=ab;clear h;have q:=A70 n hn hr (n.floods[(j:Int).toNat]'ai) (zJ ai);cases ha:agreesB n (n.floods[(j:Int).toNat]'ai) with
  |false=>
   rw[ha]at q;rw[Ahf (p:=λf=>!(agreesB n f)) ab (λk hk hkj=>by simp only[hI k hk hkj];rfl) (by show (!(agreesB n (n.floods[(j:Int).toNat]'ai)))=true;rw[ha];rfl)]at aa;dsimp only at aa;subst aa;refine gD q F235 ?_;refine Al 1001 (Da emptyN) E vL ?_;exact gB
  |true=>
   rw[ha]at q;refine gD q F235 ?_;refine Ax (j+1) [] ⟨ab,λk hk hkj=>?_⟩ q_ U;by_cases e:k=j
   ·subst e;exact ha
   ·exact hI k hk q_
 ·have cm:j=n.floods.length:=qB h;clear h;have ue:n.floods.find? (λf=>!(agreesB n f))=none:=by
   rw[List.find?_eq_none];intro x hx;obtain ⟨k,hk,rfl⟩:=vM hx;rw[hI k hk q_];simp
  rw[ue]at aa;dsimp only at aa;clear hI hj cm ue;refine T ?_;refine X (Ad [(0,901),(1,902),(2,903),(3,904),(4,905),(5,906),(6,907),(7,908)] E F38 de E W E V) ?_;refine Cj (λj:Nat=>j≤n.domains.length) (λj=>[(1,.ref 8 (Ao n) 0),(2,.ptr 1001 0),(35,.sl 6 Aq n.domains),(36,Aa n.domains.length),(37,Aa j)]) (λj=>[(1001,.box [.osl 901,.osl 902,.osl 903,.osl 1004,.osl 905,.osl 906,.osl 907,.osl 908]),(901,.row 5 Aw n.devices),(902,.row 7 A7 n.ports),(903,.row 3 B5 n.links),(1004,.row 6 Aq (Uq n j)),(905,.row 4 A2 n.statics),(906,.row 4 Bh n.floods),(907,.row 5 Ck n.vrfs),(908,.row 5 Cb n.irbs)]) (λj=>n.domains.length-j) 0 [(1004,904)] q_ ⟨⟨E,E,E,E,E,E,E,E,E,E,Y⟩,⟨.inl E,E,.inl E,E,.inl E,E,.inl E,E,.inl (zH (Ob.row 6 Aq) (Azm n)),E,.inl E,E,.inl E,E,.inl E,E,.inl E,E,Y⟩,E,E⟩ ?_;intro j hj;have il:=A3n n hj;refine T ?_;constructor<;>intro h
  ·have ab:j<n.domains.length:=qA h;have ai:(j:Int).toNat<n.domains.length:=ab;clear h;have yh:(j:Int).toNat<(Uq n j).length:=by rw[il];exact ai
   obtain ⟨m1,m2⟩:=Azn n ab yh;have hDj:n.domains[j]=(n.domains[(j:Int).toNat]'ai):=rfl;rw[hDj]at m1 m2;have af:Uq n j≠[]:=λe=>by rw[e]at yh;cases yh
   have ql:=Amf n hn (n.domains[(j:Int).toNat]'ai).dev (n.domains[(j:Int).toNat]'ai).vni;have tx:=peersT.eq_1 n (n.domains[(j:Int).toNat]'ai);have yg:Ef n (n.domains[(j:Int).toNat]'ai).dev (n.domains[(j:Int).toNat]'ai).vni<0∨∃k:Nat,Ef n (n.domains[(j:Int).toNat]'ai).dev (n.domains[(j:Int).toNat]'ai).vni=k∧k<n.floods.length:=by
    by_cases h:Ef n (n.domains[(j:Int).toNat]'ai).dev (n.domains[(j:Int).toNat]'ai).vni<0
    ·exact .inl h
    ·exact .inr (Ke h)
   generalize Ef n (n.domains[(j:Int).toNat]'ai).dev (n.domains[(j:Int).toNat]'ai).vni=lv at *;generalize hpT:peersT n (n.domains[(j:Int).toNat]'ai)=ps at *;by_cases k1:(n.domains[(j:Int).toNat]'ai).vni=0
   ·have g1:((n.domains[(j:Int).toNat]'ai).vni != 0)=false:=by rw[bne_eq_false_iff_eq];exact k1
    rw[zD (λh=>h.1 k1)]at tx;subst tx;refine T ?_;refine An 9 1 Aa E ?_;refine C ql F236 ?_;refine⟨af,?_⟩;refine T ?_;refine⟨(⟨(n.domains[(j:Int).toNat]'ai).dev,(n.domains[(j:Int).toNat]'ai).vlan,(n.domains[(j:Int).toNat]'ai).vni,(n.domains[(j:Int).toNat]'ai).irb,(n.domains[(j:Int).toNat]'ai).row,[]⟩:Domain),by rw[m1];rfl,by rw[m1];rfl,?_⟩;refine T ?_;exact Ax (j+1) [] ab q_ ⟨⟨E,E,E,E,E,E,E,E,E,E,Y⟩,⟨.inl E,E,.inl E,E,.inl E,E,.inl E,E,.inl (zH (Ob.row 6 Aq) m2.symm),E,.inl E,E,.inl E,E,.inl E,E,.inl E,E,Y⟩,E,E⟩
   have g1:((n.domains[(j:Int).toNat]'ai).vni != 0)=true:=by rw[xB];exact k1
   by_cases k2:lv<0
   ·have g2:decide (lv≥0)=false:=zI q_;rw[zD (λh=>by have:=h.2;omega)]at tx;subst tx;refine T ?_;refine An 9 1 Aa E ?_;refine C ql F236 ?_;refine⟨af,?_⟩;refine T ?_;refine⟨(⟨(n.domains[(j:Int).toNat]'ai).dev,(n.domains[(j:Int).toNat]'ai).vlan,(n.domains[(j:Int).toNat]'ai).vni,(n.domains[(j:Int).toNat]'ai).irb,(n.domains[(j:Int).toNat]'ai).row,[]⟩:Domain),by rw[m1];rfl,by rw[m1];rfl,?_⟩;refine T ?_;exact Ax (j+1) [] ab q_ ⟨⟨E,E,E,E,E,E,E,E,E,E,Y⟩,⟨.inl E,E,.inl E,E,.inl E,E,.inl E,E,.inl (zH (Ob.row 6 Aq) m2.symm),E,.inl E,E,.inl E,E,.inl E,E,.inl E,E,Y⟩,E,E⟩
   obtain ⟨m,hm,hmf⟩:=yg.resolve_left k2;subst hm;clear yg;have g2:decide ((m:Int)≥0)=true:=zL q_;have ay:(m:Int).toNat<n.floods.length:=hmf;rw[zE ⟨k1,by omega⟩,Af ay]at tx;have hfa:=A45 n hr _ (zJ ay);refine T ?_;refine Ce 9 1200 1 Aa E E ?_;refine C ql F236 ?_;refine Ba 8 6 (Aq (n.domains[(j:Int).toNat]'ai)) E E E ?_;refine Cj (λk:Nat=>k≤(n.floods[(m:Int).toNat]'ay).addrs.length) (λk=>[(1,.ref 8 (Ao n) 0),(2,.ptr 1001 0),(7,Aa j),(8,.ref 6 (Aq (n.domains[(j:Int).toNat]'ai)) 0),(9,.osl 1200),(35,.sl 6 Aq n.domains),(36,Aa n.domains.length),(37,Aa j),(60,.sl 1 A9 (n.floods[(m:Int).toNat]'ay).addrs),(61,Aa (n.floods[(m:Int).toNat]'ay).addrs.length),(62,Aa k)]) (λk=>[(1001,.box [.osl 901,.osl 902,.osl 903,.osl 1004,.osl 905,.osl 906,.osl 907,.osl 908]),(901,.row 5 Aw n.devices),(902,.row 7 A7 n.ports),(903,.row 3 B5 n.links),(1004,.row 6 Aq (Uq n j)),(905,.row 4 A2 n.statics),(906,.row 4 Bh n.floods),(907,.row 5 Ck n.vrfs),(908,.row 5 Cb n.irbs),(1200,.row 1 Aa (((n.floods[(m:Int).toNat]'ay).addrs.take k).map (λa=>Je n (C4 n a) (n.domains[(j:Int).toNat]'ai).vni)))]) (λk=>(n.floods[(m:Int).toNat]'ay).addrs.length-k) 0 [] q_ U ?_;intro k hk;refine T ?_;constructor<;>intro h
   ·have cz:k<(n.floods[(m:Int).toNat]'ay).addrs.length:=qA h;have bl:(k:Int).toNat<(n.floods[(m:Int).toNat]'ay).addrs.length:=cz;clear h;have qo:=Atv n hn ((n.floods[(m:Int).toNat]'ay).addrs[(k:Int).toNat]'bl);have qf:=Z5 n hn (C4 n ((n.floods[(m:Int).toNat]'ay).addrs[(k:Int).toNat]'bl)) (n.domains[(j:Int).toNat]'ai).vni;have ff:((n.floods[(m:Int).toNat]'ay).addrs.take (k+1)).map (λa=>Je n (C4 n a) (n.domains[(j:Int).toNat]'ai).vni)=((n.floods[(m:Int).toNat]'ay).addrs.take k).map (λa=>Je n (C4 n a) (n.domains[(j:Int).toNat]'ai).vni)++[Je n (C4 n ((n.floods[(m:Int).toNat]'ay).addrs[(k:Int).toNat]'bl)) (n.domains[(j:Int).toNat]'ai).vni]:=by
     rw[yC cz,wZ];rfl
    have wy:(((n.floods[(m:Int).toNat]'ay).addrs.take k).map (λa=>Je n (C4 n a) (n.domains[(j:Int).toNat]'ai).vni)).length≤16:=by rw[xA,zY];omega
    refine gA qo F238 qf F237 ?_;refine Xd (Ag Γ.toTy 75 E E E E E (.row E) (.lit (e:=Aa) (l:=[Je n (C4 n ((n.floods[(m:Int).toNat]'ay).addrs[(k:Int).toNat]'bl)) (n.domains[(j:Int).toNat]'ai).vni]) E E) j_ (by simp only[zW];omega) (by simp only[zW];omega)) ?_;refine T ?_;exact Ax (k+1) [(1200,75)] cz q_ ⟨⟨E,E,E,E,E,E,E,E,E,E,E,E,E,E,E,E,E,E,E,E,E,E,Y⟩,⟨.inl E,E,.inl E,E,.inl E,E,.inl E,E,.inl E,E,.inl E,E,.inl E,E,.inl E,E,.inl E,E,.inl (zH (Ob.row 1 Aa) ff),E,Y⟩,E,E⟩
   ·have vj:k=(n.floods[(m:Int).toNat]'ay).addrs.length:=qB h;clear h;rw[vj,yN,←tx];refine Aj 1200 E ?_;refine T ?_;refine⟨af,?_⟩;refine T ?_;refine⟨(⟨(n.domains[(j:Int).toNat]'ai).dev,(n.domains[(j:Int).toNat]'ai).vlan,(n.domains[(j:Int).toNat]'ai).vni,(n.domains[(j:Int).toNat]'ai).irb,(n.domains[(j:Int).toNat]'ai).row,ps⟩:Domain),by rw[m1];rfl,by rw[m1];rfl,?_⟩;refine T ?_;exact Ax (j+1) [] ab q_ ⟨⟨E,E,E,E,E,E,E,E,E,E,Y⟩,⟨.inl E,E,.inl E,E,.inl E,E,.inl E,E,.inl (zH (Ob.row 6 Aq) m2.symm),E,.inl E,E,.inl E,E,.inl E,E,.inl E,E,Y⟩,E,E⟩
  ·have cm:j=n.domains.length:=qB h;clear h;subst cm;rw[A3o];have qm:=A0 (Bw n) (Agh hn hr);refine T ?_;refine Aj 901 E ?_;refine Aj 902 E ?_;refine Aj 903 E ?_;refine Aj 1004 E ?_;refine Aj 905 E ?_;refine Aj 906 E ?_;refine Aj 907 E ?_;refine Aj 908 E ?_;cases hb:Ac (Bw n) with
   |false=>
    rw[hb]at qm;rw[hb,zE rfl]at aa;subst aa;refine C qm F20 ?_;refine Al 1001 (Da emptyN) E vL ?_;exact gB
   |true=>
    rw[hb]at qm;rw[hb,zD y_]at aa;subst aa;refine C qm F20 ?_;exact D
end Go.Sy.YtolnneiipmfgaaaGreatDoor
namespace Go.Sy.YtolnneiipmfgaaaGreatDoor
open Go.Proofs Go.Proofs.Tryz
set_option maxHeartbeats 4000000
structure PutP(x:Net×Int):Prop where
 fin:x.1.Fin
 addrs:Ds x.1
 none:x.2≠0→x.1=emptyN
def Kf:emptyN.Fin:=by
 constructor<;>first|(show (0:Nat)<2147483648;decide)|(intro p hp;cases hp)
def Bp(e:Int):PutP (emptyN,e):=⟨Kf,(λx hx=>by cases hx),λ_=>rfl⟩
def Mt{n:Net}(h:n.Fin)(a:Ds n):PutP (n,0):=⟨h,a,λh=>yB rfl h⟩
def V5{n:Net}{l:LineM}{k:Int}(h:¬fitsB n l k=false):n.devices.length≤8∧n.ports.length≤40∧n.links.length≤20∧n.domains.length≤48∧n.statics.length≤64∧n.floods.length≤48∧n.vrfs.length≤16∧n.irbs.length≤48:=by
 have h:fitsB n l k=true:=by simpa using h
 rw[fitsB,zG,zG]at h;have h3:=h.2.2;simp only[Ac,zG]at h3;have h4:=h3.1.1.1.1.1.1.1.1;simpa [Ai8,and_assoc] using h4
def Abd{n:Net}{l:LineM}{k:Int}(h:¬(begT n l k).2≠0):n.devices.length≤8∧n.ports.length≤40∧n.links.length≤20∧n.domains.length≤48∧n.statics.length≤64∧n.floods.length≤48∧n.vrfs.length≤16∧n.irbs.length≤48:=by
 apply V5 (l:=l) (k:=k);intro h2;rw[begT,zE h2]at h;exact h j_
def D2{α:Type}{l:List α}(h:l.length≤100000):Am l:=by show l.length<2147483648;omega
def Aed(dev:Int):∀(l:List Int) (ds:List Domain) (d:Domain),d∈Bk dev ds l→d∈ds∨d.peers=[]
 |[],_,_,h=>.inl h
 |v::l,ds,d,h=>by
  rcases Aed dev l (C1 dev ds v) d h with h|h
  ·unfold C1 at h;split at h
   ·rcases yL.1 h with h|h
    ·exact .inl h
    ·rw[yA.1 h];exact .inr rfl
   ·exact .inl h
  ·exact .inr h
def Wu{α:Type}{l:List α}{i:Nat}{x y:α}(h:y∈l.set i x):y∈l∨y=x:=by
 rcases Go.uU h with h|h
 ·exact .inl h
 ·exact .inr h
def Ir{α:Type}[Inhabited α]{l:List α}{i:Int}(h:i.toNat<l.length):nth l i∈l:=by rw[Af h];exact zJ h
def Aip{n:Net}{l:LineM}(hn:n.Fin)(ha:Ds n):PutP (putDevice n l):=by
 unfold putDevice;split
 ·exact Bp _
 rename_i h;have:=V5 h;split
 ·exact Bp _
 split
 ·exact Bp _
 exact Mt {hn with devices:=D2 (by rw[zQ,zW];omega)} ha
def Ao3{n:Net}{l:LineM}(hn:n.Fin)(ha:Ds n)(hl:LineW l):PutP (putPort n l):=by
 unfold putPort;split
 ·exact Bp _
 rename_i h;have:=V5 h;split
 ·exact Bp _
 split
 ·exact Bp _
 split
 ·exact Bp _
 split
 ·exact Bp _
 refine Mt {hn with ports:=D2 (by rw[zQ,zW];omega),domains:=D2 (by dsimp only;omega),tagged:=λp hp=>?_,peers:=λd hd=>?_} ha
 ·rcases yL.1 hp with hp|hp
  ·exact hn.tagged p hp
  ·rw[yA.1 hp];exact D2 hl.fin.t
 ·rcases Aed _ _ _ _ hd with h|h
  ·exact hn.peers d h
  ·exact D2 (by rw[h];exact xQ _)
def Av5{l:List Port}{i k:Int}{p:Port}(h:p∈Hr l i k)(hT:∀p∈l,Am p.tagged):Am p.tagged:=by
 by_cases hi:i.toNat<l.length
 ·rcases Wu h with h|h
  ·exact hT p h
  ·rw[h];exact show Am (nth l i).tagged from hT _ (Ir hi)
 ·rw[Hr,tC q_]at h;exact hT p h
def Ao4{n:Net}{l:LineM}(hn:n.Fin)(ha:Ds n):PutP (putLink n l):=by
 unfold putLink;split
 ·exact Bp _
 rename_i h;have:=V5 h;dsimp only;split
 ·exact Bp _
 split
 ·exact Bp _
 split
 ·exact Bp _
 refine Mt {hn with ports:=D2 (by simp only[Hr,yP];omega),links:=D2 (by rw[zQ,zW];omega),tagged:=λp hp=>Av5 hp λq hq=>Av5 hq hn.tagged} ha
def Aio{n:Net}{l:LineM}(hn:n.Fin)(ha:Ds n):PutP (putStatic n l):=by
 unfold putStatic;split
 ·exact Bp _
 rename_i h;have:=V5 h;dsimp only;split
 ·exact Bp _
 split
 ·exact Bp _
 split
 ·exact Bp _
 split
 ·exact Bp _
 exact Mt {hn with statics:=D2 (by rw[zQ,zW];omega)} ha
def Ao2{n:Net}{l:LineM}(hn:n.Fin)(ha:Ds n):PutP (putVtep n l):=by
 unfold putVtep;split
 ·exact Bp _
 rename_i h;have:=Abd h;dsimp only;split
 ·exact Bp _
 exact Mt {hn with devices:=D2 (by simp only[Yq,yP];omega)} ha
def Axd{l:List Domain}{i:Nat}{e d:Domain}(h:d∈l.set i e)(he:i<l.length→Am e.peers)(hT:∀p∈l,Am p.peers):Am d.peers:=by
 by_cases hi:i<l.length
 ·rcases Wu h with h|h
  ·exact hT d h
  ·rw[h];exact he hi
 ·rw[tC q_]at h;exact hT d h
def Atm{n:Net}{l:LineM}(hn:n.Fin)(ha:Ds n):PutP (putVni n l):=by
 unfold putVni;split
 ·exact Bp _
 rename_i h;have:=Abd h;dsimp only;split
 ·exact Bp _
 split
 ·exact Bp _
 split
 ·exact Bp _
 exact Mt {hn with domains:=D2 (by simp only[yP];omega),peers:=λd hd=>Axd hd (λhi=>show Am (nth n.domains _).peers from hn.peers _ (Ir hi)) hn.peers} ha
def Al7{n:Net}{l:LineM}(hn:n.Fin)(ha:Ds n)(hl:LineW l):PutP (putFlood n l):=by
 unfold putFlood;split
 ·exact Bp _
 rename_i h;have:=Abd h;dsimp only;split
 ·exact Bp _
 split
 ·exact Bp _
 split
 ·exact Bp _
 split
 ·exact Bp _
 refine Mt {hn with floods:=D2 (by rw[zQ,zW];omega),addrs:=λp hp=>?_} ha;rcases yL.1 hp with hp|hp
 ·exact hn.addrs p hp
 ·rw[yA.1 hp];exact D2 hl.fin.a
def Atl{n:Net}{l:LineM}(hn:n.Fin)(ha:Ds n)(hl:LineW l):PutP (putVrf n l):=by
 unfold putVrf;split
 ·exact Bp _
 rename_i h;have:=Abd h;dsimp only;split
 ·exact Bp _
 split
 ·exact Bp _
 refine Mt {hn with vrfs:=D2 (by rw[zQ,zW];omega),imports:=λp hp=>?_,exports:=λp hp=>?_} ha
 ·rcases yL.1 hp with hp|hp
  ·exact hn.imports p hp
  ·rw[yA.1 hp];exact D2 hl.fin.i
 ·rcases yL.1 hp with hp|hp
  ·exact hn.exports p hp
  ·rw[yA.1 hp];exact D2 hl.fin.e
def Atn{n:Net}{l:LineM}(hn:n.Fin)(ha:Ds n)(hl:LineW l):PutP (putIrb n l):=by
 unfold putIrb;split
 ·exact Bp _
 rename_i h;have:=Abd h;dsimp only;split
 ·exact Bp _
 split
 ·exact Bp _
 split
 ·exact Bp _
 refine Mt {hn with domains:=D2 (by simp only[yP];omega),peers:=λd hd=>Axd hd (λhi=>show Am (nth n.domains _).peers from hn.peers _ (Ir hi)) hn.peers,irbs:=D2 (by rw[zQ,zW];omega)} λx hx=>?_
 rcases yL.1 hx with hx|hx
 ·exact ha x hx
 ·rw[yA.1 hx];exact hl.ok.addr
def Awm{n:Net}{l:LineM}(hn:n.Fin)(ha:Ds n)(hl:LineW l):PutP (putT n l):=by
 unfold putT;split
 ·exact Aip hn ha
 split
 ·exact Ao3 hn ha hl
 split
 ·exact Ao4 hn ha
 split
 ·exact Aio hn ha
 split
 ·exact Ao2 hn ha
 split
 ·exact Atm hn ha
 split
 ·exact Al7 hn ha hl
 split
 ·exact Atl hn ha hl
 split
 ·exact Atn hn ha hl
 exact Bp _
def Aj2{n:Net}(hn:n.Fin):(meshNT n).1.Fin:=by
 unfold meshNT;split
 ·exact Kf
 rename_i h;have h:Ac n=true:=by simpa using h
 split
 ·exact Kf
 split
 ·exact Kf
 exact Agh hn h
structure NameK(n:Net):Prop where
 dev:∀i:Nat,i<n.devices.length→A1 (nth n.devices (i:Int)).name=true∧Cg n (nth n.devices (i:Int)).name=i
 prt:∀i:Nat,i<n.ports.length→A1 (nth n.ports (i:Int)).name=true∧Og n (nth n.ports (i:Int)).dev (nth n.ports (i:Int)).name=i
theorem NameK.same{n m:Net}(h:NameK n)(hd:m.devices=n.devices)(hp:m.ports=n.ports):NameK m:=by
 refine⟨λi hi=>?_,λi hi=>?_⟩
 ·rw[hd]at hi⊢;have:=h.dev i hi;unfold Cg at this⊢;rw[hd];exact this
 ·rw[hp]at hi⊢;have:=h.prt i hi;unfold Og at this⊢;rw[hp];exact this
def Y9:∀(l:List LineM) (n:Net),n.Fin→Ds n→(∀x∈l,LineW x)→(B0 n l).2.2=0→(B0 n l).1.Fin∧Ds (B0 n l).1
 |[],n,hn,ha,_,h=>by
  rw[B0,finishT]at h⊢;split at h
  ·rename_i h1;exact yB h h1
  rename_i h1;rw[zD h1];split at h
  ·simp at h
  rename_i h2;rw[zD h2];obtain ⟨e1,_⟩:=Qh (n:=n) q_;refine⟨Aj2 hn,?_⟩;dsimp only;rw[e1];exact ha
 |x::l,n,hn,ha,hl,h=>by
  rw[B0]at h⊢;split at h
  ·rename_i h1;exact yB h h1
  rename_i h1;rw[zD h1];have:=Awm hn ha (hl x y_);exact Y9 l _ this.fin this.addrs (λy hy=>hl y (by simp[hy])) h
def empty_num:emptyN.Num:=⟨λd hd=>(by cases hd),λd hd=>(by cases hd)⟩
def Atk{n:Net}{l:LineM}(hv:∀d∈n.devices,0≤d.vtep∧d.vtep<4294967296)(hl:LineW l):∀d∈(putT n l).1.devices,0≤d.vtep∧d.vtep<4294967296:=by
 have same:∀{m:Net},m.devices=n.devices→∀d∈m.devices,0≤d.vtep∧d.vtep<4294967296:=λ{m} h d hd=>hv d (by rw[←h];exact hd)
 have e:=empty_num.vtep;rw[putT];split
 ·rw[putDevice]
  repeat' split
  all_goals (try exact e)
  intro d hd;rcases yL.1 hd with hd|hd
  ·exact hv d hd
  ·rw[yA.1 hd];exact⟨wB _,by show (0:Int)<_;decide⟩
 split
 ·rw[putPort]
  repeat' split
  all_goals (first|exact e|exact same rfl)
 split
 ·rw[putLink];dsimp only
  repeat' split
  all_goals (first|exact e|exact same rfl)
 split
 ·rw[putStatic];dsimp only
  repeat' split
  all_goals (first|exact e|exact same rfl)
 split
 ·rw[putVtep];dsimp only;split
  ·exact e
  split
  ·exact e
  intro d hd;have hd:d∈Yq n.devices (begT n l 5).1 l.addr:=hd;rcases Wu hd with h|h
  ·exact hv d h
  ·rw[h];exact hl.ok.addr
 split
 ·rw[putVni];dsimp only
  repeat' split
  all_goals (first|exact e|exact same rfl)
 split
 ·rw[putFlood];dsimp only
  repeat' split
  all_goals (first|exact e|exact same rfl)
 split
 ·rw[putVrf];dsimp only
  repeat' split
  all_goals (first|exact e|exact same rfl)
 split
 ·rw[putIrb];dsimp only
  repeat' split
  all_goals (first|exact e|exact same rfl)
 exact e
def T6:∀(l:List LineM) (n:Net),(∀d∈n.devices,0≤d.vtep∧d.vtep<4294967296)→(∀x∈l,LineW x)→(B0 n l).2.2=0→∀d∈(B0 n l).1.devices,0≤d.vtep∧d.vtep<4294967296
 |[],n,hn,_,h=>by
  rw[B0,finishT]at h⊢;split at h
  ·rename_i h1;exact yB h h1
  rename_i h1;rw[zD h1];split at h
  ·simp at h
  rename_i h2;rw[zD h2];obtain ⟨e1,_⟩:=Qh (n:=n) q_;dsimp only;rw[e1];exact hn
 |x::l,n,hn,hl,h=>by
  rw[B0]at h⊢;split at h
  ·rename_i h1;exact yB h h1
  rename_i h1;rw[zD h1];exact T6 l _ (Atk hn (hl x y_)) (λy hy=>hl y (by simp[hy])) h
def Atb{l:LineM}(hk:l.kind=2)(h:Cq l=true):1≤l.cost∧l.cost≤65535:=by
 have h1:¬l.kind=1:=by omega
 simp only[Cq,Bm,zD h1,zE hk,zG]at h;exact within_iff.1 h.1.2.1
def Zd(n:Net):Prop:=∀p∈n.ports,Im p=false
def V6:Zd emptyN:=λp hp=>by cases hp
def A5c{n:Net}(h:Zd n):Cu n=true:=by
 rw[Cu,yT,vD];intro p hp;rw[h p hp];exact tM
def Aod{l:List Port}{i k:Int}{p:Port}(h:p∈Hr l i k)(hT:∀p∈l,Im p=false):Im p=false:=by
 by_cases hi:i.toNat<l.length
 ·rcases Wu h with h|h
  ·exact hT p h
  ·rw[h];exact show Im (nth l i)=false from hT _ (Ir hi)
 ·rw[Hr,tC q_]at h;exact hT p h
def Ay4{n:Net}{l:LineM}(hv:Zd n):Zd (putT n l).1:=by
 have same:∀{m:Net},m.ports=n.ports→Zd m:=λ{m} h d hd=>hv d (by rw[←h];exact hd)
 have e:=V6;rw[putT];split
 ·rw[putDevice]
  repeat' split
  all_goals (first|exact e|exact same rfl)
 split
 ·rename_i h2;rw[putPort];split
  ·exact e
  rename_i hf
  repeat' split
  all_goals (try exact e)
  intro p hp;rcases yL.1 hp with hp|hp
  ·exact hv p hp
  ·rw[yA.1 hp];have hf:fitsB n l 2=true:=by simpa using hf
   rw[fitsB,zG,zG]at hf;have:=Atb h2 (by simpa using hf.2.1);simp only[Im];have a:decide (l.cost<1)=false:=zI q_;have b:decide (65535<l.cost)=false:=zI q_;simp[a,b]
 split
 ·rw[putLink];dsimp only
  repeat' split
  all_goals (try exact e)
  intro p hp;exact Aod hp λq hq=>Aod hq hv
 split
 ·rw[putStatic];dsimp only
  repeat' split
  all_goals (first|exact e|exact same rfl)
 split
 ·rw[putVtep];dsimp only
  repeat' split
  all_goals (first|exact e|exact same rfl)
 split
 ·rw[putVni];dsimp only
  repeat' split
  all_goals (first|exact e|exact same rfl)
 split
 ·rw[putFlood];dsimp only
  repeat' split
  all_goals (first|exact e|exact same rfl)
 split
 ·rw[putVrf];dsimp only
  repeat' split
  all_goals (first|exact e|exact same rfl)
 split
 ·rw[putIrb];dsimp only
  repeat' split
  all_goals (first|exact e|exact same rfl)
 exact e
def Wc:∀(l:List LineM) (n:Net),Zd n→(B0 n l).2.2=0→Zd (B0 n l).1
 |[],n,hn,h=>by
  rw[B0,finishT]at h⊢;split at h
  ·rename_i h1;exact yB h h1
  rename_i h1;rw[zD h1];split at h
  ·simp at h
  rename_i h2;rw[zD h2];obtain ⟨e1,_⟩:=Qh (n:=n) q_;dsimp only;rw[e1];exact hn
 |x::l,n,hn,h=>by
  rw[B0]at h⊢;split at h
  ·rename_i h1;exact yB h h1
  rename_i h1;rw[zD h1];exact Wc l _ (Ay4 hn) h
end Go.Sy.YtolnneiipmfgaaaGreatDoor
