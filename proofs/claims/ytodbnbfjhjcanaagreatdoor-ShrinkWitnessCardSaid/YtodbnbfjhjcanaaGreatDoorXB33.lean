/- Parts of a proof. -/
import Derived.Test.YtodbnbfjhjcanaaGreatDoorXB31
set_option maxHeartbeats 4000000
set_option linter.all false
namespace Go.Sy.Zaa
open Go.Proofs Go.Proofs.Tryz
attribute [local irreducible]G DR
set_option maxRecDepth 100000
def Az4(n:Net)(hn:n.Fin)(l:LineM)(hl:LineW l):Sp 275 [Am n,A5 l] (.tup [Am (putPort n l).1,Aa (putPort n l).2]):=cT F275 ntmps275 λF hF=>by
 have aa:=putPort.eq_1 n l;generalize putPort n l=res at *;cases hf:fitsB n l 2 with
 |false=>
  have q1:=Yz n hn l hl 2 hf;rw[hf,zE rfl]at aa;subst aa;refine gC q1 F345 ?_;exact Ak 4 (Dc emptyN) E vL gA
 |true=>
 have q1:=lZ n hn l hl 2 hf;have hr:Ac n=true:=by
  unfold fitsB at hf;simp only[zG]at hf;exact hf.2.2
 rw[hf,zD y_]at aa;have q2:=Je n hn hr l.dev;have q3:=Uh n hn hr (Ci n l.dev) l.port;have ab:=hl.fin.t;have q5:=Ku l.tagged q_;have jl:n.ports.length<=40/\n.domains.length<=48:=⟨(Adi hr).2.1,(Adi hr).2.2.2.1⟩
 generalize Sg n (Ci n l.dev) l.port=pt at *;generalize Ci n l.dev=dv at *;by_cases h3:dv<0
 .have g3:decide (dv<0)=true:=zL h3;rw[zE h3]at aa;subst aa;refine T ?_;refine X (Ad [] E F345 q1 E W E V) ?_;refine C q2 F96 ?_;exact Ak 4 (Dc emptyN) E vL gA
 have g3:decide (dv<0)=false:=zK h3;rw[zD h3]at aa;by_cases h4:0<=pt
 .have g4:decide (pt>=0)=true:=zL h4;rw[zE h4]at aa;subst aa;refine T ?_;refine X (Ad [] E F345 q1 E W E V) ?_;refine gK q2 F96 q3 F95 ?_;exact Ak 4 (Dc emptyN) E vL gA
 have g4:decide (pt>=0)=false:=zK h4;rw[zD h4]at aa;by_cases h5:n.ports.length=40
 .have g5:((n.ports.length:Int)==40)=true:=by rw[yJ];omega
  rw[zE h5]at aa;subst aa;refine T ?_;refine X (Ad [] E F345 q1 E W E V) ?_;refine gK q2 F96 q3 F95 ?_;exact Ak 4 (Dc emptyN) E vL gA
 have g5:((n.ports.length:Int)==40)=false:=by rw[zU];omega
 rw[zD h5]at aa;have z7:(C2 dv n.domains l.vlan).length<=49:=by unfold C2;split<;>(try simp)<;>omega
 have og:∀j,(Bm dv (C2 dv n.domains l.vlan) (l.tagged.take j)).length<=200000:=λj=>by
  have h1:=eC dv (l.tagged.take j) (C2 dv n.domains l.vlan);rw[zY]at h1;omega
 by_cases hc:0<l.vlan/\n.domains.any (λd=>d.dev==dv&&d.vlan==l.vlan)=false
 .have q6:=My ({n with ports:=n.ports++[(⟨l.row,dv,l.vlan,l.cost,-1,l.port,l.tagged⟩:Port)]}:Net) (by show n.domains.length<_;omega) dv l.vlan hc;obtain ⟨d1,mr⟩:=kE (C2 dv n.domains l.vlan);have ln:=og;rw[mr]at ln;have hde:=mr.symm.trans (aM hc);rw[<-hde]at q6;clear og hde hc z7;refine T ?_;refine X (Ad [] E F345 q1 E W E V) ?_;refine gK q2 F96 q3 F95 ?_;refine C q5 F170 ?_;refine Xd (Ah Γ.toTy 66 E E E E E (.row E) (.lit (e:=Bb) (l:=[(⟨l.row,dv,l.vlan,l.cost,-1,l.port,l.tagged⟩:Port)]) E E) j_ (by simp only[zW];omega) (by simp only[zW];omega)) ?_;refine T ?_;refine X (Av [(902,66),(1904,1101)] (Aw E E F348) q6 E W E V) ?_;refine T ?_;refine Cd (λj:Nat=>j<=l.tagged.length) (λj=>[(4,.ptr 1001 0),(6,.ptr 900 0),(8,Aa dv),(9,.clo (.func 348) [] []),(77,.sl 1 Aa l.tagged),(78,Aa l.tagged.length),(79,Aa j)]) (λj=>[(1001,.box [svN,svN,svN,svN,svN,svN,svN,svN]),(900,.box [.osl 901,.osl 1002,.osl 903,.osl 1004,.osl 905,.osl 906,.osl 907,.osl 908]),(901,.row 5 A1 n.devices),(1002,.row 7 Bb (n.ports++[(⟨l.row,dv,l.vlan,l.cost,-1,l.port,l.tagged⟩:Port)])),(903,.row 3 Ck n.links),(1004,.row 6 At (Bm dv d1 (l.tagged.take j))),(905,.row 4 Bc n.statics),(906,.row 4 Bn n.floods),(907,.row 5 Ct n.vrfs),(908,.row 5 Cq n.irbs)]) (λj=>l.tagged.length-j) 0 [(1001,4),(1002,66),(1004,1101)] q_ U ?_;intro j hj;have hlen:=ln j;refine gN ?_ ?_<;>intro h
  .have ab:j<l.tagged.length:=qA h;have an:(j:Int).toNat<l.tagged.length:=ab;clear h;have gm:Bm dv d1 (l.tagged.take (j+1))=C2 dv (Bm dv d1 (l.tagged.take j)) (l.tagged[(j:Int).toNat]'an):=by
    rw[yD ab,eB];rfl
   by_cases hc:0<(l.tagged[(j:Int).toNat]'an)/\(Bm dv d1 (l.tagged.take j)).any (λd=>d.dev==dv&&d.vlan==(l.tagged[(j:Int).toNat]'an))=false
   .have q:=My ({n with ports:=n.ports++[(⟨l.row,dv,l.vlan,l.cost,-1,l.port,l.tagged⟩:Port)],domains:=Bm dv d1 (l.tagged.take j)}:Net) (by show (Bm dv d1 (l.tagged.take j)).length<_;omega) dv (l.tagged[(j:Int).toNat]'an) hc;rw[aM hc]at gm;refine T ?_;refine X (Av [(902,1002),(904,1004),(1904,1102)] (Aw E E F348) q E W E V) ?_;exact Ax (j+1) [(1004,1102)] ab q_ ⟨kA,⟨.inl E,E,.inl E,E,.inl E,E,.inl E,E,.inl E,E,.inl (zH (Ob.row 6 At) gm),E,.inl E,E,.inl E,E,.inl E,E,.inl E,E,Y⟩,E,E⟩
   .have q:=Qi ({n with ports:=n.ports++[(⟨l.row,dv,l.vlan,l.cost,-1,l.port,l.tagged⟩:Port)],domains:=Bm dv d1 (l.tagged.take j)}:Net) (by show (Bm dv d1 (l.tagged.take j)).length<_;omega) dv (l.tagged[(j:Int).toNat]'an) hc;rw[lG hc]at gm;refine T ?_;refine X (Av [(902,1002),(904,1004)] (Aw E E F348) q E W E V) ?_;exact Ax (j+1) [] ab q_ ⟨kA,⟨.inl E,E,.inl E,E,.inl E,E,.inl E,E,.inl E,E,.inl (zH (Ob.row 6 At) gm),E,.inl E,E,.inl E,E,.inl E,E,.inl E,E,Y⟩,E,E⟩
  .have cu:j=l.tagged.length:=qB h;clear h;rw[cu,yN];have lp:Bm dv n.domains (l.vlan::l.tagged)=Bm dv d1 l.tagged:=(show Bm dv n.domains (l.vlan::l.tagged)=Bm dv (C2 dv n.domains l.vlan) l.tagged from rfl).trans (by rw[mr]);rw[lp]at aa;by_cases h9:48<(Bm dv d1 l.tagged).length
   .have g9:decide (((Bm dv d1 l.tagged).length:Int)>48)=true:=zL q_;rw[zE h9]at aa;subst aa;refine T ?_;exact Ak 1001 (Dc emptyN) E vL gA
   .have g9:decide (((Bm dv d1 l.tagged).length:Int)>48)=false:=zK q_;rw[zD h9]at aa;subst aa;refine T ?_;exact Ai 901 E (Ai 1002 E (Ai 903 E (Ai 1004 E (Ai 905 E (Ai 906 E (Ai 907 E (Ai 908 E D)))))))
 .have q6:=Qi ({n with ports:=n.ports++[(⟨l.row,dv,l.vlan,l.cost,-1,l.port,l.tagged⟩:Port)]}:Net) (by show n.domains.length<_;omega) dv l.vlan hc;have mr:C2 dv n.domains l.vlan=n.domains:=lG hc;have ln:=og;rw[mr]at ln;clear og hc z7;refine T ?_;refine X (Ad [] E F345 q1 E W E V) ?_;refine gK q2 F96 q3 F95 ?_;refine C q5 F170 ?_;refine Xd (Ah Γ.toTy 66 E E E E E (.row E) (.lit (e:=Bb) (l:=[(⟨l.row,dv,l.vlan,l.cost,-1,l.port,l.tagged⟩:Port)]) E E) j_ (by simp only[zW];omega) (by simp only[zW];omega)) ?_;refine T ?_;refine X (Av [(902,66)] (Aw E E F348) q6 E W E V) ?_;refine T ?_;refine Cd (λj:Nat=>j<=l.tagged.length) (λj=>[(4,.ptr 1001 0),(6,.ptr 900 0),(8,Aa dv),(9,.clo (.func 348) [] []),(77,.sl 1 Aa l.tagged),(78,Aa l.tagged.length),(79,Aa j)]) (λj=>[(1001,.box [svN,svN,svN,svN,svN,svN,svN,svN]),(900,.box [.osl 901,.osl 1002,.osl 903,.osl 1004,.osl 905,.osl 906,.osl 907,.osl 908]),(901,.row 5 A1 n.devices),(1002,.row 7 Bb (n.ports++[(⟨l.row,dv,l.vlan,l.cost,-1,l.port,l.tagged⟩:Port)])),(903,.row 3 Ck n.links),(1004,.row 6 At (Bm dv n.domains (l.tagged.take j))),(905,.row 4 Bc n.statics),(906,.row 4 Bn n.floods),(907,.row 5 Ct n.vrfs),(908,.row 5 Cq n.irbs)]) (λj=>l.tagged.length-j) 0 [(1001,4),(1002,66),(1004,904)] q_ U ?_;intro j hj;have hlen:=ln j;refine gN ?_ ?_<;>intro h
  .have ab:j<l.tagged.length:=qA h;have an:(j:Int).toNat<l.tagged.length:=ab;clear h;have gm:Bm dv n.domains (l.tagged.take (j+1))=C2 dv (Bm dv n.domains (l.tagged.take j)) (l.tagged[(j:Int).toNat]'an):=by
    rw[yD ab,eB];rfl
   by_cases hc:0<(l.tagged[(j:Int).toNat]'an)/\(Bm dv n.domains (l.tagged.take j)).any (λd=>d.dev==dv&&d.vlan==(l.tagged[(j:Int).toNat]'an))=false
   .have q:=My ({n with ports:=n.ports++[(⟨l.row,dv,l.vlan,l.cost,-1,l.port,l.tagged⟩:Port)],domains:=Bm dv n.domains (l.tagged.take j)}:Net) (by show (Bm dv n.domains (l.tagged.take j)).length<_;omega) dv (l.tagged[(j:Int).toNat]'an) hc;rw[aM hc]at gm;refine T ?_;refine X (Av [(902,1002),(904,1004),(1904,1102)] (Aw E E F348) q E W E V) ?_;exact Ax (j+1) [(1004,1102)] ab q_ ⟨kA,⟨.inl E,E,.inl E,E,.inl E,E,.inl E,E,.inl E,E,.inl (zH (Ob.row 6 At) gm),E,.inl E,E,.inl E,E,.inl E,E,.inl E,E,Y⟩,E,E⟩
   .have q:=Qi ({n with ports:=n.ports++[(⟨l.row,dv,l.vlan,l.cost,-1,l.port,l.tagged⟩:Port)],domains:=Bm dv n.domains (l.tagged.take j)}:Net) (by show (Bm dv n.domains (l.tagged.take j)).length<_;omega) dv (l.tagged[(j:Int).toNat]'an) hc;rw[lG hc]at gm;refine T ?_;refine X (Av [(902,1002),(904,1004)] (Aw E E F348) q E W E V) ?_;exact Ax (j+1) [] ab q_ ⟨kA,⟨.inl E,E,.inl E,E,.inl E,E,.inl E,E,.inl E,E,.inl (zH (Ob.row 6 At) gm),E,.inl E,E,.inl E,E,.inl E,E,.inl E,E,Y⟩,E,E⟩
  .have cu:j=l.tagged.length:=qB h;clear h;rw[cu,yN];have lp:Bm dv n.domains (l.vlan::l.tagged)=Bm dv n.domains l.tagged:=(show Bm dv n.domains (l.vlan::l.tagged)=Bm dv (C2 dv n.domains l.vlan) l.tagged from rfl).trans (by rw[mr]);rw[lp]at aa;by_cases h9:48<(Bm dv n.domains l.tagged).length
   .have g9:decide (((Bm dv n.domains l.tagged).length:Int)>48)=true:=zL q_;rw[zE h9]at aa;subst aa;refine T ?_;exact Ak 1001 (Dc emptyN) E vL gA
   .have g9:decide (((Bm dv n.domains l.tagged).length:Int)>48)=false:=zK q_;rw[zD h9]at aa;subst aa;refine T ?_;exact Ai 901 E (Ai 1002 E (Ai 903 E (Ai 1004 E (Ai 905 E (Ai 906 E (Ai 907 E (Ai 908 E D)))))))
end Go.Sy.Zaa
