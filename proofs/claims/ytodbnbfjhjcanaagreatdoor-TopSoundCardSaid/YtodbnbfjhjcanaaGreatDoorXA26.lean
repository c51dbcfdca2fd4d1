/- Parts of a proof. -/
import Derived.Test.YtodbnbfjhjcanaaGreatDoorXA25
set_option maxHeartbeats 4000000
set_option linter.all false
namespace Go.Sy.Zaa
open Go.Proofs Go.Proofs.Tryz
attribute [local irreducible]G DR
set_option maxRecDepth 100000
def Aw8(n:Net)(hn:n.Fin)(l:LineM)(hl:LineW l):Sp 275 [Am n,A3 l] (.tup [Am (putPort n l).1,Aa (putPort n l).2]):=cT F275 ntmps275 λF hF=>by
 have aa:=putPort.eq_1 n l;generalize putPort n l=res at *;cases hf:fitsB n l 2 with
 |false=>
  have q1:=Xv n hn l hl 2 hf;rw[hf,zE rfl]at aa;subst aa;refine gC q1 F345 ?_;exact Ak 4 (C8 emptyN) E vL gA
 |true=>
 have q1:=eJ n hn l hl 2 hf;have hr:Ac n=true:=by
  unfold fitsB at hf;simp only[zG]at hf;exact hf.2.2
 rw[hf,zD qq]at aa;have q2:=I5 n hn hr l.dev;have q3:=Tp n hn hr (Cf n l.dev) l.port;have ab:=hl.fin.t;have q5:=Kk l.tagged z_;have im:n.ports.length<=40/\n.domains.length<=48:=⟨(Ak6 hr).2.1,(Ak6 hr).2.2.2.1⟩
 generalize M7 n (Cf n l.dev) l.port=pt at *;generalize Cf n l.dev=dv at *;by_cases h3:dv<0
 .have g3:decide (dv<0)=true:=zK h3;rw[zE h3]at aa;subst aa;refine T ?_;refine X (Ad [] E F345 q1 E W E V) ?_;refine C q2 F96 ?_;exact Ak 4 (C8 emptyN) E vL gA
 have g3:decide (dv<0)=false:=zL h3;rw[zD h3]at aa;by_cases h4:0<=pt
 .have g4:decide (pt>=0)=true:=zK h4;rw[zE h4]at aa;subst aa;refine T ?_;refine X (Ad [] E F345 q1 E W E V) ?_;refine gI q2 F96 q3 F95 ?_;exact Ak 4 (C8 emptyN) E vL gA
 have g4:decide (pt>=0)=false:=zL h4;rw[zD h4]at aa;by_cases h5:n.ports.length=40
 .have g5:((n.ports.length:Int)==40)=true:=by rw[yJ];omega
  rw[zE h5]at aa;subst aa;refine T ?_;refine X (Ad [] E F345 q1 E W E V) ?_;refine gI q2 F96 q3 F95 ?_;exact Ak 4 (C8 emptyN) E vL gA
 have g5:((n.ports.length:Int)==40)=false:=by rw[zT];omega
 rw[zD h5]at aa;have ym:(Cw dv n.domains l.vlan).length<=49:=by unfold Cw;split<;>(try simp)<;>omega
 have m5:∀j,(Bk dv (Cw dv n.domains l.vlan) (l.tagged.take j)).length<=200000:=λj=>by
  have h1:=bS dv (l.tagged.take j) (Cw dv n.domains l.vlan);rw[zW]at h1;omega
 by_cases hc:0<l.vlan/\n.domains.any (λd=>d.dev==dv&&d.vlan==l.vlan)=false
 .have q6:=Mb ({n with ports:=n.ports++[(⟨l.row,dv,l.vlan,l.cost,-1,l.port,l.tagged⟩:Port)]}:Net) (by show n.domains.length<_;omega) dv l.vlan hc;obtain ⟨d1,s9⟩:=kE (Cw dv n.domains l.vlan);have ku:=m5;rw[s9]at ku;have hde:=s9.symm.trans (Zb hc);rw[<-hde]at q6;clear m5 hde hc ym;refine T ?_;refine X (Ad [] E F345 q1 E W E V) ?_;refine gI q2 F96 q3 F95 ?_;refine C q5 F170 ?_;refine Xd (Ah Γ.toTy 66 E E E E E (.row E) (.lit (e:=Bd) (l:=[(⟨l.row,dv,l.vlan,l.cost,-1,l.port,l.tagged⟩:Port)]) E E) y_ (by simp only[yF];omega) (by simp only[yF];omega)) ?_;refine T ?_;refine X (Av [(902,66),(1904,1101)] (Aw E E F348) q6 E W E V) ?_;refine T ?_;refine Ci (λj:Nat=>j<=l.tagged.length) (λj=>[(4,.ptr 1001 0),(6,.ptr 900 0),(8,Aa dv),(9,.clo (.func 348) [] []),(77,.sl 1 Aa l.tagged),(78,Aa l.tagged.length),(79,Aa j)]) (λj=>[(1001,.box [svN,svN,svN,svN,svN,svN,svN,svN]),(900,.box [.osl 901,.osl 1002,.osl 903,.osl 1004,.osl 905,.osl 906,.osl 907,.osl 908]),(901,.row 5 A4 n.devices),(1002,.row 7 Bd (n.ports++[(⟨l.row,dv,l.vlan,l.cost,-1,l.port,l.tagged⟩:Port)])),(903,.row 3 Co n.links),(1004,.row 6 At (Bk dv d1 (l.tagged.take j))),(905,.row 4 Bb n.statics),(906,.row 4 Bm n.floods),(907,.row 5 Cu n.vrfs),(908,.row 5 Cr n.irbs)]) (λj=>l.tagged.length-j) 0 [(1001,4),(1002,66),(1004,1101)] z_ U ?_;intro j hj;have hlen:=ku j;refine gL ?_ ?_<;>intro h
  .have ab:j<l.tagged.length:=qA h;have aq:(j:Int).toNat<l.tagged.length:=ab;clear h;have il:Bk dv d1 (l.tagged.take (j+1))=Cw dv (Bk dv d1 (l.tagged.take j)) (l.tagged[(j:Int).toNat]'aq):=by
    rw[yA ab,bR];rfl
   by_cases hc:0<(l.tagged[(j:Int).toNat]'aq)/\(Bk dv d1 (l.tagged.take j)).any (λd=>d.dev==dv&&d.vlan==(l.tagged[(j:Int).toNat]'aq))=false
   .have q:=Mb ({n with ports:=n.ports++[(⟨l.row,dv,l.vlan,l.cost,-1,l.port,l.tagged⟩:Port)],domains:=Bk dv d1 (l.tagged.take j)}:Net) (by show (Bk dv d1 (l.tagged.take j)).length<_;omega) dv (l.tagged[(j:Int).toNat]'aq) hc;rw[Zb hc]at il;refine T ?_;refine X (Av [(902,1002),(904,1004),(1904,1102)] (Aw E E F348) q E W E V) ?_;exact Ay (j+1) [(1004,1102)] ab z_ ⟨kA,⟨.inl E,E,.inl E,E,.inl E,E,.inl E,E,.inl E,E,.inl (zH (Ob.row 6 At) il),E,.inl E,E,.inl E,E,.inl E,E,.inl E,E,q_⟩,E,E⟩
   .have q:=Ot ({n with ports:=n.ports++[(⟨l.row,dv,l.vlan,l.cost,-1,l.port,l.tagged⟩:Port)],domains:=Bk dv d1 (l.tagged.take j)}:Net) (by show (Bk dv d1 (l.tagged.take j)).length<_;omega) dv (l.tagged[(j:Int).toNat]'aq) hc;rw[dP hc]at il;refine T ?_;refine X (Av [(902,1002),(904,1004)] (Aw E E F348) q E W E V) ?_;exact Ay (j+1) [] ab z_ ⟨kA,⟨.inl E,E,.inl E,E,.inl E,E,.inl E,E,.inl E,E,.inl (zH (Ob.row 6 At) il),E,.inl E,E,.inl E,E,.inl E,E,.inl E,E,q_⟩,E,E⟩
  .have cq:j=l.tagged.length:=qB h;clear h;rw[cq,yM];have kv:Bk dv n.domains (l.vlan::l.tagged)=Bk dv d1 l.tagged:=(show Bk dv n.domains (l.vlan::l.tagged)=Bk dv (Cw dv n.domains l.vlan) l.tagged from rfl).trans (by rw[s9]);rw[kv]at aa;by_cases h9:48<(Bk dv d1 l.tagged).length
   .have g9:decide (((Bk dv d1 l.tagged).length:Int)>48)=true:=zK z_;rw[zE h9]at aa;subst aa;refine T ?_;exact Ak 1001 (C8 emptyN) E vL gA
   .have g9:decide (((Bk dv d1 l.tagged).length:Int)>48)=false:=zL z_;rw[zD h9]at aa;subst aa;refine T ?_;exact Aj 901 E (Aj 1002 E (Aj 903 E (Aj 1004 E (Aj 905 E (Aj 906 E (Aj 907 E (Aj 908 E D)))))))
 .have q6:=Ot ({n with ports:=n.ports++[(⟨l.row,dv,l.vlan,l.cost,-1,l.port,l.tagged⟩:Port)]}:Net) (by show n.domains.length<_;omega) dv l.vlan hc;have s9:Cw dv n.domains l.vlan=n.domains:=dP hc;have ku:=m5;rw[s9]at ku;clear m5 hc ym;refine T ?_;refine X (Ad [] E F345 q1 E W E V) ?_;refine gI q2 F96 q3 F95 ?_;refine C q5 F170 ?_;refine Xd (Ah Γ.toTy 66 E E E E E (.row E) (.lit (e:=Bd) (l:=[(⟨l.row,dv,l.vlan,l.cost,-1,l.port,l.tagged⟩:Port)]) E E) y_ (by simp only[yF];omega) (by simp only[yF];omega)) ?_;refine T ?_;refine X (Av [(902,66)] (Aw E E F348) q6 E W E V) ?_;refine T ?_;refine Ci (λj:Nat=>j<=l.tagged.length) (λj=>[(4,.ptr 1001 0),(6,.ptr 900 0),(8,Aa dv),(9,.clo (.func 348) [] []),(77,.sl 1 Aa l.tagged),(78,Aa l.tagged.length),(79,Aa j)]) (λj=>[(1001,.box [svN,svN,svN,svN,svN,svN,svN,svN]),(900,.box [.osl 901,.osl 1002,.osl 903,.osl 1004,.osl 905,.osl 906,.osl 907,.osl 908]),(901,.row 5 A4 n.devices),(1002,.row 7 Bd (n.ports++[(⟨l.row,dv,l.vlan,l.cost,-1,l.port,l.tagged⟩:Port)])),(903,.row 3 Co n.links),(1004,.row 6 At (Bk dv n.domains (l.tagged.take j))),(905,.row 4 Bb n.statics),(906,.row 4 Bm n.floods),(907,.row 5 Cu n.vrfs),(908,.row 5 Cr n.irbs)]) (λj=>l.tagged.length-j) 0 [(1001,4),(1002,66),(1004,904)] z_ U ?_;intro j hj;have hlen:=ku j;refine gL ?_ ?_<;>intro h
  .have ab:j<l.tagged.length:=qA h;have aq:(j:Int).toNat<l.tagged.length:=ab;clear h;have il:Bk dv n.domains (l.tagged.take (j+1))=Cw dv (Bk dv n.domains (l.tagged.take j)) (l.tagged[(j:Int).toNat]'aq):=by
    rw[yA ab,bR];rfl
   by_cases hc:0<(l.tagged[(j:Int).toNat]'aq)/\(Bk dv n.domains (l.tagged.take j)).any (λd=>d.dev==dv&&d.vlan==(l.tagged[(j:Int).toNat]'aq))=false
   .have q:=Mb ({n with ports:=n.ports++[(⟨l.row,dv,l.vlan,l.cost,-1,l.port,l.tagged⟩:Port)],domains:=Bk dv n.domains (l.tagged.take j)}:Net) (by show (Bk dv n.domains (l.tagged.take j)).length<_;omega) dv (l.tagged[(j:Int).toNat]'aq) hc;rw[Zb hc]at il;refine T ?_;refine X (Av [(902,1002),(904,1004),(1904,1102)] (Aw E E F348) q E W E V) ?_;exact Ay (j+1) [(1004,1102)] ab z_ ⟨kA,⟨.inl E,E,.inl E,E,.inl E,E,.inl E,E,.inl E,E,.inl (zH (Ob.row 6 At) il),E,.inl E,E,.inl E,E,.inl E,E,.inl E,E,q_⟩,E,E⟩
   .have q:=Ot ({n with ports:=n.ports++[(⟨l.row,dv,l.vlan,l.cost,-1,l.port,l.tagged⟩:Port)],domains:=Bk dv n.domains (l.tagged.take j)}:Net) (by show (Bk dv n.domains (l.tagged.take j)).length<_;omega) dv (l.tagged[(j:Int).toNat]'aq) hc;rw[dP hc]at il;refine T ?_;refine X (Av [(902,1002),(904,1004)] (Aw E E F348) q E W E V) ?_;exact Ay (j+1) [] ab z_ ⟨kA,⟨.inl E,E,.inl E,E,.inl E,E,.inl E,E,.inl E,E,.inl (zH (Ob.row 6 At) il),E,.inl E,E,.inl E,E,.inl E,E,.inl E,E,q_⟩,E,E⟩
  .have cq:j=l.tagged.length:=qB h;clear h;rw[cq,yM];have kv:Bk dv n.domains (l.vlan::l.tagged)=Bk dv n.domains l.tagged:=(show Bk dv n.domains (l.vlan::l.tagged)=Bk dv (Cw dv n.domains l.vlan) l.tagged from rfl).trans (by rw[s9]);rw[kv]at aa;by_cases h9:48<(Bk dv n.domains l.tagged).length
   .have g9:decide (((Bk dv n.domains l.tagged).length:Int)>48)=true:=zK z_;rw[zE h9]at aa;subst aa;refine T ?_;exact Ak 1001 (C8 emptyN) E vL gA
   .have g9:decide (((Bk dv n.domains l.tagged).length:Int)>48)=false:=zL z_;rw[zD h9]at aa;subst aa;refine T ?_;exact Aj 901 E (Aj 1002 E (Aj 903 E (Aj 1004 E (Aj 905 E (Aj 906 E (Aj 907 E (Aj 908 E D)))))))
end Go.Sy.Zaa
