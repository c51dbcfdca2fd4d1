/- Parts of a proof. -/
import Derived.Test.YtodbnbfjhjcanaaGreatDoorXB28
set_option maxHeartbeats 4000000
set_option linter.all false
namespace Go.Sy.Zaa
open Go.Proofs Go.Proofs.Tryz
def A10{k:Type}(p:k->Bool)(f:k->k)(l:List k)(h:∀x,p (f x)=p x):Bs p (l.map f)=Bs p l:=by
 have e:(l.map f).findIdx? p=l.findIdx? p:=by
  rw[List.findIdx?_map];congr 1;funext x;exact h x
 rw[Bs,Bs,e]
def eH(n:Net)(a b:Int):Jr (Bz n) a b=Jr n a b:=A10 _ _ _ λ_=>rfl
def Aqg(n:Net)(d:Domain)(p:List Int):peersT (Bz n) {d with peers:=p}=peersT n d:=by
 rw[peersT,peersT];have e1:∀a b,Ej (Bz n) a b=Ej n a b:=λ_ _=>rfl
 have e2:∀a,C6 (Bz n) a=C6 n a:=λ_=>rfl
 simp only[eH,e1,e2];rfl
def Awn(n:Net):Bz (Bz n)=Bz n:=by
 have:(Bz n).domains.map (λd=>{d with peers:=peersT (Bz n) d})=(Bz n).domains:=by
  show (n.domains.map λd=>{d with peers:=peersT n d}).map (λd=>{d with peers:=peersT (Bz n) d})=n.domains.map λd=>{d with peers:=peersT n d}
  rw[List.map_map];refine tL λd _=>?_
  show ({d with peers:=peersT (Bz n) {d with peers:=peersT n d} }:Domain)={d with peers:=peersT n d};rw[Aqg]
 rw[Bz,this]
def Ass(n:Net)(f:Flood):agreesB (Bz n) f=agreesB n f:=by
 have e1:∀a b,Ej (Bz n) a b=Ej n a b:=λ_ _=>rfl
 have e2:∀a,C6 (Bz n) a=C6 n a:=λ_=>rfl
 have e3:∀a,agreeA (Bz n) f a=agreeA n f a:=λa=>by
  rw[agreeA,agreeA];simp only[eH,e1,e2];rfl
 have e4:agreeA (Bz n) f=agreeA n f:=funext e3;rw[agreesB,agreesB,eH,e4]
def Oh{n:Net}(h:(meshNT n).2.2=0):(meshNT n).1=Bz n/\(meshNT n).2.1=0/\Ac (Bz n)=true/\n.floods.find? (λf=>!(agreesB n f))=none:=by
 rw[meshNT]at h|-;split at h
 .simp at h
 rename_i h1;rw[zD h1];cases hf:n.floods.find? (λf=>!(agreesB n f)) with
 |some f=>rw[hf]at h;simp at h
 |none=>
  rw[hf]at h;dsimp only at h|-;split at h
  .simp at h
  rename_i h2;rw[zD h2];exact⟨E,E,kS h2,E⟩
def Aqw{n:Net}(h:(meshNT n).2.2=0):meshNT (Bz n)=(Bz n,0,0):=by
 obtain ⟨_,_,h3,h4⟩:=Oh h;have e:(Bz n).floods.find? (λf=>!(agreesB (Bz n) f))=none:=by
  show n.floods.find? (λf=>!(agreesB (Bz n) f))=none;simp only[Ass];exact h4
 rw[meshNT,zD (by rw[h3];simp),e];dsimp only;rw[Awn,zD (by rw[h3];simp)]
def Wi(n:Net):∀(l:List Domain) (f:List Int) (i:Nat),(Uj n f i l).2=false->(Uj n f i l).1=0
 |[],f,i,_=>rfl
 |d::l,f,i,h=>by
  rw[Uj]at h|-;split
  .rename_i h1;rw[zE h1]at h;exact Wi n l f _ h
  .rename_i h1;rw[zD h1]at h;dsimp only at h|-;split
   .rename_i h2;rw[zE h2]at h;cases h
   .rename_i h2;rw[zD h2]at h;exact Wi n l _ _ h
def Aqz{n:Net}(h:(loopT n).2=false):loopT n=(0,false):=by
 have h1:(loopT n).1=0:=by
  rw[loopT]at h|-;split
  .rfl
  .rename_i hb;rw[zD hb]at h;exact Wi n _ _ _ h
 rw[<-h,<-h1]
def nX:∀(l:List LineM) (n0:Net) (c:Int->Nat),NetR n0->Many n0 c->(Bv n0 l).2.2=0 ->
  (Bv n0 l).2.1=0/\Ac (Bv n0 l).1=true/\meshNT (Bv n0 l).1=((Bv n0 l).1,0,0)/\loopT (Bv n0 l).1=(0,false)/\Many (Bv n0 l).1 (λk=>c k+Ant l k)
 |[],n0,c,hr,hm,h=>by
  rw[Bv,finishT]at h|-;split at h
  .rename_i h1;exact yA h h1
  rename_i h1;rw[zD h1];split at h
  .simp at h
  rename_i h2;rw[zD h2];have h0:(meshNT n0).2.2=0:=by omega
  obtain ⟨e1,e2,e3,e4⟩:=Oh h0;dsimp only;rw[e1]at h2|-;refine⟨E,e3,Aqw h0,Aqz (kS h2),?_⟩;have:=Awt hm;exact⟨this.c1,this.c2,this.c3,this.c4,this.c7,this.c8,this.c9⟩
 |x::l,n0,c,hr,hm,h=>by
  rw[Bv]at h|-;split at h
  .rename_i h1;exact yA h h1
  rename_i h1;rw[zD h1];have h0:(putT n0 x).2=0:=by omega
  obtain ⟨a,b,d,e,f⟩:=nX l _ _ (Avz h0) (Az1 hm h0) h;refine⟨a,b,d,e,?_⟩;have hc:∀k,Ant (x::l) k=(if x.kind=k then 1 else 0)+Ant l k:=λk=>by
   rw[Ant,Ant,List.filter_cons];by_cases hk:x.kind=k
   .simp[hk];omega
   .simp[hk]
  refine⟨f.c1.trans ?_,f.c2.trans ?_,f.c3.trans ?_,f.c4.trans ?_,f.c7.trans ?_,f.c8.trans ?_,f.c9.trans ?_⟩<;>(rw[hc];omega)
def nY:∀(l:List LineM) (n0:Net),(Bv n0 l).2.2≠0->(Bv n0 l).1=emptyN
 |[],n0,h=>by
  rw[Bv,finishT]at h|-;split
  .rename_i h1;rw[meshNT]at h1|-;split
   .rfl
   rename_i h2;rw[zD h2]at h1;split
   .rfl
   .rename_i hf;rw[hf]at h1;dsimp only at h1;split
    .rfl
    .rename_i h3;rw[zD h3]at h1;exact yA E h1
  .rename_i h1;rw[zD h1]at h;split
   .rfl
   .rename_i h2;rw[zD h2]at h;exact yA E h
 |x::l,n0,h=>by
  rw[Bv]at h|-;split
  .rfl
  .rename_i h1;rw[zD h1]at h;exact nY l _ h
attribute [local irreducible]G DR
set_option maxRecDepth 100000
def A3t(n:Net)(hn:n.Fin)(l:LineM)(hl:LineW l):Sp 281 [Am n,A5 l] (.tup [Am (putVrf n l).1,Aa (putVrf n l).2]):=cT F281 ntmps281 λF hF=>by
 have aq:=@beg_ok n l 8;have aa:=putVrf.eq_1 n l;have q1:=Aas n hn l hl 8;have dh:=Ss n hn;generalize putVrf n l=res at *;generalize begT n l 8=b at *;obtain ⟨d,e⟩:=b;dsimp only at aa aq q1;by_cases h1:e≠0
 .have g1:(e != 0)=true:=by rw[xC];exact h1
  rw[zE h1]at aa;subst aa;refine gC q1 F354 ?_;exact Ak 4 (Dc emptyN) E vL gA
 have g1:(e != 0)=false:=by rw[bne_eq_false_iff_eq];omega
 rw[zD h1]at aa;obtain ⟨_,hr,i,hi,ab⟩:=aq q_;subst hi;clear aq;have an:(i:Int).toNat<n.devices.length:=ab;have fu:nth n.devices (i:Int)=n.devices[(i:Int).toNat]'an:=Ae an;clear fu;have qz:=hl.fin.i;have hle:=hl.fin.e;have q2:=Af2 n hn hr (i:Int) l.name;have q5:=Ku l.imports q_;have q6:=Ku l.exports q_;have jl:n.vrfs.length<2147483648:=hn.vrfs;generalize oM n (i:Int) l.name=v2 at *;by_cases h2:0<=v2
 .have g2:decide (v2>=0)=true:=zL h2;rw[zE h2]at aa;subst aa;refine gB q1 F354 q2 F355 ?_;exact Ak 4 (Dc emptyN) E vL gA
 have g2:decide (v2>=0)=false:=zK h2;rw[zD h2]at aa;by_cases h5:n.vrfs.length=16
 .have g5:((n.vrfs.length:Int)==16)=true:=by rw[yJ];omega
  rw[zE h5]at aa;subst aa;refine gB q1 F354 q2 F355 ?_;exact Ak 4 (Dc emptyN) E vL gA
 have g5:((n.vrfs.length:Int)==16)=false:=by rw[zU];omega
 rw[zD h5]at aa;subst aa;refine gB q1 F354 q2 F355 ?_;refine X (Ad [(0,901),(1,902),(2,903),(3,904),(4,905),(5,906),(6,907),(7,908)] E F102 dh E W E V) ?_;refine gK q5 F170 q6 F170 ?_;refine Xd (Ah Γ.toTy 51 E E E E E (.row E) (.lit (e:=Ct) (l:=[(⟨l.row,(i:Int),l.name,l.imports,l.exports⟩:Vrf)]) E E) j_ (by simp only[zW];omega) (by simp only[zW];omega)) ?_;refine T ?_;exact Ai 901 E (Ai 902 E (Ai 903 E (Ai 904 E (Ai 905 E (Ai 906 E (Ai 51 E (Ai 908 E D)))))))
end Go.Sy.Zaa
namespace Go.Sy
def Ae8{P:Program}(Γ:Ty P){o:Oper}{s:SS}(d q:Nat){r:Type}{e:r->SV}{l:List r}(z:r){sv:SV}{t:TypeId}{ti:TI}{et:TypeId}{sz eb:Nat}{ez:List Value}{x y:Operand}{k:Option Nat}(h:o.op=.call ⟨.builtin .append,#[x,y],#[t,t]⟩)(hd:s.h d=.fresh)(ht:Γ.get t=some ti)(hk:ti.k=.slice et sz eb ez)(p6:ez.length=sz)(hb:BaseT s sz e (ev s x) k l)(hy:ev s y=.osl q)(hq:s.h q=.lit sz [sv])(hv:∀(M:Nat->Prop) (w:World) (v:Value),RdD M w sv v->RdD M w (e z) v)(pc:∀j,k=some j->j≠d)(da:(l.length+1)*eb<=140737488355328)(s8:l.length+1<=9223372036854775807):Good P o s ⟨.osl d,[q],U4 k d (.row sz e (l++[z]))⟩:=by
 obtain ⟨f,hb,hf⟩:=hb.base;have hs:AppSrc s sz (ev s y) [q] 1 (Aex [sv]):=by
  rw[hy];exact AppSrc.lit (sz:=sz) hq
 refine nS Γ h hd ht hk p6 hb hs pc da s8 λa w hr=>?_
 rcases hr with ⟨_,h2⟩|⟨b,cap,cs,T,fr,e1,e2,e3,e4,e5,e6⟩
 .omega
 .refine .inr ⟨b,cap,cs,T,fr,kS e1,e2,e3,e4,kS e5,λi x hx=>?_⟩;obtain ⟨hi,rfl⟩:=hx;have j5:i<l.length+1:=kS hi;by_cases hl:i<l.length
  .have hx:rowF e l i ((l++[z])[i] |> e):=⟨hl,by rw[yZ hl]⟩
   obtain ⟨a1,a2⟩:=e6 i _ (.inl ⟨hl,hf i _ hx⟩);exact⟨kS a1,a2⟩
  .have tn:i=l.length:=by omega
   subst tn;obtain ⟨a1,u,hu,df⟩:=e6 l.length sv (.inr ⟨yE _,by rw[tX];rfl⟩);refine⟨by simp,u,?_,df⟩;have:=hv _ _ u hu;simpa using this
end Go.Sy
namespace Go.Sy.Zaa
open Go.Proofs Go.Proofs.Tryz
attribute [local irreducible]G DR
set_option maxRecDepth 100000
def dH(dev v:Int)(d:Domain):Sp 389 [At d,.ref 1 (Aa dev) 0,.ref 1 (Aa v) 0] (Ab (d.dev==dev&&d.vlan==v)):=cT F389 ntmps389 λF hF=>by
 cases h:(d.dev==dev)
 .exact gA
 .exact gA
abbrev A59(n:Net)(ds:List Domain):Obs:=[(900,.box [.osl 901,.osl 902,.osl 903,.osl 1904,.osl 905,.osl 906,.osl 907,.osl 908]),(901,.row 5 A1 n.devices),(902,.row 7 Bb n.ports),(903,.row 3 Ck n.links),(904,.non),(1904,.row 6 At ds),(905,.row 4 Bc n.statics),(906,.row 4 Bn n.floods),(907,.row 5 Ct n.vrfs),(908,.row 5 Cq n.irbs)]
def Qi(n:Net)(hl:n.domains.length<2147483648)(dev v:Int)(hc:¬(0<v/\n.domains.any (λd=>d.dev==dev&&d.vlan==v)=false)):Sq 348 [.ptr 900 0,Aa dev,Aa v] (Asd n) (.tup []) (Asd n):=cT F348 ntmps348 λF hF=>by
 have qc:=Mp n.domains (λd=>d.dev==dev&&d.vlan==v) 389 [] [.ref 1 (Aa dev) 0,.ref 1 (Aa v) 0] rfl (λd _=>⟨⟨_,_,F389⟩,dH dev v d⟩) hl;rw[I8]at qc;generalize n.domains.any (λd=>d.dev==dev&&d.vlan==v)=cl at *;by_cases h1:0<v
 .have g1:decide (v>0)=true:=zL h1;cases cl with
  |true=>
   refine T ?_;refine Bf 4 1 (Aa dev) E E E ?_;refine Bf 5 1 (Aa v) E E E (X (I9 [904] E F388 qc (.cons (.row E E) (.cons (.refl _) .nil)) E E) ?_);exact A6 E .nil [] (Asd n) (λ_ h=>h) E E U
  |false=>exact yA ⟨h1,rfl⟩ hc
 .have g1:decide (v>0)=false:=zK h1;refine T ?_;exact A6 E .nil [] (Asd n) (λ_ h=>h) E E U
def My(n:Net)(hl:n.domains.length<2147483648)(dev v:Int)(hc:0<v/\n.domains.any (λd=>d.dev==dev&&d.vlan==v)=false):Sq 348 [.ptr 900 0,Aa dev,Aa v] (Asd n) (.tup []) (A59 n (n.domains++[(⟨dev,v,0,-1,0,[]⟩:Domain)])):=cT F348 ntmps348 λF hF=>by
 have qc:=Mp n.domains (λd=>d.dev==dev&&d.vlan==v) 389 [] [.ref 1 (Aa dev) 0,.ref 1 (Aa v) 0] rfl (λd _=>⟨⟨_,_,F389⟩,dH dev v d⟩) hl;rw[I8,hc.2]at qc;have g1:decide (v>0)=true:=zL hc.1;refine T ?_;refine Bf 4 1 (Aa dev) E E E ?_;refine Bf 5 1 (Aa v) E E E (X (I9 [904] E F388 qc (.cons (.row E E) (.cons (.refl _) .nil)) E E) ?_);refine T ?_;refine Xd (Ae8 Γ.toTy 28 27 (⟨dev,v,0,-1,0,[]⟩:Domain) E E E E E (.row E) E E (λM w u hu=>Axx (⟨dev,v,0,-1,0,[]⟩:Domain) E hu) j_ q_ q_) ?_;refine T ?_;exact A6 E .nil [(1904,28)] (A59 n (n.domains++[(⟨dev,v,0,-1,0,[]⟩:Domain)])) (λ_ h=>h) E E U
def lG{dev v:Int}{ds:List Domain}(h:¬(0<v/\ds.any (λd=>d.dev==dev&&d.vlan==v)=false)):C2 dev ds v=ds:=by rw[C2,zD h]
def aM{dev v:Int}{ds:List Domain}(h:0<v/\ds.any (λd=>d.dev==dev&&d.vlan==v)=false):C2 dev ds v=ds++[(⟨dev,v,0,-1,0,[]⟩:Domain)]:=by rw[C2,zE h]
def eC(dev:Int):∀(l:List Int) (ds:List Domain),(Bm dev ds l).length<=ds.length+l.length
 |[],ds=>by simp[Bm]
 |v::l,ds=>by
  have ih:=eC dev l (C2 dev ds v);have h1:(C2 dev ds v).length<=ds.length+1:=by
   unfold C2;split<;>simp
  have e:Bm dev ds (v::l)=Bm dev (C2 dev ds v) l:=rfl;rw[e,yM];omega
def eB(dev:Int)(ds:List Domain)(l:List Int)(v:Int):Bm dev ds (l++[v])=C2 dev (Bm dev ds l) v:=by
 unfold Bm;rw[xP];rfl
end Go.Sy.Zaa
