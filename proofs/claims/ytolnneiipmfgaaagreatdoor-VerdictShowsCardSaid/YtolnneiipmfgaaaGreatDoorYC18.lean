/- Parts of a proof. -/
import Derived.Test.YtolnneiipmfgaaaGreatDoorYC17
set_option linter.all false
set_option linter.unusedVariables false
set_option linter.unusedSimpArgs false
set_option linter.deprecated false
namespace Go.Sy
def A4r{P:Program}{o:Oper}{s:SS}{x y:Operand}{at_:Array TypeId}{k k':IntKind}{m n:Int}(h:o.op=.call ⟨.builtin .max,#[x,y],at_⟩)(hx:ev s x=.val (.int k m))(hy:ev s y=.val (.int k' n)):Good P o s ⟨.val (.int k (if n>m then n else m)),[],[]⟩ :=
 Good.pure λκ a w _ hr ho=>by
  have h1:=hr x (by simp[h,Op.operands,Call.operands]);have h2:=hr y (by simp[h,Op.operands,Call.operands]);rw[hx]at h1;rw[hy]at h2;refine⟨.int k (if n>m then n else m),?_,by simp[Rd]⟩;simp[execOp,h,resolve,invoke,builtin,Builtin.max_,Builtin.max2,h1.val,h2.val]
end Go.Sy
namespace Go.Sy.YtolnneiipmfgaaaGreatDoor
open Go.Proofs Go.Proofs.Tryz
attribute [local irreducible] Go.Sy.G Go.Sy.DR
set_option maxRecDepth 100000
set_option maxHeartbeats 4000000
def Iz{f:List Int}(hf:Dy f){i:Int}(h0:0≤i)(hi:i.toNat<f.length):0≤nth f i∧nth f i≤i:=by
 rw[Af hi];have:=hf i.toNat hi;omega
def Ox{f:List Int}(hf:Dy f){i:Nat}(_hi:i<f.length){x:Int}(h0:0≤x)(hx:x≤i):Dy (f.set i x):=by
 intro k hk;rw[yP]at hk;rw[vH];split
 ·rename_i e;subst e;exact⟨h0,hx⟩
 ·exact hf k hk
def Ajj:∀(m k k':Nat) (f:List Int) (i:Int),Dy f→0≤i→i.toNat<f.length→i.toNat≤m→i.toNat+1≤k→i.toNat+1≤k'→Aoc k f i=Aoc k' f i
 |m,0,_,_,_,_,_,_,_,h,_=>by omega
 |m,_+1,0,_,_,_,_,_,_,_,h=>by omega
 |m,k+1,k'+1,f,i,hf,h0,hi,hm,h1,h2=>by
  rw[Aoc,Aoc];by_cases e:nth f i=i
  ·rw[zE e,zE e]
  ·rw[zD e,zD e];obtain ⟨a1,a2⟩:=Iz hf h0 hi;obtain ⟨b1,b2⟩:=Iz hf a1 (by omega:(nth f i).toNat<f.length)
   match m with
   |0=>omega
   |m+1=>
    exact Ajj m k k' _ _ (Ox hf hi b1 q_) b1 (by rw[yP];omega) q_ q_ q_
def Av4{f:List Int}{i:Int}(h:nth f i=i):L8 f i=(f,i):=by rw[L8,Aoc,zE h]
def Aob{f:List Int}{i:Int}(hf:Dy f)(h0:0≤i)(hi:i.toNat<f.length)(h:nth f i≠i):L8 f i=L8 (f.set i.toNat (nth f (nth f i))) (nth f (nth f i)):=by
 obtain ⟨a1,a2⟩:=Iz hf h0 hi;obtain ⟨b1,b2⟩:=Iz hf a1 (by omega:(nth f i).toNat<f.length);rw[L8,Aoc,zD h,L8];exact Ajj i.toNat _ _ _ _ (Ox hf hi b1 q_) b1 (by rw[yP];omega) q_ q_ q_
def Q1:∀(m:Nat) (f:List Int) (i:Int),Dy f→0≤i→i.toNat<f.length→i.toNat≤m→Dy (L8 f i).1∧(L8 f i).1.length=f.length∧0≤(L8 f i).2∧(L8 f i).2≤i
 |m,f,i,hf,h0,hi,hm=>by
  by_cases e:nth f i=i
  ·rw[Av4 e];exact⟨hf,rfl,h0,wB _⟩
  ·obtain ⟨a1,a2⟩:=Iz hf h0 hi;obtain ⟨b1,b2⟩:=Iz hf a1 (by omega:(nth f i).toNat<f.length);rw[Aob hf h0 hi e]
   match m with
   |0=>omega
   |m+1=>
    obtain ⟨c1,c2,c3,c4⟩:=Q1 m _ _ (Ox hf hi b1 q_) b1 (by rw[yP];omega:(nth f (nth f i)).toNat<(f.set i.toNat (nth f (nth f i))).length) q_;exact⟨c1,by rw[c2,yP],c3,by omega⟩
def Agu{f:List Int}{a b:Int}(hf:Dy f)(ha:0≤a∧a.toNat<f.length)(hb:0≤b∧b.toNat<f.length):Dy (X3 f a b).1∧(X3 f a b).1.length=f.length:=by
 obtain ⟨a1,a2,a3,a4⟩:=Q1 a.toNat f a hf ha.1 ha.2 (yD _);obtain ⟨b1,b2,b3,b4⟩:=Q1 b.toNat (L8 f a).1 b a1 hb.1 q_ (yD _);unfold X3;dsimp only;generalize L8 (L8 f a).1 b=y at *;generalize L8 f a=x at *;refine⟨Ox b1 q_ q_ q_,by rw[yP];omega⟩
def Ant(k:Nat):Dy (O6 k)∧(O6 k).length=k:=by
 refine⟨λi hi=>?_,by simp[O6]⟩;simp[O6]
def alJ(k j:Nat):List Int:=(List.range j).map (λi:Nat=>(i:Int))++List.replicate (k-j) 0
def A5q(k:Nat):alJ k 0=List.replicate k 0:=by simp[alJ]
def A7z(k j:Nat)(h:j≤k):(alJ k j).length=k:=by simp[alJ];omega
def A5r(k j:Nat)(h:j<k):(alJ k j).set (j:Int).toNat (j:Int)=alJ k (j+1):=by
 have hl:((List.range j).map (λi:Nat=>(i:Int))).length=j:=by simp
 rw[zZ,alJ,alJ,tV _ _ q_,hl,tS,show k-j=(k-(j+1))+1 by omega,tF,uR,vA,wZ,xD];rfl
def aloneS(k:Nat)(hk:k≤100000):Sq 239 [Aa k] [] (.osl 900) [(900,.row 1 Aa (O6 k))]:=cT F239 ntmps239 λF hF=>by
 have kr:alJ k k=O6 k:=by simp[alJ,O6]
 refine T ?_;refine X (B4 Γ.toTy (d:=6) (n:=k) Aa 0 E E E E E E E E q_ q_ E E E) ?_;refine T ?_;refine Cj (λj:Nat=>j≤k) (λj=>[(3,.osl 1000),(8,Aa k),(9,Aa j)]) (λj=>[(1000,.row 1 Aa (alJ k j))]) (λj=>k-j) 0 [(1000,6)] q_ ⟨⟨E,E,zH Aa (by rw[xS]),E,E,E,Y⟩,⟨.inl (zH (Ob.row 1 Aa) (A5q k)),E,Y⟩,E,E⟩ ?_;intro j hj;have hl:=A7z k j hj;refine T ?_;constructor<;>intro h
 ·have ab:j<k:=qA h;clear h;have af:alJ k j≠[]:=λe=>by rw[e]at hl;simp at hl;omega
  have gy:=A5r k j ab;refine T ?_;refine⟨(j:Int),E,E,?_⟩;refine T ?_;exact Ax (j+1) [] ab q_ ⟨⟨E,E,E,E,E,E,Y⟩,⟨.inl (zH (Ob.row 1 Aa) gy.symm),E,Y⟩,E,E⟩
 ·have cm:j=k:=qB h;clear h;subst cm;rw[kr];refine T ?_;exact done E (.cons .tmp .nil) [(900,1000)] [(900,.row 1 Aa (O6 j))] (λ_ h=>h) E E U
def Ayf(l:List Int)(h0:0<l.length)(hl:l.length<2147483648):Sp 241 [.sl 1 Aa l] (Aa (Apo l)):=cT F241 ntmps241 λF hF=>by
 have f0:decide ((l.length:Int)<1)=false:=zI q_;have hz:(0:Int).toNat<l.length:=h0;have br:Apo l=Aiv (l[(0:Int).toNat]'hz) (l.drop 1):=by rw[Apo,Af hz]
 refine T ?_;refine Cj (λx:Nat×Int=>1≤x.1∧x.1≤l.length∧Apo l=Aiv x.2 (l.drop x.1)) (λx=>[(0,.sl 1 Aa l),(3,Aa x.2),(4,Aa x.1)]) (λ_=>[]) (λx=>l.length-x.1) (1,l[(0:Int).toNat]'hz) [] ⟨by omega,by omega,br⟩ U ?_;rintro ⟨i,m⟩ ⟨h1,h2,hI⟩;dsimp only at h1 h2 hI⊢;refine T ?_;constructor<;>intro h
 ·have ab:i<l.length:=qA h;have aq:(i:Int).toNat<l.length:=ab;clear h;rw[yK ab,Aiv]at hI;refine T ?_;refine X (Aan E E E) ?_;exact Ax (i+1,min m l[i]) [] ⟨by dsimp only;omega,ab,hI⟩ (by dsimp only;omega) ⟨⟨E,E,zH Aa (by dsimp only;show min m l[i]=if l[i]<m then l[i] else m;omega),E,E,E,Y⟩,Y,E,E⟩
 ·have s4:i=l.length:=qB h;clear h;rw[s4,wQ,Aiv]at hI;rw[hI];exact gB
def topS(f:List Int)(i:Int)(hf:Dy f)(h0:0≤i)(hi:i.toNat<f.length)(hl:f.length≤100000):Sq 310 [.osl 900,Aa i] [(900,.row 1 Aa f)] (Aa (L8 f i).2) [(900,.row 1 Aa (L8 f i).1)]:=cT F310 ntmps310 λF hF=>by
 refine T ?_;refine Cj (λx:List Int×Int=>Dy x.1∧x.1.length=f.length∧0≤x.2∧x.2.toNat<f.length∧L8 f i=L8 x.1 x.2) (λx=>[(0,.osl 900),(1,Aa x.2)]) (λx=>[(900,.row 1 Aa x.1)]) (λx=>x.2.toNat) (f,i) [] ⟨hf,E,h0,hi,E⟩ U ?_;rintro ⟨g,k⟩ ⟨h1,h2,h3,h4,hI⟩;dsimp only at h1 h2 h3 h4 hI⊢;have bl:k.toNat<g.length:=by omega
 have hn:=Af bl;by_cases e:nth g k=k
 ·have hb:(g[k.toNat]==k)=true:=by rw[←hn];exact beq_iff_eq.mpr e
  have uf:(!(g[k.toNat]==k))=false:=by rw[hb];rfl
  rw[hI,Av4 e];refine T ?_;exact done E (.cons .tmp .nil) [(900,900)] [(900,.row 1 Aa g)] (λ_ h=>h) E E U
 ·obtain ⟨a1,a2⟩:=Iz h1 h3 bl;obtain ⟨b1,b2⟩:=Iz h1 a1 (by omega:(nth g k).toNat<g.length);have cw:(g[k.toNat]'bl).toNat<g.length:=by omega
  have wo:nth g (nth g k)=g[(g[k.toNat]'bl).toNat]'cw:=by rw[hn];exact Af cw
  have hs:=Aob h1 h3 bl e;have hb:(g[k.toNat]==k)=false:=by rw[←hn];exact beq_eq_false_iff_ne.mpr e
  have uf:(!(g[k.toNat]==k))=true:=by rw[hb];rfl
  refine T ?_;refine⟨nth g (nth g k),zH (λx=>cellsOf (Aa x)) wo,E,?_⟩;have cq:k.toNat<(g.set k.toNat (nth g (nth g k))).length:=by rw[yP];exact bl
  have hn2:(g.set k.toNat (nth g (nth g k)))[k.toNat]'cq=nth g (nth g k):=uT _;refine T ?_;refine Ax (g.set k.toNat (nth g (nth g k)),nth g (nth g k)) [] ⟨Ox h1 bl b1 q_,by dsimp only;rw[yP];exact h2,b1,by dsimp only;omega,by dsimp only;rw[hI,hs]⟩ (by dsimp only;omega) ⟨⟨E,E,zH Aa hn2.symm,E,Y⟩,⟨.inl E,E,Y⟩,E,E⟩
def A8f(f:List Int)(a b:Int)(hf:Dy f)(ha:0≤a∧a.toNat<f.length)(hb:0≤b∧b.toNat<f.length)(hl:f.length≤100000):Sq 242 [.osl 900,Aa a,Aa b] [(900,.row 1 Aa f)] (Ab (X3 f a b).2) [(900,.row 1 Aa (X3 f a b).1)]:=cT F242 ntmps242 λF hF=>by
 obtain ⟨a1,a2,a3,a4⟩:=Q1 a.toNat f a hf ha.1 ha.2 (yD _);obtain ⟨b1,b2,b3,b4⟩:=Q1 b.toNat (L8 f a).1 b a1 hb.1 q_ (yD _);have F1:=topS f a hf ha.1 ha.2 hl;have F2:=topS (L8 f a).1 b a1 hb.1 q_ q_;rw[X3];dsimp only;generalize hy:L8 (L8 f a).1 b=y at *;generalize hx:L8 f a=x at *;have hm:(if y.2>x.2 then y.2 else x.2).toNat<y.1.length:=by split<;>omega
 have ay:0≤(if y.2>x.2 then y.2 else x.2):=by split<;>omega
 have e1:(max x.2 y.2).toNat=(if y.2>x.2 then y.2 else x.2).toNat:=by rw[Int.max_def];split<;>split<;>omega
 have e2:(min x.2 y.2)=(if y.2<x.2 then y.2 else x.2):=by rw[Int.min_def];split<;>split<;>omega
 rw[e1,e2];refine T ?_;refine X (Ad [(900,900)] E F310 F1 E W E V) ?_;refine T ?_;refine X (Ad [(900,900)] E F310 F2 E W E V) ?_;refine T ?_;refine X (A4r E E E) ?_;refine T ?_;refine X (Aan E E E) ?_;refine T ?_;refine⟨_,E,E,?_⟩;refine T ?_;exact done E (.cons .tmp .nil) [(900,900)] [(900,.row 1 Aa (y.1.set (if y.2>x.2 then y.2 else x.2).toNat (if y.2<x.2 then y.2 else x.2)))] (λ_ h=>h) E E U
def Aaf{n:Net}{i:Nat}{v:Int}(h:(linkDomT n i v).2=true)(hi:i<n.ports.length):Cw n.ports[i] v=true:=by
 have e:nth n.ports ((i:Nat):Int)=n.ports[i]:=Af (l:=n.ports) (i:=((i:Nat):Int)) hi;unfold linkDomT at h;split at h
 ·rename_i h3;unfold crossT at h3;split at h3
  ·rename_i h4;rw[e]at h4;exact h4.2.1
  ·cases h3
 ·cases h
def X0{n:Net}(hr:Ac n=true){f:List Int}{i:Nat}(hi:i<n.ports.length){v:Int}(hf:Dy f)(hl:n.domains.length≤f.length):Dy (D9 n f i v)∧(D9 n f i v).length=f.length:=by
 unfold D9;split
 ·rename_i h;have h2:=Ly h;have hm:Cw n.ports[i] v=true:=Aaf h hi;have h3:=V7 hr hi hm;have e:nth n.ports ((i:Nat):Int)=n.ports[i]:=Af (l:=n.ports) (i:=((i:Nat):Int)) hi;rw[e];exact Agu hf ⟨h3.1,by omega⟩ ⟨h2.1,by omega⟩
 ·exact⟨hf,E⟩
def L4{α:Type}{g:List Int→α→List Int}{k:Nat}:∀{l:List α} {f:List Int},(∀a∈l,∀f,Dy f→k≤f.length→Dy (g f a)∧(g f a).length=f.length)→Dy f→k≤f.length→Dy (l.foldl g f)∧(l.foldl g f).length=f.length
 |[],_,_,h,_=>⟨h,rfl⟩
 |a::l,f,hg,h,hk=>by
  obtain ⟨h1,h2⟩:=hg a y_ f h hk;obtain ⟨h3,h4⟩:=L4 (l:=l) (λb hb=>hg b (by simp[hb])) h1 (by omega:k≤(g f a).length);exact⟨h3,by rw[vG,h4,h2]⟩
def Vr{n:Net}(hr:Ac n=true){f:List Int}{i:Nat}(hi:i<n.ports.length)(hf:Dy f)(hl:n.domains.length≤f.length):Dy (Jj n f i)∧(Jj n f i).length=f.length :=
 L4 (λ_ _ _ h1 h2=>X0 hr hi h1 h2) hf hl
def Amp{n:Net}(hr:Ac n=true){f:List Int}(hf:Dy f)(hl:n.domains.length≤f.length):Dy (Wv n f)∧(Wv n f).length=f.length :=
 L4 (λi hi _ h1 h2=>Vr hr (by simpa using hi) h1 h2) hf hl
def Ank(l:List Int)(hl:l.length<2147483648):Sq 111 [.sl 1 Aa l] [] (.osl 0) [(0,.row 1 Aa l)]:=cT F111 ntmps111 λF hF=>by
 refine fW ?_;refine Eh E (.inl E) E E E .sl E E ?_;intro b hb;cases b
 ·refine fU ?_;refine Ah (Ag Γ.toTy 7 E E E E E (.lit (e:=Aa) (l:=[]) E E) .sl y_ (by simp;omega) (by simp;omega)) E E ?_;refine fU ?_;exact done E (.cons .tmp .nil) [(0,7)] [(0,.row 1 Aa l)] (λ_ h=>h) E E uU
 ·have h0:l=[]:=zX (hb rfl);subst h0;refine fU ?_;refine Ce 2 1000 1 Aa E E ?_;exact done E (.cons .tmp .nil) [(0,1000)] [(0,.row 1 Aa [])] (λ_ h=>h) E E uU
def A67(n:Net)(f:List Int)(hn:n.Fin)(hr:Ac n=true)(hf:Dy f)(hl:n.domains.length≤f.length)(js:f.length≤100000):Sq 240 [Ao n,.osl 900] [(900,.row 1 Aa f)] (.tup []) [(900,.row 1 Aa (Wv n f))]:=cT F240 ntmps240 λF hF=>by
 have hp:n.ports.length<2147483648:=hn.ports;refine T ?_;refine Ba 2 8 (Ao n) E E E ?_;refine T ?_;refine A8 n.ports.length (λj=>[(1,.osl 900),(2,.ref 8 (Ao n) 0),(11,.sl 7 A7 n.ports),(12,Aa n.ports.length),(13,Aa j)]) (λj=>[(900,.row 1 Aa ((List.range j).foldl (Jj n) f))]) [] U ?_;intro j hj;refine T ?_;constructor<;>intro h
 ·have ab:j<n.ports.length:=qA h;have ai:(j:Int).toNat<n.ports.length:=ab;clear h;have p8:n.ports[(j:Int).toNat].tagged.length<2147483648:=hn.tagged _ (zJ ai);have htag2:n.ports[j].tagged.length<2147483648:=p8;have hnp:nth n.ports ((j:Nat):Int)=n.ports[(j:Int).toNat]:=Af ai;obtain ⟨g1,g2⟩:Dy ((List.range j).foldl (Jj n) f)∧((List.range j).foldl (Jj n) f).length=f.length:=L4 (λi hi _ h1 h2=>Vr hr (by have:=xC.1 hi;omega) h1 h2) hf hl;refine T ?_;refine Xd (Ad [(0,60)] E F111 (Ank n.ports[(j:Int).toNat].tagged p8) E Y E ⟨.inr E,Y⟩) ?_;refine T ?_;refine Xd (Ag Γ.toTy 61 rfl rfl rfl rfl rfl (.row rfl) (.lit (e:=Aa) (l:=[n.ports[(j:Int).toNat].native]) rfl rfl) (by intro k hk;cases hk;decide) (by simp;omega) (by simp;omega)) ?_;refine T ?_;refine Ba 5 7 (A7 n.ports[(j:Int).toNat]) E E E ?_;have hlen:(n.ports[(j:Int).toNat].tagged++[n.ports[(j:Int).toNat].native]).length=n.ports[(j:Int).toNat].tagged.length+1:=by simp
  refine T ?_;obtain ⟨vl,ft⟩:∃vl,n.ports[(j:Int).toNat].tagged++[n.ports[(j:Int).toNat].native]=vl:=⟨_,rfl⟩
  have hvlen:vl.length<2147483649:=by rw[←ft,hlen];omega
  obtain ⟨fj,hfj⟩:∃fj,(List.range j).foldl (Jj n) f=fj:=⟨_,rfl⟩
  rw[hfj]at g1 g2;refine A8 vl.length (λi=>[(1,.osl 900),(2,.ref 8 (Ao n) 0),(4,Aa j),(5,.ref 7 (A7 n.ports[(j:Int).toNat]) 0),(11,.sl 7 A7 n.ports),(12,Aa n.ports.length),(13,Aa j),(24,.osl 1000),(25,Aa vl.length),(26,Aa i)])
   (λi=>[(900,.row 1 Aa ((vl.take i).foldl (λf v=>D9 n f j v) fj)),(1000,.row 1 Aa vl)]) [(1000,61)] ⟨⟨rfl,rfl,rfl,rfl,rfl,rfl,rfl,rfl,rfl,rfl,rfl,rfl,rfl,rfl,rfl,rfl,zH (λl:List Int=>Aa l.length) ft.symm,rfl,rfl,rfl,trivial⟩,⟨.inl (zH (Ob.row 1 Aa) hfj.symm),rfl,.inl (zH (Ob.row 1 Aa) ft.symm),rfl,trivial⟩,rfl,rfl⟩ ?_
  intro i hi;refine T ?_;constructor<;>intro h
  ·have hit:i<vl.length:=qA h;have dg:(i:Int).toNat<vl.length:=hit;clear h;obtain ⟨e1,e2⟩:Dy ((vl.take i).foldl (λf v=>D9 n f j v) fj)∧((vl.take i).foldl (λf v=>D9 n f j v) fj).length=fj.length:=L4 (λ_ _ _ h1 h2=>X0 hr ab h1 h2) g1 q_;have gy:(vl.take (i+1)).foldl (λf v=>D9 n f j v) fj=D9 n ((vl.take i).foldl (λf v=>D9 n f j v) fj) j (vl[(i:Int).toNat]'dg):=by
    rw[yC hit,xN];rfl
   have q:=Aad n hn j (vl[(i:Int).toNat]'dg);refine gD q F206 ?_;cases hb:(linkDomT n j (vl[(i:Int).toNat]'dg)).2
   ·have hz:D9 n ((vl.take i).foldl (λf v=>D9 n f j v) fj) j (vl[(i:Int).toNat]'dg)=(vl.take i).foldl (λf v=>D9 n f j v) fj:=by rw[D9,zD (by rw[hb];decide)]
    rw[hz]at gy;refine T ?_;exact Az [] q_ ⟨⟨E,E,E,E,E,E,E,E,E,E,E,E,E,E,E,E,E,E,E,E,Y⟩,⟨.inl (zH (Ob.row 1 Aa) gy),E,.inl E,E,Y⟩,E,E⟩
   ·have ar:=Ly hb;have hm:Cw (n.ports[(j:Int).toNat]'ai) (vl[(i:Int).toNat]'dg)=true:=Aaf hb ab;have m7:=V7 hr ab hm;have q2:=Lo n hn hr (n.ports[(j:Int).toNat]'ai).dev (vl[(i:Int).toNat]'dg);have hz:D9 n ((vl.take i).foldl (λf v=>D9 n f j v) fj) j (vl[(i:Int).toNat]'dg)=(X3 ((vl.take i).foldl (λf v=>D9 n f j v) fj) (C5 n (n.ports[(j:Int).toNat]'ai).dev (vl[(i:Int).toNat]'dg)) (linkDomT n j (vl[(i:Int).toNat]'dg)).1).1:=by rw[D9,zE hb,hnp]
    rw[hz]at gy;have q3:=A8f ((vl.take i).foldl (λf v=>D9 n f j v) fj) (C5 n (n.ports[(j:Int).toNat]'ai).dev (vl[(i:Int).toNat]'dg)) (linkDomT n j (vl[(i:Int).toNat]'dg)).1 e1 ⟨m7.1,yW m7.2 q_⟩ ⟨ar.1,by omega⟩ q_;refine gD q2 F141 ?_;refine T ?_;refine X (Ad [(900,900)] E F242 q3 E W E V) ?_;refine T ?_;exact Az [] q_ ⟨⟨E,E,E,E,E,E,E,E,E,E,E,E,E,E,E,E,E,E,E,E,Y⟩,⟨.inl (zH (Ob.row 1 Aa) gy),E,.inl E,E,Y⟩,E,E⟩
  ·have s4:i=vl.length:=qB h;clear h;subst s4;have gy:(List.range (j+1)).foldl (Jj n) f=(vl.take vl.length).foldl (λf v=>D9 n f j v) fj:=by
    rw[vA,xN,hfj,yN,←ft];show Jj n fj j=_;rw[Jj,hnp]
   refine T ?_;exact Az [] q_ ⟨⟨E,E,E,E,E,E,E,E,E,E,Y⟩,⟨.inl (zH (Ob.row 1 Aa) gy),E,Y⟩,E,E⟩
 ·have cm:j=n.ports.length:=qB h;clear h;subst cm;refine T ?_;exact A4 E .nil [(900,900)] [(900,.row 1 Aa (Wv n f))] (λ_ h=>h) E E U
def Aww:∀(l:List Int) (m:Int),Aiv m l=m∨Aiv m l∈l
 |[],_=>.inl rfl
 |x::l,m=>by
  rw[Aiv];rcases Aww l (min m x) with h|h
  ·rw[h,Int.min_def];split
   ·exact .inl E
   ·exact .inr y_
  ·exact .inr (by simp[h])
def A64{l:List Int}(h:l≠[]):Apo l∈l:=by
 match l,h with
 |x::l,_=>
  show Aiv (nth (x::l) 0) l∈x::l;rw[show nth (x::l) 0=x from rfl];rcases Aww l x with h|h
  ·rw[h];simp
  ·simp[h]
def loopS(n:Net)(hn:n.Fin):Sp 169 [Ao n] (.tup [Aa (loopT n).1,Ab (loopT n).2]):=cT F169 ntmps169 λF hF=>by
 have qn:=A0 n hn;have hT:=loopT.eq_1 n;generalize loopT n=res at *;cases hr:Ac n with
 |false=>
  rw[hr]at qn;rw[hr,zE rfl]at hT;subst hT;refine gD qn F20 ?_;exact gB
 |true=>
 rw[hr]at qn;rw[hr,zD y_]at hT;obtain ⟨_,_,_,hmany,_⟩:=Aky hr;obtain ⟨fa1,fa2⟩:=Ant (2*n.domains.length);have fl:=Amp hr fa1 q_;have q1:=aloneS (2*n.domains.length) q_;rw[show ((2*n.domains.length:Nat):Int)=2*(n.domains.length:Int) from by omega]at q1;have q2:=A67 n (O6 (2*n.domains.length)) hn hr fa1 q_ q_;refine gD qn F20 ?_;refine Ba 1 8 (Ao n) E E E ?_;refine T ?_;refine X (Ad [(900,700)] E F239 q1 E W E V) ?_;refine T ?_;refine X (Ad [(900,700)] E F240 q2 E W E V) ?_;refine T ?_;refine Cj (λx:Nat×List Int=>x.1≤n.domains.length∧Dy x.2∧x.2.length=2*n.domains.length∧res=Tn n x.2 x.1 (n.domains.drop x.1)) (λx=>[(1,.ref 8 (Ao n) 0),(4,Aa n.domains.length),(5,.osl 1000),(22,.sl 6 Aq n.domains),(23,Aa n.domains.length),(24,Aa x.1)])
  (λx=>[(1000,.row 1 Aa x.2)]) (λx=>n.domains.length-x.1) (0,Wv n (O6 (2*n.domains.length))) [(1000,700)] ⟨by omega,fl.1,by dsimp only;rw[fl.2,fa2],hT⟩ U ?_
 rintro ⟨i,f⟩ ⟨h1,h2,h3,hI⟩;dsimp only at h1 h2 h3 hI⊢;refine T ?_;constructor<;>intro h
 ·have ab:i<n.domains.length:=qA h;have dg:(i:Int).toNat<n.domains.length:=ab;clear h;rw[yK ab,Tn]at hI;have a7:n.domains[(i:Int).toNat].peers.length<2147483648:=hn.peers _ (zJ dg);refine T ?_;constructor<;>intro h
  ·have fm:n.domains[i].peers=[]:=zX (by have:=eq_of_beq h;have e:(n.domains[(i:Int).toNat]'dg).peers.length=n.domains[i].peers.length:=rfl;omega);clear h;rw[zE fm]at hI;refine T ?_;exact Ax (i+1,f) [] ⟨ab,h2,h3,hI⟩ (by dsimp only;omega) uU
  have fm:n.domains[i].peers≠[]:=λe=>by
   have e2:(n.domains[(i:Int).toNat]'dg).peers=[]:=e;rw[e2]at h;cases h
  clear h;rw[zD fm]at hI;dsimp only at hI;have hpm:=Avc hr ab (A64 fm);have qm:=Ayf (n.domains[(i:Int).toNat]'dg).peers (by have:=xV.2 fm;exact this) a7;obtain ⟨m,hm⟩:∃m,Apo (n.domains[(i:Int).toNat]'dg).peers=m:=⟨_,rfl⟩
  have oh:Apo n.domains[i].peers=m:=hm;have emin:min (i:Int) m=if m<(i:Int) then m else (i:Int):=by rw[Int.min_def];split<;>split<;>omega
  rw[hm]at qm;rw[oh]at hI hpm;rw[emin]at hI;have hmb:0≤(if m<(i:Int) then m else (i:Int))∧(if m<(i:Int) then m else (i:Int))<n.domains.length:=by split<;>omega
  have q3:=A8f f i ((n.domains.length:Int)+(if m<(i:Int) then m else (i:Int))) h2 ⟨by omega,by omega⟩ ⟨by omega,by omega⟩ q_;have q3f:=Agu h2 (⟨by omega,by omega⟩:0≤(i:Int)∧(i:Int).toNat<f.length) (⟨by omega,by omega⟩:0≤(n.domains.length:Int)+(if m<(i:Int) then m else (i:Int))∧((n.domains.length:Int)+(if m<(i:Int) then m else (i:Int))).toNat<f.length);have hb48:(n.domains.length:Int)+(if m<(i:Int) then m else (i:Int))<100:=by omega
  generalize (X3 f i ((n.domains.length:Int)+(if m<(i:Int) then m else (i:Int))))=r at *;obtain ⟨g,ok⟩:=r;dsimp only at hI q3f;refine gD qm F241 ?_;refine T ?_;refine X (Aan E E E) ?_;refine T ?_;refine X (Ad [(900,1000)] E F242 q3 E W E V) ?_;cases ok with
  |false=>
   rw[zE rfl]at hI;rw[hI];exact gB
  |true=>
   rw[zD j_]at hI;refine T ?_;exact Ax (i+1,g) [] ⟨ab,q3f.1,by dsimp only;omega,hI⟩ (by dsimp only;omega) uU
 ·have s4:i=n.domains.length:=qB h;clear h;rw[s4,wQ,Tn]at hI;rw[hI];exact gB
def Zp(dn lk:Int)(M:List LineM)(n:Net)(row e:Int):List SV:=[.val (.int .u32 dn),.val (.int .i32 lk),.val (.int .u32 0),.sl 17 A3 M]++Da n++[Aa row,Aa e]
def Ii(dn lk:Int)(M:List LineM)(x:Net×Int×Int):Obs:=[(0,.box (Zp dn lk M x.1 x.2.1 x.2.2))]
def A3r{n:Net}(h:(meshNT n).2.2=0):(meshNT n).2.1=0:=by
 unfold meshNT at h⊢;split
 ·rfl
 rename_i h1;rw[zD h1]at h;split at h
 ·cases h
 ·rename_i h2;split at h
  ·cases h
  ·rename_i h3;rw[zD h3]
def As1(M:List LineM)(hM:∀l∈M,LineW l)(hl:M.length<2147483648)(dn lk:Int):Sq 100 [.ptr 0 0] (Ii dn lk M (emptyN,0,0)) (.tup []) (Ii dn lk M (Dk M)):=cT F100 ntmps100 λF hF=>by
 refine T ?_;refine Cj (λx:Nat×Net=>x.1≤M.length∧x.2.Fin∧Ds x.2∧Dk M=B0 x.2 (M.drop x.1)) (λx=>[(0,.ptr 0 0),(9,.sl 17 A3 M),(10,Aa M.length),(11,Aa x.1)]) (λx=>Ii dn lk M (x.2,0,0)) (λx=>M.length-x.1) (0,emptyN) [] ⟨by omega,Kf,(λx hx=>by cases hx),rfl⟩ U ?_;rintro ⟨j,n⟩ ⟨hj,hn,ha,hI⟩;dsimp only at hj hn ha hI⊢;refine T ?_;constructor<;>intro h
 ·have ab:j<M.length:=qA h;have ai:(j:Int).toNat<M.length:=ab;clear h;have hw:=hM _ (zJ ai);have q:=A63 n hn ha _ hw;have hp:=Awm hn ha hw;rw[yK ab,B0]at hI;refine T ?_;refine cD q F167 ?_;refine T ?_;constructor<;>intro h
  ·have af:(putT n (M[(j:Int).toNat]'ai)).2≠0:=by intro e;rw[e]at h;cases h
   have he:=hp.none af;have hI2:Dk M=(emptyN,(M[(j:Int).toNat]'ai).row,(putT n (M[(j:Int).toNat]'ai)).2):=hI.trans (zE af);rw[hI2,←he];clear h;refine T ?_;exact done E .nil [] (Ii dn lk M ((putT n (M[(j:Int).toNat]'ai)).1,(M[(j:Int).toNat]'ai).row,(putT n (M[(j:Int).toNat]'ai)).2)) (λ_ h=>h) E E U
  ·have he:(putT n (M[(j:Int).toNat]'ai)).2=0:=by simpa using h
   have hI2:Dk M=B0 (putT n (M[(j:Int).toNat]'ai)).1 (M.drop (j+1)):=hI.trans (zD (λhh=>hh he));clear h;refine T ?_;exact Ax (j+1,(putT n (M[(j:Int).toNat]'ai)).1) [] ⟨ab,hp.fin,hp.addrs,hI2⟩ (by dsimp only;omega) ⟨⟨E,E,E,E,E,E,E,E,Y⟩,⟨.inl (zH (λe:Int=>Ob.box (Zp dn lk M (putT n (M[(j:Int).toNat]'ai)).1 0 e)) he.symm),E,Y⟩,E,E⟩
 ·have cm:j=M.length:=qB h;clear h;rw[cm,wQ,B0]at hI;rw[hI];have qm:=meshS n hn;have hf:=finishT.eq_1 n;refine gD qm F168 ?_;refine T ?_;constructor<;>intro h
  ·have af:(meshNT n).2.2≠0:=by intro e;rw[e]at h;cases h
   rw[zE af]at hf;rw[hf];clear h;refine T ?_;exact done E .nil [] (Ii dn lk M (meshNT n)) (λ_ h=>h) E E U
  have he:(meshNT n).2.2=0:=by simpa using h
  clear h;have gm:(meshNT n).2.1=0:=A3r he;rw[zD (by rw[he];decide)]at hf;have ql:=loopS (meshNT n).1 (Aj2 hn);refine gD ql F169 ?_;refine T ?_;constructor<;>intro h
  ·rw[zE h]at hf;rw[hf];clear h;refine T ?_;refine Al 0 (Zp dn lk M emptyN (loopT (meshNT n).1).1 38) E vL ?_;exact A4 E .nil [] (Ii dn lk M (emptyN,(loopT (meshNT n).1).1,38)) (λ_ h=>h) E E U
  ·rw[zD (by rw[h];decide)]at hf;rw[hf];clear h;refine T ?_;exact A4 E .nil [] (Ii dn lk M ((meshNT n).1,0,0)) (λ_ h=>h) E E ⟨Y,⟨.inl (zH (λa:Int×Int=>Ob.box (Zp dn lk M (meshNT n).1 a.1 a.2)) (Prod.ext gm.symm he.symm:((0:Int),(0:Int))=(meshNT n).2)),E,Y⟩,E,E⟩
def Awz(a:Addr)(x:Int)(w:World)(hc:w.cell? a=some (.int .u32 x)):(callFunc 222 #[.pointer (some a)]).run prog w=.ok (.value (.int .u32 x)) w :=
 run_call_load func222 z_ z_ z_ .u32 z_ hc
def Xu(w:World):(callFunc 350 #[]).run prog w=.ok (.value (.tuple #[])) w:=run_call_mark0 func350 z_ z_ z_ .disable z_ w
def Zz(w:World):(callFunc 352 #[]).run prog w=.ok (.value (.tuple #[])) w:=run_call_mark0 func352 z_ z_ z_ .enable z_ w
def Ain(a:Addr)(w:World):(callFunc 353 #[.pointer (some a)]).run prog w=.ok (.value (.tuple #[])) w:=run_call_marked func353 z_ z_ z_ .acquire z_ a w
def Aim(a:Addr)(w:World):(callFunc 355 #[.pointer (some a)]).run prog w=.ok (.value (.tuple #[])) w:=run_call_marked func355 z_ z_ z_ .releaseMerge z_ a w
def Aej(a:Addr)(x:Value)(u:FrameMode)(w:World)(hc:w.cell? a=some x)(hz:w.frozen? a=false):CallsD prog 225 #[.pointer (some a),.bool true] u w λe u' w'=>u'=u∧(e=.returned (.tuple #[])∧w'=w.drew.setCell a (.int .u32 1)):=by
 have fk:w.drew.cell? a=some x:=by go_simp
 have hz':w.drew.frozen? a=false:=by go_simp
 have br:=run_call_store (P:=prog) func291 z_ z_ z_ z_ (k:=.u32) (y:=1) fk hz'
 go_enter_d func225,ntmps225
 go_wp2
 go_region_calls
 all_goals (go_end0;exact⟨rfl,rfl⟩)
def Abo(a:Addr)(u:FrameMode)(w:World)(hc:w.cell? a=some (.int .i32 1))(hz:w.frozen? a=false):CallsD prog 224 #[.pointer (some a)] u w λe u' w'=>u'=u∧(e=.returned (.tuple #[])∧w'=w.setCell a (.int .i32 0)):=by
 have hd:=Xu;have he:=Zz;have hr:=Aim;have ni:=run_call_add (P:=prog) func356 z_ z_ z_ .i32 z_ (y:=-1) (s:=0) hc hz (by simp[go_sem];rfl);have ny:=run_convert_to_unsafe (P:=prog) (src:=477) (dst:=481) Tryz.underlying477 Tryz.underlying481 z_ hc
 go_enter_d func224,ntmps224
 go_wp2
 go_end0
 go_wp2
 go_end0
 exact⟨E,E⟩
def Aua(a:Addr)(w:World)(hc:w.cell? a=some (.int .i32 0))(hz:w.frozen? a=false):Calls prog 223 #[.pointer (some a)] w λe w'=>e=.returned (.tuple #[])∧w'=w.setCell a (.int .i32 1):=by
 have hd:=Xu;have he:=Zz;have ha:=Ain;have hcas:=run_call_cas_hit (P:=prog) func351 z_ z_ z_ .i32 z_ (y:=1) hc hz;have fk:(w.setCell a (.int .i32 1)).cell? a=some (.int .i32 1):=World.cell?_setCell_same w a _ hc;have ny:=run_convert_to_unsafe (P:=prog) (src:=477) (dst:=481) Tryz.underlying477 Tryz.underlying481 z_ fk
 go_enter func223,ntmps223
 go_wp2
 first|go_end0|(simp only[Exit.inBlock,Exit.then];refine bodyPost_ret (results_none rfl _ _ _) rfl ?_)|refine bodyPost_ret (results_none rfl _ _ _) rfl ?_
 go_wp2
 go_end0
 exact⟨E,E⟩
theorem Ctx.behindN{K:Nat→Prop}{κ κ2:Ka}{w w1 w2:World}(s:Step K κ w κ w1)(c:Ctx ⟨w1,κ,[]⟩ κ2 w2):Ctx ⟨w,κ,[]⟩ κ2 w2 where
 size:=wN s.size c.size
 os:=c.os.trans s.os
 tape:=c.tape.trans s.tape
 output:=c.output.trans s.output
 M:=c.M
 old:=λb hb h=>by
  refine(c.old b (yW hb s.size) h).trans ?_;by_cases hm:κ.M b
  ·exact s.mkeep b hm
  ·exact s.blk b hb (λ ho=>by
    rcases ho with ⟨k,hk⟩|ho
    ·exact h k hk
    ·exact hm ho)
 own:=λk b hk=>by
  rcases c.own k b hk with h|h
  ·exact .inl (wN s.size h)
  ·exact .inr h
 nam:=c.nam
def Avf{κ:Ka}{w:World}(hi:Inv κ w):Step (λ_=>False) κ w κ w.drew∧Inv κ w.drew:=by
 have g:=Grew.drew w;exact⟨⟨g.size,g.os,g.tape,g.output,E,λb _=>rfl,λb _ _=>rfl,λ_ _ _ _=>rfl,λ_ _=>rfl,λ_ h=>h.elim,λ_ h=>.inl h⟩,⟨hi.inj,hi.bnd,hi.apart,hi.mbnd⟩⟩
def Ayh(M:List LineM)(hM:∀l∈M,LineW l)(hl:M.length<2147483648):Sq 166 [.ptr 0 0,.clo (.func 100) [.ptr 0 0] []] (Ii 0 0 M (emptyN,0,0)) (.tup []) (Ii 1 0 M (Dk M)):=by
 intro κ w vs hi az jl ax;have o1:=ax (0,.box (Zp 0 0 M emptyN 0 0)) (by simp[Ii]);obtain ⟨b,e1,c1,c2,st1,inv1,vd⟩:=D6 (off:=1) (x:=.val (.int .i32 1)) (v:=.int .i32 1) hi o1 rfl (λ _ _=>by simp only[Rd]) rfl;simp only[RdL,Rd,e1]at jl;obtain ⟨v0,r0,rfl,rfl,v1,r1,rfl,⟨fs,cs,rfl,ss,nj⟩,rfl⟩:=jl;obtain ⟨p3,q3,rfl,rfl,rfl⟩:=ss;subst nj;have gn:=As1 M hM hl 0 1 κ (w.setCell ⟨b,1,none⟩ (.int .i32 1)) [.pointer (some ⟨b,0,none⟩)] inv1 az (by simp only[RdL,Rd,e1];exact⟨_,_,rfl,rfl,rfl⟩) (λ p hp=>by
  simp only[Ii,yH,xU,uH]at hp;rw[hp];exact vd)
 obtain ⟨u1,x7,i7⟩:=c1 0 (.val (.int .u32 0)) rfl;obtain ⟨u2,su,py⟩:=c1 1 (.val (.int .i32 0)) rfl;rw[i7.val]at x7;rw[py.val]at su;have f1:=c2 0 (show 0<14 by decide);have f2:=c2 1 (show 1<14 by decide);have hl:=Awz ⟨b,0,none⟩ 0 (w.setCell ⟨b,1,none⟩ (.int .i32 1)) ((World.cell?_setCell_other _ ⟨b,1,none⟩ ⟨b,0,none⟩ _ y_).trans x7);have hnot:∀(x:Bool) (w:World),(Op.unary .not (.bool x)).run prog w=.ok (.bool (!x)) w:=λ_ _=>rfl
 go_enter_defers func166,ntmps166
 go_wp2_with (first|(go_at_call 223;refine(Aua ⟨b,1,none⟩ _ (by assumption) (by assumption)).mono ?_;rintro e w' ⟨rfl,rfl⟩)|(go_at_call 100;refine gn.mono ?_;rintro e w' ⟨v,κ2,rfl,lh,kg,lj,sw⟩)|(go_at_call 165;go_in))
 have p1:=sw (0,.box (Zp 0 1 M (Dk M).1 (Dk M).2.1 (Dk M).2.2)) (by simp[Ii]);have k1:κ2 0=.blk b:=by
  obtain ⟨bb,_,_,_,q1,_⟩:=id p1;rcases lh.nam 0 (by rw[e1];intro h;cases h) with h|h
  ·rw[h];exact e1
  ·rw[h]at q1;cases q1
 obtain ⟨ba,a1,a2,a3,_,_,_⟩:=D6 (off:=0) (x:=.val (.int .u32 1)) (v:=.int .u32 1) kg p1 rfl (λ_ _=>by simp only[Rd]) rfl;rw[k1]at a1;cases a1;obtain ⟨x8,vf⟩:=Avf kg;have p2:=ObOK.step x8 (k:=0) (λh=>h) _ p1;obtain ⟨ba,a1,_,_,st3,vg,vh⟩:=D6 (off:=0) (x:=.val (.int .u32 1)) (v:=.int .u32 1) vf p2 rfl (λ_ _=>by simp only[Rd]) rfl;rw[k1]at a1;cases a1;have vh:ObOK κ2 (w'.drew.setCell ⟨b,0,none⟩ (.int .u32 1)) 0 (.box (Zp 1 1 M (Dk M).1 (Dk M).2.1 (Dk M).2.2)):=vh;obtain ⟨ba,a1,a4,a5,st4,pz,vi⟩:=D6 (off:=1) (x:=.val (.int .i32 0)) (v:=.int .i32 0) vg vh rfl (λ_ _=>by simp only[Rd]) rfl;rw[k1]at a1;cases a1;have vi:ObOK κ2 ((w'.drew.setCell ⟨b,0,none⟩ (.int .u32 1)).setCell ⟨b,1,none⟩ (.int .i32 0)) 0 (.box (Zp 1 0 M (Dk M).1 (Dk M).2.1 (Dk M).2.2)):=vi;obtain ⟨v1,t8,i7⟩:=a2 0 (.val (.int .u32 0)) rfl;rw[i7.val]at t8;obtain ⟨v2,lj,py⟩:=a4 1 (.val (.int .i32 1)) rfl;rw[py.val]at lj;refine leaves_cons (f:=225) (args:=#[.pointer (some ⟨b,0,none⟩),.bool true]) y_ (by simp[go_sem]) ?_;refine(Aej ⟨b,0,none⟩ (.int .u32 0) .returning _ t8 (a3 0 (show 0<14 by decide))).mono ?_;rintro e u' x9 ⟨rfl,rfl,rfl⟩;refine leaves_cons (f:=224) (args:=#[.pointer (some ⟨b,1,none⟩)]) (by simp[settle]) (by simp[go_sem]) ?_;refine(Abo ⟨b,1,none⟩ _ _ lj (a5 1 (show 1<14 by decide))).mono ?_;rintro e u' x9 ⟨rfl,rfl,rfl⟩;have br:Step (·=0) κ2 w' κ2 ((w'.drew.setCell ⟨b,0,none⟩ (.int .u32 1)).setCell ⟨b,1,none⟩ (.int .i32 0)):=(x8.weaken (λ_ h=>h.elim)).trans (st3.trans st4);refine⟨.tuple #[],by simp[results,Tryz.results166],.tuple #[],κ2,E,Ctx.behindN st1 (lh.step pz br),pz,⟨[],E,E⟩,λp hp=>?_⟩;simp only[Ii,yH,xU,uH]at hp;rw[hp];exact vi
def Ayi(M:List LineM)(dn lk:Int)(x:Net×Int×Int):Sq 165 [.ptr 0 0] (Ii dn lk M x) (Ab (dn != 0)) (Ii dn lk M x):=cT F165 ntmps165 λF hF=>by
 refine fW ?_;refine Ah (X6 Awz E E E E) E E ?_;refine fU ?_;exact done E (.cons .tmp .nil) [] (Ii dn lk M x) (λ_ h=>h) E E U
def A6j(M:List LineM)(hM:∀l∈M,LineW l)(hl:M.length<2147483648):Sq 99 [.ptr 0 0,.clo (.func 100) [.ptr 0 0] []] (Ii 0 0 M (emptyN,0,0)) (.tup []) (Ii 1 0 M (Dk M)):=cT F99 ntmps99 λF hF=>by
 have q1:Sq 165 [.ptr 0 0] (Ii 0 0 M (emptyN,0,0)) (Ab false) (Ii 0 0 M (emptyN,0,0)):=Ayi M 0 0 (emptyN,0,0);have q2:=Ayh M hM hl;refine fW ?_;refine X (Ad [] E F165 q1 E W E V) ?_;refine fU ?_;refine X (Ad [] E F166 q2 E W E V) ?_;refine fU ?_;exact A4 E .nil [] (Ii 1 0 M (Dk M)) (λ_ h=>h) E E U
def A2e(M:List LineM)(hM:∀l∈M,LineW l)(hl:M.length<2147483648):Sq 35 [.ptr 0 0] (Ii 0 0 M (emptyN,0,0)) (.tup [Ao (Dk M).1,Aa (Dk M).2.1,Aa (Dk M).2.2]) (Ii 1 0 M (Dk M)):=cT F35 ntmps35 λF hF=>by
 have q:=A6j M hM hl;refine T ?_;refine X (Ad [] E F99 q E W E V) ?_;refine T ?_;exact done E (.cons (.cell E E E E) (.cons .tmp (.cons .tmp .nil))) [] (Ii 1 0 M (Dk M)) (λ_ h=>h) E E U
def Azk(M:List LineM)(hM:∀l∈M,LineW l)(hl:M.length<2147483648):Sp 14 [.sl 17 A3 M] (.tup [Ao (Dk M).1,Aa (Dk M).2.1,Aa (Dk M).2.2]):=cT F14 ntmps14 λF hF=>by
 have q:=A2e M hM hl;refine T ?_;refine Al 8 (Zp 0 0 M emptyN 0 0) E vL ?_;refine X (Ad [(0,8)] E F35 q E W E V) ?_;exact gB
end Go.Sy.YtolnneiipmfgaaaGreatDoor
namespace Go.Sy.YtolnneiipmfgaaaGreatDoor
open Go.Proofs Go.Proofs.Tryz
set_option maxHeartbeats 4000000
structure LineR(l:LineM):Prop where
 right:Cq l=true
 ok:LineOK l
 vlan:0≤l.vlan∧l.vlan≤4094
 num:0≤l.num∧l.num≤16777215
 cost:0≤l.cost∧l.cost≤65535
 bits:0≤l.bits∧l.bits≤32
 tagged:Ev l.tagged 4094=true
 imports:Ev l.imports 65535=true
 exports:Ev l.exports 65535=true
 addrs:l.addrs.length≤16
 dev:l.dev.size≤12
 port:l.port.size≤12
 peer:l.peer.size≤12
 far:l.far.size≤12
 name:l.name.size≤12
def Dr{s:ByteArray}(h:A1 s=true):s.size≤12:=by
 simp only[A1,zG,zK]at h;exact h.2
def Agk(s:ByteArray):0≤(macR s).1:=by
 have hd:∀c,0≤digI c:=λc=>by
  unfold digI;split
  ·omega
  ·split<;>omega
 have:∀i,0≤Xh s i:=λi=>by
  induction i with
  |zero=>exact wB _
  |succ i ih=>
   have h1:=hd (Bu s (3*i));have h2:=hd (Bu s (3*i+1));rw[Xh];omega
 unfold macR;split
 ·exact this 6
 ·exact wB _
def Au9:(⟨#[]⟩:ByteArray).size=0:=rfl
def Aiq(s:ByteArray):(0≤(prefixR s).1.1∧(prefixR s).1.1<4294967296):=by
 unfold prefixR;split
 ·exact⟨wB _,by decide⟩
 ·exact⟨L7 _,Ub _⟩
def A1c{s:ByteArray}(h:(Ee s).2=true):(Ee s).1.length≤16∧∀x∈(Ee s).1,0≤x∧x<4294967296:=by
 have hp:=Aev h;obtain ⟨a,b,c,d⟩:=Sh D4 (C2 44 s) [] (Ee s).1 hp List.Pairwise.nil y_;refine⟨b,λx hx=>?_⟩;rcases d x hx with hh|⟨p,_,hh⟩
 ·cases hh
 ·have h1:=L7 p;have h2:=Ub p;rw[hh]at h1 h2;exact⟨h1,h2⟩
def Sf{s:ByteArray}{hi:Int}(h:(listR hi s).2=true):Ev (listR hi s).1 hi=true:=A66 (Aev h)
def Bs(hi:Int):Ev [] hi=true:=by simp[Ev,U5]
def zV:(0:Int)≤0∧(0:Int)≤4094:=by decide
def zN:(0:Int)≤0∧(0:Int)≤16777215:=by decide
def zC:(0:Int)≤0∧(0:Int)≤65535:=by decide
def zB:(0:Int)≤0∧(0:Int)≤32:=by decide
def zM:(0:Int)≤0∧(0:Int)<18446744073709551616:=by decide
def zA:(0:Int)≤0∧(0:Int)<4294967296:=by decide
def zS:(⟨#[]⟩:ByteArray).size≤12:=by decide
def Ar9{w:List ByteArray}{row:Int}(h:(Cp w row).2=0):LineR (Cp w row).1:=by
 obtain ⟨g1,g2⟩:=Ax9 h;rw[g1];clear g1 h;have ez:=Au9;have o1:∀{m:Int},0≤m→statB m=true→0≤m∧m<18446744073709551616:=λa b=>⟨a,by have:=Aih b;omega⟩
 unfold B9 at g2⊢;dsimp only at g2⊢;by_cases h1:kindL (wdT w 0)=1
 ·simp only[zE h1,yH,xU,uH,forall_eq_or_imp,forall_eq,xJ,wM,zG]at g2⊢;obtain ⟨b1,b2,b3,b4⟩:=g2;have c:=Ip b2;have n1:=Dr b1;exact⟨by simp[Cq,Bm,b1,b4,within_iff.2 c,Hv],⟨o1 (Agk _) b4,zA,by simp[lineZ]⟩,zV,⟨c.1,by have:=c.2;dsimp only;omega⟩,zC,zB,Bs _,Bs _,Bs _,by simp[lineZ],n1,zS,zS,zS,zS⟩
 by_cases h2:kindL (wdT w 0)=2
 ·simp only[zD h1,zE h2]at g2⊢;have b1:=g2 (!(A1 (wdT w 1)),20) y_;have b2:=g2 (!(A1 (wdT w 2)),20) y_;have b3:=g2 (!(numR (wdT w 3) 1 65535).2,21) y_;have b4:∀e∈(Em w).2.2,e.1=false:=λe he=>g2 e (by simp[he])
  have b5:=g2 (!(membersB (Em w).1 (Em w).2.1),21) y_;simp only[xJ,wM]at b1 b2 b3 b5;have c:=Ip b3;have hp:(0≤(Em w).1∧(Em w).1≤4094)∧Ev (Em w).2.1 4094=true:=by
   clear b5 g2;unfold Em at b4⊢;split
   ·rename_i e;rw[zE e]at b4;have:=b4 _ (yA.2 rfl);simp only[xJ,wM]at this;have:=Ip this;exact⟨⟨by have:=this.1;dsimp only[C3];omega,this.2⟩,Bs _⟩
   ·rename_i e;rw[zD e]at b4;split
    ·rename_i e2;rw[zE e2]at b4;split
     ·rename_i e3;rw[zE e3]at b4;have:=b4 _ (yA.2 rfl);simp only[xJ,wM]at this;exact⟨zV,Sf this⟩
     ·rename_i e3;rw[zD e3]at b4;have a1:=b4 _ (List.mem_cons_self);have a2:=b4 _ (List.mem_cons_of_mem _ (yA.2 rfl));simp only[xJ,wM]at a1 a2;have:=Ip a1;exact⟨⟨by have:=this.1;dsimp only[C3];omega,this.2⟩,Sf a2⟩
    ·exact⟨zV,Bs _⟩
  generalize Em w=q at *;obtain ⟨hv,ht⟩:=hp;exact⟨by simp[Cq,Bm,b1,b2,b5,ht,within_iff.2 c,within_iff.2 hv,Hv],⟨zM,zA,by simp[lineZ]⟩,hv,zN,⟨by have:=c.1;dsimp only;omega,c.2⟩,zB,ht,Bs _,Bs _,by simp[lineZ],Dr b1,Dr b2,zS,zS,zS⟩
 by_cases h3:kindL (wdT w 0)=3
 ·simp only[zD h1,zD h2,zE h3,yH,xU,uH,forall_eq_or_imp,forall_eq,xJ,wM,zG]at g2⊢;obtain ⟨b1,b2,b3,b4⟩:=g2;exact⟨by simp[Cq,Bm,b1,b2,b3,b4,Hv],⟨zM,zA,by simp[lineZ]⟩,zV,zN,zC,zB,Bs _,Bs _,Bs _,by simp[lineZ],Dr b1,Dr b2,Dr b3,Dr b4,zS⟩
 by_cases h4:kindL (wdT w 0)=4
 ·simp only[zD h1,zD h2,zD h3,zE h4,yH,xU,uH,forall_eq_or_imp,forall_eq,xJ,wM,zG]at g2⊢;obtain ⟨b1,b2,⟨b3,b4⟩,b5⟩:=g2;have c:=Ip b2;exact⟨by simp[Cq,Bm,b1,Ali b2 E,b4,b5,Hv],⟨o1 (Agk _) b4,zA,by simp[lineZ]⟩,⟨by have:=c.1;dsimp only[C3];omega,c.2⟩,zN,zC,zB,Bs _,Bs _,Bs _,by simp[lineZ],Dr b1,Dr b5,zS,zS,zS⟩
 by_cases h5:kindL (wdT w 0)=5
 ·simp only[zD h1,zD h2,zD h3,zD h4,zE h5,yH,xU,uH,forall_eq_or_imp,forall_eq,xJ,wM,zG,zK]at g2⊢;obtain ⟨b1,b2,b3⟩:=g2;exact⟨by simp[Cq,Bm,b1,b3,Hv],⟨zM,⟨L7 _,Ub _⟩,by simp[lineZ]⟩,zV,zN,zC,zB,Bs _,Bs _,Bs _,by simp[lineZ],Dr b1,zS,zS,zS,zS⟩
 by_cases h6:kindL (wdT w 0)=6
 ·simp only[zD h1,zD h2,zD h3,zD h4,zD h5,zE h6,yH,xU,uH,forall_eq_or_imp,forall_eq,xJ,wM,zG]at g2⊢;obtain ⟨b1,b2,b3⟩:=g2;have c:=Ip b2;have d:=Ip b3;exact⟨by simp[Cq,Bm,b1,Ali b2 E,A1m b3 E,Hv],⟨zM,zA,by simp[lineZ]⟩,⟨by have:=c.1;dsimp only[C3];omega,c.2⟩,⟨by have:=d.1;dsimp only[S3];omega,d.2⟩,zC,zB,Bs _,Bs _,Bs _,by simp[lineZ],Dr b1,zS,zS,zS,zS⟩
 by_cases h7:kindL (wdT w 0)=7
 ·simp only[zD h1,zD h2,zD h3,zD h4,zD h5,zD h6,zE h7,yH,xU,uH,forall_eq_or_imp,forall_eq,xJ,wM,zG,zK]at g2⊢;obtain ⟨b1,b2,b3,b4⟩:=g2;have d:=Ip b2;have e:=A1c b3;exact⟨by simp[Cq,Bm,b1,A1m b2 E,A5t (Aev b3) b4,Hv],⟨zM,zA,e.2⟩,zV,⟨by have:=d.1;dsimp only[S3];omega,d.2⟩,zC,zB,Bs _,Bs _,Bs _,e.1,Dr b1,zS,zS,zS,zS⟩
 by_cases h8:kindL (wdT w 0)=8
 ·simp only[zD h1,zD h2,zD h3,zD h4,zD h5,zD h6,zD h7,zE h8,yH,xU,uH,forall_eq_or_imp,forall_eq,xJ,wM,zG]at g2⊢;obtain ⟨b1,b2,b3,b4⟩:=g2;exact⟨by simp[Cq,Bm,b1,b2,Sf b3,Sf b4,Hv],⟨zM,zA,by simp[lineZ]⟩,zV,zN,zC,zB,Bs _,Sf b3,Sf b4,by simp[lineZ],Dr b1,zS,zS,zS,Dr b2⟩
 ·simp only[zD h1,zD h2,zD h3,zD h4,zD h5,zD h6,zD h7,zD h8,yH,xU,uH,forall_eq_or_imp,forall_eq,xJ,wM,zG]at g2⊢;obtain ⟨b1,b2,b3,b4,b5⟩:=g2;have c:=Ip b2;have hb:=Uy b5;exact⟨by simp[Cq,Bm,b1,b3,Ali b2 E,b5,Hv],⟨zM,Aiq _,by simp[lineZ]⟩,⟨by have:=c.1;dsimp only[C3];omega,c.2⟩,zN,zC,⟨by dsimp only;omega,by dsimp only;omega⟩,Bs _,Bs _,Bs _,by simp[lineZ],Dr b1,zS,zS,zS,Dr b3⟩
def Atd(l:LineM)(r:Int):Cq {l with row:=r}=Cq l:=by
 by_cases h1:l.kind=1
 ·simp[Cq,Bm,M7,h1]
 by_cases h2:l.kind=2
 ·simp[Cq,Bm,M7,h1,h2]
 by_cases h3:l.kind=3
 ·simp[Cq,Bm,M7,h1,h2,h3]
 by_cases h4:l.kind=4
 ·simp[Cq,Bm,M7,h1,h2,h3,h4]
 by_cases h5:l.kind=5
 ·simp[Cq,Bm,M7,h1,h2,h3,h4,h5]
 by_cases h6:l.kind=6
 ·simp[Cq,Bm,M7,h1,h2,h3,h4,h5,h6]
 by_cases h7:l.kind=7
 ·simp[Cq,Bm,M7,h1,h2,h3,h4,h5,h6,h7]
 by_cases h8:l.kind=8
 ·simp[Cq,Bm,M7,h1,h2,h3,h4,h5,h6,h7,h8]
 by_cases h9:l.kind=9
 ·simp[Cq,Bm,M7,h1,h2,h3,h4,h5,h6,h7,h8,h9]
 simp[Cq,Bm,M7,h1,h2,h3,h4,h5,h6,h7,h8,h9]
theorem LineR.row{l:LineM}(h:LineR l)(r:Int):LineR {l with row:=r} :=
 ⟨by rw[Atd];exact h.right,⟨h.ok.mac,h.ok.addr,h.ok.addrs⟩,h.vlan,h.num,h.cost,h.bits,h.tagged,h.imports,h.exports,h.addrs,h.dev,h.port,h.peer,h.far,h.name⟩
def S6:∀(rs:List ByteArray) (i:Nat) (out:List LineM),(∀x∈out,LineR x)→∀x∈(L9 i rs out).1,LineR x
 |[],_,_,h=>by rw[L9];exact h
 |r::rs,i,out,h=>by
  rw[L9];split
  ·intro x hx;cases hx
  ·split
   ·exact S6 rs (i+1) out h
   ·split
    ·intro x hx;cases hx
    ·rename_i h3;refine S6 rs (i+1) _ λx hx=>?_
     rcases yL.1 hx with hx|hx
     ·exact h x hx
     ·rw[yA.1 hx];exact Ar9 q_
def S5(b:List UInt8):∀x∈(textT b).1,LineR x:=by
 unfold textT;split
 ·intro x hx;cases hx
 ·exact S6 _ 0 [] y_
attribute [local irreducible] Go.Sy.G Go.Sy.DR
set_option maxRecDepth 100000
theorem LineR.w{l:LineM}(h:LineR l):LineW l where
 fin:=by
  have e:∀{l:List Int} {m:Int},Ev l m=true→m≤65535→l.length≤100000:=λ{l} {m} hl hm=>by
   rcases listOK_iff.1 hl with h|h
   ·rw[h];exact xQ _
   ·have:=(rising_iff.1 h).2.2.2;omega
  exact⟨e h.tagged j_,e h.imports j_,e h.exports j_,by have:=h.addrs;omega⟩
 ok:=h.ok
 dev:=by have:=h.dev;omega
 port:=by have:=h.port;omega
 peer:=by have:=h.peer;omega
 far:=by have:=h.far;omega
 name:=by have:=h.name;omega
def Ym:∀(rs:List ByteArray) (i:Nat) (out:List LineM),(L9 i rs out).1.length≤out.length+rs.length
 |[],_,out=>by rw[L9];simp
 |r::rs,i,out=>by
  rw[L9];split
  ·simp
  ·split
   ·have:=Ym rs (i+1) out;rw[yM];omega
   ·split
    ·simp
    ·have:=Ym rs (i+1) (out++[(Cp (wordsT r).1 ((i:Int)+1)).1]);rw[zQ,zW]at this;rw[yM];omega
def A10(b:List UInt8):(textT b).1.length≤400:=by
 have h:=(Qe b).1;unfold textT;split
 ·simp
 ·have:=Ym (rowsT b).1 0 [];rw[xF]at this;omega
def Apm(b:List UInt8)(hb:b.length≤1000000):Sp 6 [.sl 1 Ak b] (.tup [Ao (netTextT b).1,Aa (netTextT b).2.1,Aa (netTextT b).2.2]):=cT F6 ntmps6 λF hF=>by
 have q1:=Ax1 b hb;have q2:=Azk (textT b).1 (λx hx=>(S5 b x hx).w) (by have:=A10 b;omega);have aa:=netTextT.eq_1 b;generalize netTextT b=res at *;generalize textT b=t at *;refine gD q1 F13 ?_;refine T ?_;constructor<;>intro h
 ·have af:t.2.2≠0:=by intro e;rw[e]at h;cases h
  rw[zE af]at aa;subst aa;clear h;refine T ?_;refine Al 2 (Da emptyN) E vL ?_;exact D
 ·have he:t.2.2=0:=by simpa using h
  rw[zD (λhh=>hh he)]at aa;subst aa;clear h;refine gD q2 F14 ?_;exact D
end Go.Sy.YtolnneiipmfgaaaGreatDoor
