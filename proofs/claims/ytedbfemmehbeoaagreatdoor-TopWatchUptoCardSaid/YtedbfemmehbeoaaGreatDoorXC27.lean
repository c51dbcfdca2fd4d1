/- Parts of a proof. -/
import Derived.Test.YtedbfemmehbeoaaGreatDoorXC26
set_option maxHeartbeats 4000000
set_option linter.all false
namespace Go.Sy.Zaa
open Go.Proofs Go.Proofs.Tryz
def Acm(n:Ai)(g:List (List Bc)):B4:=Ajg (Vg n) g g.length
def Jt(n:Ai)(of:List Int):Bool :=
 decide (of.length=n.g.length)&&Ac n&&(List.range of.length).all λi=>if (Af n.g (i:Int)).ah<0 then decide (0<=Af of (i:Int))&&decide (Af of (i:Int)<=9) else decide (Af of (i:Int)=-1)
def Kv(m:B4):Prop:=0<=m.af/\∀l∈m.ai,∀q∈l,1<=q.ad/\q.ad<=m.af
def oW{m:B4}(h:Kv m)(dom:Int):∀q∈Ec m dom,1<=q.ad/\q.ad<=m.af:=by
 intro q g;unfold Ec at g;by_cases i:dom.toNat<m.ai.length
 .exact h.2 _ (Y1 i) q g
 .rw[wZ j_]at g;cases g
def At5{m:B4}(h:Kv m)(dom:Int){l:List B0}(i:∀q∈l,1<=q.ad/\q.ad<=m.af):Kv (setQ m dom l):=by
 refine⟨h.1,λx g=>?_⟩;rcases Acj g with rfl|g
 .exact i
 .exact h.2 x g
def Aiz{m:B4}(h:Kv m)(dom at_:Int):Kv (C5 m dom at_).1/\(C5 m dom at_).1.af=m.af/\((C5 m dom at_).2.2=true->1<=(C5 m dom at_).2.1.ad/\(C5 m dom at_).2.1.ad<=m.af):=by
 have i:=oW h dom;unfold C5;split
 .exact⟨h,rfl,λh=>by cases h⟩
 .refine⟨At5 h dom λq hm=>?_,q_,λg=>?_⟩
  .unfold Tz at hm;split at hm
   .exact i q hm
   .exact i q (uQ hm)
  .dsimp only at g|-;unfold Tz at g|-;split at g
   .cases g
   .rename_i j;rw[zD j];exact i _ (Y1 j_)
def Ab8{m:B4}(h:Kv m)(dom:Int){q:B0}(i:1<=q.ad/\q.ad<=m.af)(e:Int):Kv (Sz m dom q e)/\(Sz m dom q e).af=m.af:=by
 unfold Sz;split
 .exact⟨h,q_⟩
 split
 .refine⟨At5 h dom λx g=>?_,q_⟩;unfold cN at g;split at g
  .exact oW h dom x g
  .rcases yJ.1 g with g|g
   .exact oW h dom x g
   .rw[zX.1 g];exact i
 .exact⟨h,q_⟩
def Bap{n:Ai}{m:B4}(h:Kv m)(o:My){org:Int}(g:1<=org/\org<=m.af):Kv (Ii n m o org).1/\(Ii n m o org).1.af=m.af:=by
 unfold Ii;split
 .exact⟨h,q_⟩
 split
 .exact Ab8 h _ g _
 split
 .exact Ab8 h _ g _
 split
 .exact Ab8 h _ g _
 .exact⟨h,q_⟩
def Anf{n:Ai}{org:Int}:∀(l:List My) {m:B4},Kv m->(1<=org/\org<=m.af)->Kv (goesL n m org l).1/\(goesL n m org l).1.af=m.af
 |[],m,h,_=>⟨h,rfl⟩
 |o::l,m,h,i=>by
  rw[goesL];have g:=Bap (n:=n) h o i;have j:=Anf (n:=n) (org:=org) l g.1 (by rw[g.2];exact i);exact⟨j.1,by rw[j.2,g.2]⟩
def A54{m:B4}(h:Kv m)(dom:Int)(r:List Bc×List My×Int):Kv (Xf m dom r)/\(Xf m dom r).af=m.af:=by
 unfold Xf;split
 .exact⟨h,q_⟩
 split
 .exact⟨h,q_⟩
 .exact⟨h,q_⟩
def Bao{n:Ai}{m:B4}(h:Kv m)(dom at_:Int):Kv (T5 n m dom at_).1/\(T5 n m dom at_).1.af=m.af:=by
 have g:=Aiz h dom at_;unfold T5;split
 .exact⟨g.1,g.2.1⟩
 .rename_i l;have i:=A54 g.1 dom (lZ n (C5 m dom at_).1 dom (C5 m dom at_).2.1);have o:=g.2.2 (kS l);have j:=Anf (n:=n) (org:=(C5 m dom at_).2.1.ad) (lZ n (C5 m dom at_).1 dom (C5 m dom at_).2.1).2.1 i.1 (by rw[i.2,g.2.1];exact o);exact⟨j.1,by rw[j.2,i.2,g.2.1]⟩
def Azv{n:Ai}{m:B4}(h:Kv m)(port:Int)(b:List UInt8)(hp:Am port n.g.length=true)(g:(Af n.g port).ah<0):Kv (M4 n m port b)/\(M4 n m port b).af=m.af+1:=by
 unfold M4;rw[zD (by rw[hp];simp;exact g)];have i:Kv ⟨m.up,m.al,m.ai,m.ay,m.af+1,m.ap⟩:=⟨by have:=h.1;dsimp only;omega,λl g q j=>by have:=h.2 l g q j;dsimp only;omega⟩
 exact Ab8 i _ ⟨by have:=h.1;dsimp only;omega,wB _⟩ _
def Ag6{n:Ai}{m:B4}(port:Int)(b:List UInt8)(hp:¬(Am port n.g.length=true/\(Af n.g port).ah<0)):M4 n m port b=m:=by
 unfold M4;rw[zE];by_cases h:Am port n.g.length=true
 .exact .inr (Int.not_lt.1 λx=>hp ⟨h,x⟩)
 .exact .inl (kS h)
def Te(n:Ai)(x:B7):Int:=if x.kind=1/\Am x.ac n.g.length=true/\(Af n.g x.ac).ah<0 then 1 else 0
def A3r{n:Ai}{m:B4}(h:Kv m)(x:B7):Kv (fS n m x).1/\(fS n m x).1.af=m.af+Te n x:=by
 unfold fS;by_cases i:x.kind=1
 .rw[zE i];unfold Te;by_cases g:Am x.ac n.g.length=true/\(Af n.g x.ac).ah<0
  .rw[zE ⟨i,g⟩];exact Azv h _ _ g.1 g.2
  .rw[zD (λh=>g h.2),Ag6 _ _ g];exact⟨h,by simp⟩
 rw[zD i];have j:Te n x=0:=by unfold Te;rw[zD (λh=>i h.1)]
 rw[j,Int.add_zero];split
 .exact Bao h _ _
 split
 .have:=Aiz h x.l x.az;exact⟨this.1,this.2.1⟩
 split
 .exact⟨h,q_⟩
 split
 .split
  .exact⟨h,q_⟩
  .exact⟨h,q_⟩
 .exact⟨h,q_⟩
def Vp{n:Ai}{of:List Int}(h:Jt n of=true):of.length=n.g.length/\Ac n=true/\∀p,Am p of.length=true->(if (Af n.g p).ah<0 then 0<=Af of p/\Af of p<=9 else Af of p=-1):=by
 unfold Jt at h;simp only[zG,zK,yX,xD]at h;refine⟨h.1.1,h.1.2,λp hp=>?_⟩;have hp:=Dy hp;have:=h.2 p.toNat j_;rw[show ((p.toNat:Nat):Int)=p by omega]at this;split at this
 .rename_i g;rw[zE g];simpa using this
 .rename_i g;rw[zD g];simpa using this
def Bax(n:Ai):Kv (Vg n):=by
 refine⟨by simp[Vg],λl i q g=>?_⟩;have:l=[]:=(List.mem_replicate.1 i).2;rw[this]at g;cases g
def Anm{m:B4}(h:Kv m)(g:List (List Bc)):∀j,Kv (Ajg m g j)/\(Ajg m g j).af=m.af
 |0=>⟨h,rfl⟩
 |j+1=>by
  have i:=Anm h g j;rw[Ajg];unfold Ajf;split
  .exact i
  .unfold Bbo;split
   .exact i
   .exact i
def Aa2(n:Ai)(k:Int)(x:Kt):Prop:=Am x.ac n.g.length=true/\(Af n.g x.ac).ah<0/\1<=x.ad/\x.ad<=k
def Bgi(n:Ai)(o:My):Prop:=o.kind=1->Am o.ac n.g.length=true/\(Af n.g o.ac).ah<0
theorem Aa2.mono{n:Ai}{k g:Int}{x:Kt}(h:Aa2 n k x)(i:k<=g):Aa2 n g x:=⟨h.1,h.2.1,h.2.2.1,by have:=h.2.2.2;omega⟩
def Bam(n:Ai)(dom:Int)(f:Bg)(p:Int):Bgi n (Ab7 n dom f p):=by
 intro h;unfold Ab7 Xh at h|-;by_cases g:(Hi n p dom f).2≠0
 .rw[zE g]at h;exact zW h (by dsimp only;decide)
 rw[zD g]at h|-;dsimp only at h|-;have i:(Af n.g p).ah<0:=by
  by_cases i:(Af n.g p).ah<0
  .exact i
  .rw[zD i]at h;exact zW h qq
 refine⟨?_,i⟩;unfold Hi at g;by_cases hp:Am p n.g.length=false\/Am dom n.c.length=false\/Ac n=false
 .rw[zE hp]at g;exact zW g qq
 .cases j:Am p n.g.length
  .exact zW (.inl j) hp
  .rfl
def Aru(n:Ai)(fw:List Bool)(t:List Bc)(dom:Int)(q:B0)(now:Int):∀o∈(Hz n fw t dom q now).2.1,Bgi n o:=by
 intro o g;unfold Hz at g;split at g
 .cases g
 split at g
 .split at g
  .cases g
  .rw[zX.1 g];intro h;exact zW h (by dsimp only;decide)
 .rcases yJ.1 g with h|h
  .obtain ⟨p,_,rfl⟩:=yT.1 h;exact Bam _ _ _ _
  .obtain ⟨p,_,rfl⟩:=yT.1 h;intro h;unfold Aeq Xh at h;split at h<;>exact zW h (by dsimp only;decide)
def A00{n:Ai}{m:B4}{o:My}{org k:Int}(i:Bgi n o)(l:1<=org)(p:org<=k):∀x∈(Ii n m o org).2,Aa2 n k x:=by
 intro x g;unfold Ii at g;split at g
 .rename_i j;rw[zX.1 g];exact⟨(i j).1,(i j).2,l,p⟩
 split at g
 .cases g
 split at g
 .cases g
 split at g<;>cases g
def Aj4{n:Ai}{org k:Int}(i:1<=org)(j:org<=k):∀(l:List My) {m:B4},(∀o∈l,Bgi n o)->∀x∈(goesL n m org l).2,Aa2 n k x
 |[],m,_,x,g=>by cases g
 |o::l,m,p,x,g=>by
  rw[goesL]at g;rcases yJ.1 g with h|h
  .exact A00 (p o qx) i j x h
  .exact Aj4 i j l (λo h=>p o (by simp[h])) x h
def Bcx{n:Ai}{m:B4}(h:Kv m)(x:B7):∀y∈(fS n m x).2,Aa2 n m.af y:=by
 intro y g;unfold fS at g;split at g
 .cases g
 split at g
 .unfold T5 at g;have j:=Aiz h x.l x.az;split at g
  .cases g
  .rename_i l;have i:=j.2.2 (kS l);exact Aj4 i.1 i.2 _ (Aru _ _ _ _ _ _) y g
 split at g
 .cases g
 split at g
 .cases g
 split at g
 .split at g<;>cases g
 .cases g
def Avh(n:Ai)(x:B7):0<=Te n x:=by unfold Te;split<;>decide
def A0t(n:Ai):List B7->Int
 |[]=>0
 |x::l=>Te n x+A0t n l
def Avi(n:Ai):∀l,0<=A0t n l
 |[]=>wB _
 |x::l=>by rw[A0t];have:=Avh n x;have:=Avi n l;omega
def Aeh{n:Ai}:∀(l:List B7) {m:B4},Kv m->∀y∈(Ja n m l).2,Aa2 n (m.af+A0t n l) y
 |[],m,h,y,g=>by cases g
 |x::l,m,h,y,g=>by
  have j:=A3r (n:=n) h x;rw[Ja]at g;rw[A0t];have o:=Avh n x;have p:=Avi n l;rcases yJ.1 g with i|i
  .exact(Bcx h x y i).mono j_
  .exact(Aeh l j.1 y i).mono (by rw[j.2];omega)
def Ajs(of:List Int)(x:B7):Bool:=decide (x.kind=1)&&(Am x.ac of.length&&decide (0<=Af of x.ac))
def Jc(of:List Int)(l:List B7):List Int:=(l.filter (Ajs of)).map (·.ac)
def Ait{n:Ai}{of:List Int}(p:Jt n of=true):∀l,((Jc of l).length:Int)=A0t n l
 |[]=>rfl
 |x::l=>by
  have j:=Vp p;have r:=Ait p l;have key:(if Ajs of x=true then 1 else 0)=Te n x:=by
   unfold Ajs Te;by_cases o:x.kind=1
   .cases hp:Am x.ac of.length
    .rw[j.1]at hp;simp[hp]
    .have g:=j.2.2 x.ac hp;rw[j.1]at hp;by_cases i:(Af n.g x.ac).ah<0
     .rw[zE i]at g;simp[o,hp,i,g.1]
     .rw[zD i]at g;simp[o,hp,i,g]
   .simp[o]
  rw[A0t,<-r,<-key];unfold Jc;by_cases h:Ajs of x=true
  .rw[tM h,zE h,xR,yI];omega
  .rw[List.filter_cons_of_neg h,zD h];omega
def A5v{of:List Int}{l:List B7}:∀p∈Jc of l,Am p of.length=true/\0<=Af of p:=by
 intro p hp;obtain ⟨x,g,rfl⟩:=yT.1 hp;have:=(List.mem_filter.1 g).2;unfold Ajs at this;simp only[zG,zK]at this;exact this.2
def Ae4(of g:List Int):List Kt->Int×Int×Bool
 |[]=>(0,0,false)
 |s::l=>if Af of (Af g (s.ad-1))≠Af of s.ac then (Af g (s.ad-1),s.ac,true) else Ae4 of g l
def Aje(n:Ai)(g:List (List Bc)):Kv (Acm n g)/\(Acm n g).af=0:=by
 have h:=Anm (Bax n) g g.length;exact⟨h.1,h.2⟩
def As5{n:Ai}{of:List Int}(i:Jt n of=true)(g:List (List Bc))(l:List B7):∀s∈(Ja n (Acm n g) l).2,
  Am s.ac of.length=true/\1<=s.ad/\s.ad<=(Jc of l).length:=by
 intro s o;have j:=Aje n g;have h:=Aeh (n:=n) l j.1 s o;rw[j.2,Int.zero_add,<-Ait i]at h;exact⟨by rw[(Vp i).1];exact h.1,h.2.2.1,h.2.2.2⟩
def A9x(x y:B7):Prop:=y.kind=x.kind/\y.ac=x.ac/\y.l=x.l/\y.bytes=x.bytes/\y.up.length=x.up.length
instance (x y:B7):Decidable (A9x x y):=by unfold A9x;infer_instance
def Bgt(l:List B7)(x:B7)(k:Nat):Prop:=∃h:k<l.length,A9x x l[k]/\0<=l[k].az/\l[k].az<=x.az
instance (l:List B7)(x:B7)(k:Nat):Decidable (Bgt l x k):=by unfold Bgt;infer_instance
attribute [local irreducible]G DR
set_option maxRecDepth 100000
def Aiy(n:Ai)(of:List Int)(i:Nat):Bool:=if (Af n.g (i:Int)).ah<0 then decide (0<=Af of (i:Int))&&decide (Af of (i:Int)<=9) else decide (Af of (i:Int)=-1)
def Azs(n:Ai)(of:List Int):Jt n of=(decide (of.length=n.g.length)&&Ac n&&(List.range of.length).all (Aiy n of)):=rfl
def A5n{k:Nat}{p:Nat->Bool}(h:∀i,i<k->p i=true):(List.range k).all p=true:=by
 rw[yX];intro i hi;exact h i (xD.1 hi)
def A5m{k j:Nat}{p:Nat->Bool}(g:j<k)(h:p j=false):(List.range k).all p=false:=by
 rw[Bool.eq_false_iff];intro i;have:=yX.1 i j (xD.2 g);rw[h]at this;cases this
def Aqe(n:Ai)(hn:n.Fin)(of:List Int):Sp 55 [Aq n,.sl 1 Aa of] (Ab (Jt n of)):=cT F55 ntmps55 λF hF=>by
 have o:=Azs n of;generalize Jt n of=P at *;have qr:=A7 n hn;have j7:=hn.g;unfold At at j7;generalize Ac n=nr at *;refine gP ?_ ?_<;>intro h
 .rw[zJ (show ¬of.length=n.g.length by simp at h;omega),yE,yE]at o;subst o;exact gA
 have r:of.length=n.g.length:=by simp at h;omega
 rw[zL r,yB]at o;refine gD qr F49 ?_;cases nr
 .rw[yE]at o;subst o;exact gA
 rw[yB]at o;refine T ?_;refine Bb of.length (λj=>∀i,i<j->Aiy n of i=true) (λj=>[(2,.ptr 2 0),(19,.sl 1 Aa of),(20,Aa of.length),(21,Aa j)]) (λ_=>[(2,.box (Eo n))]) [] (λi hi=>zW hi (Nat.not_lt_zero i)) U ?_;intro j hj hI;refine gP ?_ ?_<;>intro h
 .have ab:j<of.length:=qA h;have ai:(j:Int).toNat<of.length:=kS ab;have ni:(j:Int).toNat<n.g.length:=by rw[<-r];exact ai
  have l:=Aiy.eq_1 n of j;rw[Aj ni,Aj ai]at l;obtain ⟨w,hw⟩:=kE (of[(j:Int).toNat]'ai);obtain ⟨p,hp⟩:=kE (n.g[(j:Int).toNat]'ni);rw[hw,hp]at l;have I:Aiy n of j=false->P=false:=λhb=>by rw[o];exact A5m ab hb
  have t:Aiy n of j=true->∀i,i<j+1->Aiy n of i=true:=λhb i hi=>by
   by_cases he:i=j
   .subst he;exact hb
   .exact hI i j_
  generalize Aiy n of j=g at *;clear h;refine S ?_;refine⟨q_,by omega,ai,?_⟩;rw[hw];refine S ?_;refine⟨q_,by omega,ni,?_⟩;rw[hp];refine T ?_;constructor<;>intro h1
  .have hl:=zO h1;rw[zD j_]at l;refine T ?_;constructor<;>intro R
   .have J:=I (by rw[l];simp at R;simp;omega);subst J;exact gA
   .have hx:=t (by rw[l];simp at R;simp;omega);refine T ?_;refine A6 [] hI ab hx ?_;exact U
  .have hl:=zQ h1;rw[zE j_,<-Bool.decide_and]at l;refine T ?_;constructor<;>intro R
   .have J:=I (by rw[l];exact zJ (by have:=zO R;omega));subst J;exact gA
   refine T ?_;constructor<;>intro h3
   .have J:=I (by rw[l];exact zJ (by have:=zO h3;omega));subst J;exact gA
   have hx:=t (by rw[l];exact zL (by have:=zQ R;have:=zQ h3;omega));refine T ?_;refine A6 [] hI ab hx ?_;exact U
 .have jh:j=of.length:=qB h;subst jh;have J:P=true:=by rw[o];exact A5n hI
  subst J;exact gA
def Acv(n:Ai)(g:List (List Bc))(l:List B7):Bool:=Tf n||dO l||decide (60<g.length)||g.any λt=>decide (60<t.length)
def Bcb(n:Ai)(g:List (List Bc))(l:List B7):Sp 7 [Aq n,.sl 1 U1 g,.sl 6 Dm l] (Ab (Acv n g l)):=cT F7 ntmps7 λF hF=>by
 have i:=Acv.eq_1 n g l;generalize Acv n g l=a0 at *;have q1:=greatS n;have q2:=Bcc l;generalize Tf n=a at *;generalize dO l=b at *;refine gD q1 F22 ?_;cases a;rotate_left
 .simp only[wT]at i;subst i;exact gA
 refine gD q2 F23 ?_;cases b;rotate_left
 .simp only[wT,tY]at i;subst i;exact gA
 simp only[vI]at i;refine gP ?_ ?_<;>intro h
 .rw[zL (qA h),wT]at i;subst i;exact gA
 have h1:=zQ h;rw[zJ j_,vI]at i;refine T ?_;refine Bb g.length (λj=>Ic (λ_ t=>!(decide (60<t.length))) g j) (λj=>[(1,.sl 1 U1 g),(7,Aa j)]) (λ_=>[]) [] (Bn _ _) U ?_;intro j hj r;refine gP ?_ ?_<;>intro h
 .have o:j<g.length:=qA h;have I:(j:Int).toNat<g.length:=kS o;have J:=λh=>@any_at3 _ (λt:List Bc=>decide (60<t.length)) g j o h
  have P:=λh=>Bk (p:=λ_ (t:List Bc)=>!(decide (60<t.length))) r o h
  obtain ⟨x,R⟩:=kE (g[(j:Int).toNat]'I);have pc:g[j]=x:=R;rw[pc]at J P;refine S ?_;refine⟨q_,by omega,I,?_⟩;rw[R];refine gP ?_ ?_<;>intro h
  .rw[J (zL (qA h))]at i;subst i;exact gA
  .have hn:=P (by rw[zJ (qB h)];rfl);refine T ?_;refine A6 [] r o hn ?_;exact U
 .rw[Ao6 r (qB h)]at i;subst i;exact gA
end Go.Sy.Zaa
