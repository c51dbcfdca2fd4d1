/- Parts of a proof. -/
import Derived.Test.YticmobkdaneelaaGreatDoorYE1
set_option linter.all false
set_option linter.unusedVariables false
set_option linter.unusedSimpArgs false
set_option linter.deprecated false
namespace Go.Sy
def Src(κ:Ka)(w:World)(v:Value)(m sz:Nat)(f:Nat→SV→Prop):Prop :=
 (m=0∧(∀i x,¬f i x)∧∃a cap,v=.slice a 0 cap) ∨
 ∃b o cap news,v=.slice (some ⟨b,o,none⟩) m cap∧news.length=m*sz∧Ones news∧(∀j u,news[j]? = some u→w.cell? ⟨b,o+j,none⟩=some u) ∧
  ∀i x,f i x→i<m∧∃u:Value,RdD (Own κ) w x u∧u.cells.size=sz∧Ones u.cells.toList∧∀j,j<sz→news[i*sz+j]? = u.cells[j]?
def Wz{cs:List Value}{n sz:Nat}(hl:n*sz≤cs.length)(h:∀i,i<n→∃u:Value,u.cells.size=sz∧Ones u.cells.toList∧∀j,j<sz→cs[i*sz+j]? = u.cells[j]?):Ones (cs.take (n*sz)):=by
 intro c hc;obtain ⟨j,hj,rfl⟩:=yY.1 hc;have vc:j<n*sz:=by simp at hj;omega
 have bg:0<sz:=by
  rcases uB sz with h0|h0
  ·subst h0;simp at vc
  ·exact h0
 have hi:j/sz<n:=(Nat.div_lt_iff_lt_mul bg).2 vc;obtain ⟨u,h1,h2,h3⟩:=h (j/sz) hi;have h4:=h3 (j%sz) (tW _ bg);rw[Nat.div_add_mod' j sz]at h4;rw[zT q_]at h4;have h5:j%sz<u.cells.toList.length:=by simp[h1];exact tW _ bg
 rw[←vK,zT h5]at h4;simp only[Option.some.injEq]at h4;rw[wA,h4];exact h2 _ (zI h5)
theorem RowAt.src{κ:Ka}{w:World}{k sz n:Nat}{f:Nat→SV→Prop}(h:RowAt κ w k sz n f)(tot:∀i,i<n→∃x,f i x):∃b cap,κ k=.row b n cap∧Src κ w (.slice (some ⟨b,0,none⟩) n cap) n sz f:=by
 obtain ⟨b,cap,cs,T,fr,e1,e2,e3,e4,e5,e6⟩:=h;have hle:n*sz≤cs.length:=wO (yX sz e5) e4;refine⟨b,cap,e1,.inr ⟨b,0,cap,cs.take (n*sz),E,by simp;omega,?_,?_,?_⟩⟩
 ·exact Wz hle (λ i hi=>by
   obtain ⟨x,hx⟩:=tot i hi;obtain ⟨_,u,_,h2⟩:=e6 i x hx;exact⟨u,h2⟩)
 ·intro j u hj;rw[vN]at hj;split at hj
  ·rw[wE,cell_of_row w b _ cs.toArray T fr e2];simpa using hj
  ·cases hj
 ·intro i x hx;obtain ⟨h0,u,h1,h2,h3,h4⟩:=e6 i x hx;refine⟨h0,u,h1,h2,h3,λj hj=>?_⟩;have:(i+1)*sz≤n*sz:=yX sz q_;rw[xI,wL]at this;rw[vN,zG q_,h4 j hj]
theorem Rd.src{κ:Ka}{w:World}{sz:Nat}{α:Type}{e:α→SV}{l:List α}{v:Value}(h:Rd κ w (.sl sz e l) v):Src κ w v l.length sz (rowF e l):=by
 simp only[Rd,RdD]at h;rcases h with ⟨rfl,a,cap,rfl⟩|⟨b,off,cap,rfl,h0,h1,h2,h3⟩
 ·exact .inl ⟨rfl,λi x hx=>(by obtain ⟨h,_⟩:=hx;simp at h),a,cap,rfl⟩
 ·refine .inr ⟨b,off,cap,(List.range (l.length*sz)).map λj=>(w.cell? ⟨b,off+j,none⟩).getD undef,E,by simp,?_,?_,?_⟩
  ·have:=Wz (cs:=(List.range (l.length * sz)).map λ j=>(w.cell? ⟨b,off+j,none⟩).getD undef) (n:=l.length) (sz:=sz) y_ (λ i hi=>by
    obtain ⟨u,h4,h5,h6,h7⟩:=h3 i hi;refine⟨u,h5,h6,λ j hj=>?_⟩;have:(i+1) * sz≤l.length * sz:=yX sz q_;rw[xI,wL]at this;have h8:=h7 j hj;rw[vS]at h8;rw[uK,vW q_];simp only[uM,h8];rw[vY q_];rfl)
   rw[xK y_]at this;exact this
  ·intro j u hj;rw[uK]at hj;have ab:j<l.length*sz:=by
    rcases vM j (l.length*sz) with h|h
    ·exact h
    ·rw[wP (by simpa using h)]at hj;cases hj
   rw[vW ab]at hj;simp only[uM,Option.some.injEq]at hj;have bg:0<sz:=by
    rcases uB sz with h0|h0
    ·subst h0;simp at ab
    ·exact h0
   have hi:j/sz<l.length:=(Nat.div_lt_iff_lt_mul bg).2 ab;obtain ⟨q,h4,h5,h6,h7⟩:=h3 (j/sz) hi;have h8:=h7 (j%sz) (tW _ bg);rw[vS,Nat.div_add_mod' j sz,vY (by rw[h5];exact tW _ bg)]at h8;rw[h8]at hj⊢;simpa using hj
  ·rintro i x ⟨hi,rfl⟩;obtain ⟨u,h4,h5,h6,h7⟩:=h3 i hi;refine⟨hi,u,h4,h5,h6,λj hj=>?_⟩;have:(i+1)*sz≤l.length*sz:=yX sz q_;rw[xI,wL]at this;have h8:=h7 j hj;rw[vS]at h8;rw[uK,vW q_];simp only[uM,h8];rw[vY q_];rfl
def Azg(n:Nat)(f g:Nat→SV→Prop)(i:Nat)(x:SV):Prop:=(i<n∧f i x)∨(n≤i∧g (i-n) x)
def Base(κ:Ka)(w:World)(v:Value)(n sz:Nat)(f:Nat→SV→Prop):Option Nat→Prop
 |none=>v=.slice none 0 0∧n=0
 |some k=>(κ k=.nil∧n=0∧v=.slice none 0 0)∨(RowAt κ w k sz n f∧(∀i,i<n→∃x,f i x)∧∃b cap,κ k=.row b n cap∧v=.slice (some ⟨b,0,none⟩) n cap)
def Afq(κ:Ka):Option Nat→Ka
 |none=>κ
 |some k=>Ec κ k .dead
def Lr{κ:Ka}{w:World}(hi:Inv κ w)(k:Option Nat):Inv (Afq κ k) w:=by
 cases k with
 |none=>exact hi
 |some k=>
  have key:∀j b,((Ec κ k .dead) j).block? = some b→(κ j).block? = some b:=λj b h=>by
   by_cases hj:j=k
   ·subst hj;rw[Az]at h;cases h
   ·rwa [B8 κ _ hj]at h
  exact⟨λi j b h1 h2=>hi.inj i j b (key i b h1) (key j b h2),λj b h=>hi.bnd j b (key j b h),λj b h=>hi.apart j b (key j b h),hi.mbnd⟩
def Ju{κ:Ka}{w:World}(k:Option Nat):Step (λj=>k=some j) κ w (Afq κ k) w:=by
 cases k with
 |none=>exact Step.refl _ κ w
 |some k=>
  refine⟨yG _,E,E,E,E,λ_ _=>rfl,λ_ _ _=>rfl,λ_ _ _ _=>rfl,λj hj=>B8 κ _ (λe=>hj (by rw[e])),λj hj=>.inr (.inr ?_),?_⟩
  ·simp only[Option.some.injEq]at hj;subst hj;exact Az _ _ _
  ·rintro b (⟨j,hj⟩|hj)
   ·left;by_cases hjk:j=k
    ·subst hjk;simp only[Afq]at hj;rw[Az]at hj;cases hj
    ·simp only[Afq]at hj;rw[B8 κ _ hjk]at hj;exact .inl ⟨j,hj⟩
   ·exact .inl (.inr hj)
def Qk{κ:Ka}{w w':World}{k d b n n' cap:Nat}(hi:Inv κ w)(hk:κ k=.row b n cap)(hd:κ d=.new)(wg:w'.os=w.os)(ht:w'.tape=w.tape)(ho:w'.output=w.output)(hs:w'.heap.size=w.heap.size)(hb:∀i,i≠b→w'.heap[i]? = w.heap[i]?):Step (λj=>j=k∨j=d) κ w (Ec (Ec κ k .dead) d (.row b n' cap)) w'∧Inv (Ec (Ec κ k .dead) d (.row b n' cap)) w':=by
 have ck:k≠d:=λe=>by subst e;rw[hk]at hd;cases hd
 have iy:(κ k).block? = some b:=by rw[hk];rfl
 have key:∀j c,((Ec (Ec κ k .dead) d (.row b n' cap)) j).block? = some c→(j=d∧c=b)∨(j≠d∧j≠k∧(κ j).block? = some c):=by
  intro j c h;by_cases hj:j=d
  ·subst hj;rw[Az]at h;exact .inl ⟨rfl,by simpa [Ent.block?] using h.symm⟩
  ·rw[B8 _ _ hj]at h;by_cases an:j=k
   ·subst an;rw[Az]at h;cases h
   ·rw[B8 _ _ an]at h;exact .inr ⟨hj,an,h⟩
 refine⟨⟨by omega,wg,ht,ho,E,λc hm=>hb c (λe=>hi.apart k b iy (e▸hm)),λc _ hn=>hb c (λe=>hn (.inl ⟨k,e▸iy⟩)),λj c hj hjc=>hb c (λe=>?_),λj hj=>?_,?_,?_⟩,⟨?_,?_,?_,λc h=>?_⟩⟩
 ·subst e;exact hj (.inl (hi.inj j k _ hjc iy))
 ·rw[B8 _ _ (λe=>hj (.inr e)),B8 _ _ (λe=>hj (.inl e))]
 ·rintro j (rfl|rfl)
  ·exact .inr (.inr (by rw[B8 _ _ ck,Az]))
  ·exact .inl hd
 ·rintro c (⟨j,hj⟩|hj)
  ·rcases key j c hj with ⟨_,rfl⟩|⟨_,_,h⟩
   ·exact .inl (.inl ⟨k,iy⟩)
   ·exact .inl (.inl ⟨j,h⟩)
  ·exact .inl (.inr hj)
 ·intro i j c h1 h2;rcases key i c h1 with ⟨a1,a2⟩|⟨a1,a2,a3⟩<;>rcases key j c h2 with ⟨b1,b2⟩|⟨b1,b2,b3⟩
  ·exact a1.trans b1.symm
  ·subst a2;exact zY (hi.inj j k _ b3 iy) b2
  ·subst b2;exact zY (hi.inj i k _ a3 iy) a2
  ·exact hi.inj i j c a3 b3
 ·intro j c h;rw[hs];rcases key j c h with ⟨_,rfl⟩|⟨_,_,h⟩
  ·exact hi.bnd k _ iy
  ·exact hi.bnd j c h
 ·intro j c h;rcases key j c h with ⟨_,rfl⟩|⟨_,_,h⟩
  ·exact hi.apart k _ iy
  ·exact hi.apart j c h
 ·rw[hs];exact hi.mbnd c h
def W6(z:Array Value)(n:Nat):(Builtin.zeroCells z n).size=n*z.size:=by simp[Builtin.zeroCells]
def Aql{P:Program}{κ:Ka}{w:World}(hi:Inv κ w){t ty e:TypeId}{i:TypeInfo}{z:Value}{sz:Nat}(ht:P.underlying t=some (.slice e))(eo:P.info? e=some i)(hz:i.zero=some z)(bg:i.size=sz)(q9:z.cells.size=sz){v u:Value}{n m:Nat}{f g:Nat→SV→Prop}{k:Option Nat}{d:Nat}(hd:κ d=.new)(hb:Base κ w v n sz f k)(hs:Src κ w u m sz g)(rf:n+m≤9223372036854775807)(cx:(n+m)*i.bytes≤140737488355328):∃v' w' κ',(Builtin.append_ #[t,t] ty #[v,u]).run P w=.ok v' w'∧Step (λj=>k=some j∨j=d) κ w κ' w'∧Inv κ' w'∧Rd κ' w' (.osl d) v' ∧
   ((κ' d=.nil∧n+m=0)∨RowAt κ' w' d sz (n+m) (Azg n f g)):=by
 obtain ⟨a,c,news,hu,kx,vi,ns,vj⟩:∃(a:Option Addr) (c:Nat) (news:List Value),u=.slice a m c∧news.length=m*sz∧Ones news∧(∀W:World,(∀p:Addr,p.block<w.heap.size→W.cell? p=w.cell? p)→(Builtin.firstCells sz m u).run P W=.ok news.toArray W) ∧
   (∀j x,g j x→j<m∧∃q:Value,RdD (Own κ) w x q∧q.cells.size=sz∧Ones q.cells.toList∧∀l,l<sz→news[j*sz+l]? = q.cells[l]?):=by
  rcases hs with ⟨rfl,cu,a,c,rfl⟩|⟨b,o,c,news,rfl,h1,h2,h3,h4⟩
  ·refine⟨a,c,[],E,by simp,by simp[Ones],λW _=>?_,λj x h=>zY h (cu j x)⟩;cases a<;>simp[Builtin.firstCells,loadCells,loadCellsFrom]
  ·refine⟨some ⟨b,o,none⟩,c,news,E,h1,h2,λ W hW=>?_,λ j x hx=>h4 j x hx⟩;exact run_firstCells_some (P:=P) W sz m ⟨b,o,none⟩ m c news h1 (λ j q hj=>by
    rw[Addr.add_lit];have h5:=h3 j q hj;rw[hW _ (by exact World.block_lt_of_cell? w _ h5),h5])
 subst hu;have jj:∀old,n+m≤grownCap w (n+m) old e:=λold=>grownCap_ge w (n+m) old e
 have l5:∀old,old<n+m→¬(281474976710656<Builtin.nextslicecap (n+m) old*i.bytes):=λold ho=>by have:=growslice_fits ho cx;omega
 have jq:∀(cy:List Value) (old:Nat) (mz:cy.length=n*sz) (y4:∀j x,f j x→j<n→∃q:Value,RdD (Own κ) w x q∧q.cells.size=sz∧Ones q.cells.toList∧∀l,l<sz→cy[j*sz+l]? = q.cells[l]?),
   let w':=w.drew.alloc (.cells (cy.toArray++news.toArray++Builtin.zeroCells z.cells (grownCap w (n+m) old e-(n+m))) e)
   let κ':=Ec (Afq κ k) d (.row w.heap.size (n+m) (grownCap w (n+m) old e))
   Step (λj=>k=some j∨j=d) κ w κ' w'∧Inv κ' w'∧Rd κ' w' (.osl d) (.slice (some ⟨w.heap.size,0,none⟩) (n+m) (grownCap w (n+m) old e))∧RowAt κ' w' d sz (n+m) (Azg n f g):=by
  intro cy old mz y4 w' κ';have s1:=Ju (κ:=κ) (w:=w) k;have vu:(Afq κ k) d=.new:=by
   cases k with
   |none=>exact hd
   |some k=>
    by_cases ck:d=k
    ·exfalso;subst ck;rcases hb with ⟨h,_⟩|⟨_,_,b,cap,h,_⟩<;>rw[hd]at h<;>cases h
    ·simp only[Afq];rw[B8 _ _ ck];exact hd
  have g0:Grew w w':=(Grew.drew w).trans (Grew.alloc _ _);have s2:=J9 (Lr hi k) vu (e:=.row w.heap.size (n+m) (grownCap w (n+m) old e)) g0 (λ b hb=>by
   simp only[Ent.block?,Option.some.injEq]at hb;subst hb;exact⟨yG _,by simp[w']⟩)
  have s3:Step (λj=>k=some j∨j=d) κ w κ' w':=(s1.weaken (λj hj=>.inl hj)).trans (s2.1.weaken (λj hj=>.inr hj));refine⟨s3,s2.2,by simp[Rd,κ',Az],?_⟩;refine⟨w.heap.size,grownCap w (n+m) old e,cy++news++(Builtin.zeroCells z.cells (grownCap w (n+m) old e-(n+m))).toList,e,(0,0),Az _ _ _,?_,NoFr.zero _,?_,jj old,?_⟩
  ·have:w'.heap[w.heap.size]? = some (.cells (cy.toArray++news.toArray++Builtin.zeroCells z.cells (grownCap w (n+m) old e-(n+m))) e):=heap_alloc_new w.drew _;rw[this];congr 2;apply Array.ext';simp
  ·simp only[zW,mz,kx,wT,W6,q9];rw[←xI,←xI];have:=jj old;rw[show n+m+(grownCap w (n+m) old e-(n+m))=grownCap w (n+m) old e from by omega];exact yG _
  ·rintro j x (⟨hj,hx⟩|⟨hj,hx⟩)
   ·obtain ⟨q,q1,q2,q3,q4⟩:=y4 j x hx hj;refine⟨by omega,q,RdD.keep s3.keeps _ _ q1,q2,q3,λl hl=>?_⟩;have:(j+1)*sz≤n*sz:=yX sz q_;rw[xI,wL]at this;rw[xJ,xR q_,q4 l hl]
   ·obtain ⟨h0,q,q1,q2,q3,q4⟩:=vj _ x hx;refine⟨by omega,q,RdD.keep s3.keeps _ _ q1,q2,q3,λl hl=>?_⟩;have e1:j*sz=n*sz+(j-n)*sz:=by rw[←xI];congr 1;omega
    have:(j-n+1)*sz≤m*sz:=yX sz q_;rw[xI,wL]at this;rw[xJ,wG q_,xR q_,←q4 l hl];congr 1;omega
 cases k with
 |none=>
  obtain ⟨rfl,rfl⟩:=hb;by_cases hm:m=0
  ·subst hm;have st:=J9 hi hd (e:=.nil) (Grew.refl w) (λb hb=>by cases hb);refine⟨.slice none 0 0,w,Ec κ d .nil,?_,st.1.weaken (λj hj=>.inr hj),st.2,by simp[Rd,Az],.inl ⟨Az _ _ _,E⟩⟩;have hc:=ns w (λ_ _=>rfl);simp[Builtin.append_,run_underlying ht,sizeOf,typeInfo,eo,bg,Builtin.lenOf,hc]
  ·obtain ⟨q1,q2,q3,q4⟩:=jq [] 0 y_ (λj x _ hj=>zY hj q_);refine⟨_,_,_,?_,q1,q2,q3,.inr q4⟩;have hc:=ns w.drew (λ_ _=>rfl);have nz:=l5 0 q_;have jk:¬(9223372036854775807<(m:Int)):=by omega
   simp only[wE]at nz⊢;simp[Builtin.append_,run_underlying ht,sizeOf,typeInfo,zeroValue,eo,bg,hz,Builtin.lenOf,hm,jk,nz,Question.forced,run_firstCells_none,hc,newRow,grownCap]
 |some k=>
  rcases hb with ⟨hk,rfl,rfl⟩|⟨fx,tot,b,cap,hk,rfl⟩
  ·by_cases hm:m=0
   ·subst hm;have ck:d≠k:=λe=>by subst e;rw[hd]at hk;cases hk
    have st:=J9 (Lr hi (some k)) (by show Ec κ k .dead d=.new;rw[B8 _ _ ck];exact hd) (e:=.nil) (Grew.refl w) (λb hb=>by cases hb);refine⟨.slice none 0 0,w,_,?_,((Ju (some k)).weaken (λj hj=>.inl hj)).trans (st.1.weaken (λj hj=>.inr hj)),st.2,by simp[Rd,Az],.inl ⟨Az _ _ _,E⟩⟩;have hc:=ns w (λ_ _=>rfl);simp[Builtin.append_,run_underlying ht,sizeOf,typeInfo,eo,bg,Builtin.lenOf,hc]
   ·obtain ⟨q1,q2,q3,q4⟩:=jq [] 0 y_ (λj x _ hj=>zY hj q_);refine⟨_,_,_,?_,q1,q2,q3,.inr q4⟩;have hc:=ns w.drew (λ_ _=>rfl);have nz:=l5 0 q_;have jk:¬(9223372036854775807<(m:Int)):=by omega
    simp only[wE]at nz⊢;simp[Builtin.append_,run_underlying ht,sizeOf,typeInfo,zeroValue,eo,bg,hz,Builtin.lenOf,hm,jk,nz,Question.forced,run_firstCells_none,hc,newRow,grownCap]
  ·obtain ⟨b',dx,l6,jr⟩:=fx.src tot;rw[hk]at l6;cases l6;have xh:=fx;obtain ⟨b',dx,cs,T,fr,e1,e2,e3,e4,e5,e6⟩:=xh;rw[hk]at e1;cases e1;by_cases bz:n+m≤cap
   ·have ck:k≠d:=λe=>by subst e;rw[hk]at hd;cases hd
    have m7:(n+m)*sz≤cs.length:=wO (yX sz bz) e4;rw[xI]at m7;obtain ⟨w',f1,f2,f3,f4,f5,f6,f7⟩:=De P b (n*sz) T fr news 0 cs w e2 e3 q_ vi;obtain ⟨st,inv⟩:=Qk (n':=n+m) hi hk hd f3 f4 f5 f6 f7;refine⟨.slice (some ⟨b,0,none⟩) (n+m) cap,w',_,?_,st.weaken (λj hj=>hj.imp (λh=>by rw[h]) id),inv,by simp[Rd,Az],.inr ?_⟩
    ·have hc:=ns w (λ_ _=>rfl);simp[Builtin.append_,run_underlying ht,sizeOf,typeInfo,eo,bg,Builtin.lenOf,bz,hc,Addr.add_lit,f1]
    ·refine⟨b,cap,_,T,fr,Az _ _ _,by simpa using f2,by rw[Cg];exact e3,by rw[Cg];exact e4,bz,?_⟩;have a7:=Mp cs news (n*sz);rintro j x (⟨hj,hx⟩|⟨hj,hx⟩)
     ·obtain ⟨_,q,q1,q2,q3,q4⟩:=e6 j x hx;refine⟨by omega,q,RdD.keep st.keeps _ _ q1,q2,q3,λl hl=>?_⟩;have:(j+1)*sz≤n*sz:=yX sz q_;rw[xI,wL]at this;rw[a7 _ q_,zD q_,q4 l hl]
     ·obtain ⟨h0,q,q1,q2,q3,q4⟩:=vj _ x hx;refine⟨by omega,q,RdD.keep st.keeps _ _ q1,q2,q3,λl hl=>?_⟩;have e1:j*sz=n*sz+(j-n)*sz:=by rw[←xI];congr 1;omega
      have:(j-n+1)*sz≤m*sz:=yX sz q_;rw[xI,wL]at this;rw[a7 _ q_,zG q_,←q4 l hl];congr 1;omega
   ·rcases jr with ⟨rfl,cu,a',c',he⟩|⟨b2,o2,c2,cy,he,g1,g2,g3,g4⟩
    ·obtain ⟨q1,q2,q3,q4⟩:=jq [] cap y_ (λj x _ hj=>zY hj q_);refine⟨_,_,_,?_,q1,q2,q3,.inr q4⟩;have hc:=ns w.drew (λ_ _=>rfl);have nz:=l5 cap q_;have jk:¬(9223372036854775807<(m:Int)):=by omega
     have ua:¬(m≤cap):=by omega
     have j6:=run_firstCells_some (P:=P) w.drew sz 0 ⟨b,0,none⟩ 0 cap [] y_ (λj v hj=>by simp at hj);simp only[wE]at nz⊢;simp[Builtin.append_,run_underlying ht,sizeOf,typeInfo,zeroValue,eo,bg,hz,Builtin.lenOf,ua,jk,nz,Question.forced,j6,hc,newRow,grownCap]
    ·cases he;obtain ⟨q1,q2,q3,q4⟩:=jq cy cap g1 (λj x hx hj=>(g4 j x hx).2);refine⟨_,_,_,?_,q1,q2,q3,.inr q4⟩;have hc:=ns w.drew (λ_ _=>rfl);have nz:=l5 cap q_;have jk:¬(9223372036854775807<(n:Int)+(m:Int)):=by omega
     have j6:=run_firstCells_some (P:=P) w.drew sz n ⟨b,0,none⟩ n cap cy g1 (λ j v hj=>by
      have:=g3 j v hj;rw[Addr.add_lit];simpa using this)
     simp[Builtin.append_,run_underlying ht,sizeOf,typeInfo,zeroValue,eo,bg,hz,Builtin.lenOf,bz,jk,nz,Question.forced,j6,hc,newRow,grownCap];congr 2;apply Array.ext';simp[xJ]
def Zx{P:Program}:∀{fs:List Field} {r:List (Nat×Nat)} {f:Nat} {o n:Nat},H2 P fs r→r[f]? = some (o,n)→∃x,fs[f]? = some x∧x.offset=o∧(P.info? x.type).map (·.size)=some n
 |[],[],f,o,n,_,h=>by simp at h
 |[],_::_,f,o,n,h,_=>by simp[H2]at h
 |_::_,[],f,o,n,h,_=>by simp[H2]at h
 |x::fs,(o',n')::r,0,o,n,h,h'=>by
  simp only[H2]at h;simp only[tG,Option.some.injEq,Prod.mk.injEq]at h';exact⟨x,by simp,by rw[h.1];exact h'.1,by rw[h.2.1,h'.2]⟩
 |x::fs,(o',n')::r,f+1,o,n,h,h'=>by
  simp only[H2]at h;obtain ⟨y,h1,h2⟩:=Zx (f:=f) h.2.2 (by simpa using h');exact⟨y,by simpa using h1,h2⟩
def Ub{P:Program}(Γ:Ty P){t:TypeId}{ti:TI}{fs:List (Nat×Nat)}{f o n:Nat}(ht:Γ.get t=some ti)(hk:ti.k=.struct fs)(hf:fs[f]? = some (o,n))(hn:n≠0)(w:World)(b off:Nat):(Instr.fieldAt t (.pointer (some ⟨b,off,none⟩)) f).run P w=.ok (.pointer (some ⟨b,off+o,none⟩)) w:=by
 obtain ⟨d,info,z,k1,k2,k3,k4,k5,k6⟩:=Γ.ok t ti ht;rw[hk]at k2;simp only[TK.ok]at k2;obtain ⟨a,rfl,k2⟩:=k2;obtain ⟨x,h1,h2,h3⟩:=Zx k2 hf;obtain ⟨ix,h4,h5⟩:∃ix,P.info? x.type=some ix∧ix.size=n:=by
  cases hh:P.info? x.type with
  |none=>rw[hh]at h3;cases h3
  |some ix=>rw[hh]at h3;exact⟨ix,rfl,by simpa using h3⟩
 have y2:a[f]? = some x:=by simpa using h1
 simp[Instr.fieldAt,run_underlying k1,y2,Instr.sureAddr,fieldPlace,sizeOf,typeInfo,h4,h5,hn,Addr.add_lit,h2]
def Kq{P:Program}(Γ:Ty P){o:Oper}{s:SS}{t:TypeId}{ti:TI}{fs:List (Nat × Nat)}{x:Operand}{f fo fn:Nat}(h:o.op=.fieldAddr t x f)(ht:Γ.get t=some ti)(hk:ti.k=.struct fs)(hf:fs[f]? = some (fo,fn))(hn:fn≠0){y:SV}{rd:List Nat}(hy:(∃ k off l,ev s x=.ptr k off∧s.h k=.box l∧rd=[k]∧y=.ptr k (off+fo))∨(∃ sz z off,ev s x=.ref sz z off∧rd=[]∧y=.ref sz z (off+fo)) ∨
   (∃ k sz i off,ev s x=.rpt k sz i off∧(∀ κ w,ObOK κ w k (s.h k)→∃ b n c,κ k=.row b n c)∧rd=[k]∧y=.rpt k sz i (off+fo))):Good P o s ⟨y,rd,[]⟩ :=
 Good.pure λκ a w _ hr ho=>by
  have h1:=hr x (by simp[h,Op.operands]);rcases hy with ⟨k,off,l,hx,hl,rfl,rfl⟩|⟨sz,z,off,hx,rfl,rfl⟩|⟨k,sz,i,off,hx,hl,rfl,rfl⟩
  ·have h2:=ho k y_;rw[hl]at h2;obtain ⟨b,cs,T,fr,e1,_⟩:=h2;rw[hx]at h1;simp only[Rd,e1]at h1;exact⟨.pointer (some ⟨b,off+fo,none⟩),by simp[execOp,h,h1,Ub Γ ht hk hf hn],by simp[Rd,e1]⟩
  ·rw[hx]at h1;simp only[Rd,RdD]at h1;obtain ⟨b,oo,u,e1,e2⟩:=h1;refine⟨.pointer (some ⟨b,oo+off+fo,none⟩),by simp[execOp,h,e1,Ub Γ ht hk hf hn],?_⟩;simp only[Rd,RdD];exact⟨b,oo,u,by rw[vS],e2⟩
  ·obtain ⟨b,n,c,e1⟩:=hl κ w (ho k y_);rw[hx]at h1;simp only[Rd,e1]at h1;exact⟨.pointer (some ⟨b,i*sz+off+fo,none⟩),by simp[execOp,h,h1,Ub Γ ht hk hf hn],by simp[Rd,e1,vS]⟩
def C0{P:Program}{o:Oper}{s:SS}{x:Operand}{rd:List Nat}(h:o.op=.nilCheck x)(hy:(∃ k off l,ev s x=.ptr k off∧s.h k=.box l∧rd=[k])∨(∃ sz z off,ev s x=.ref sz z off∧rd=[])∨(∃ f first cap,ev s x=.clo (.func f) first cap∧rd=[]) ∨
   (∃ k sz i off,ev s x=.rpt k sz i off∧(∀ κ w,ObOK κ w k (s.h k)→∃ b n c,κ k=.row b n c)∧rd=[k])):Good P o s ⟨ev s x,rd,[]⟩ :=
 Good.pure λκ a w _ hr ho=>by
  have h1:=hr x (by simp[h,Op.operands]);refine⟨a.eval x,?_,h1⟩;rcases hy with ⟨k,off,l,hx,hl,rfl⟩|⟨sz,z,off,hx,rfl⟩|⟨f,first,cap,hx,rfl⟩|⟨k,sz,i,off,hx,hl,rfl⟩
  ·have h2:=ho k y_;rw[hl]at h2;obtain ⟨b,cs,T,fr,e1,_⟩:=h2;rw[hx]at h1;simp only[Rd,e1]at h1;simp[execOp,h,h1]
  ·rw[hx]at h1;simp only[Rd,RdD]at h1;obtain ⟨b,oo,u,e1,e2⟩:=h1;simp[execOp,h,e1]
  ·rw[hx]at h1;simp only[Rd]at h1;obtain ⟨fs,cs,e1,_⟩:=h1;simp[execOp,h,e1]
  ·obtain ⟨b,n,c,e1⟩:=hl κ w (ho k y_);rw[hx]at h1;simp only[Rd,e1]at h1;simp[execOp,h,h1]
def Cq{P:Program}(Γ:Ty P){t:TypeId}{ti:TI}{e:TypeId}{sz eb:Nat}{ez:List Value}(ht:Γ.get t=some ti)(hk:ti.k=.slice e sz eb ez):P.underlying t=some (.slice e)∧∃i z,P.info? e=some i∧i.size=sz∧i.bytes=eb∧i.zero=some z∧z.cells.toList=ez:=by
 obtain ⟨d,info,z,k1,k2,k3,k4,k5,k6⟩:=Γ.ok t ti ht;rw[hk]at k2;simp only[TK.ok]at k2;obtain ⟨rfl,k2⟩:=k2;exact⟨k1,k2⟩
def Ko{P:Program}(Γ:Ty P){o:Oper}{s:SS}{t:TypeId}{ti:TI}{et:TypeId}{sz eb:Nat}{ez:List Value}{x y:Operand}{ik:IntKind}{n:Int}{α:Type}{e:α→SV}{l:List α}(h:o.op=.indexAddr t x y)(ht:Γ.get t=some ti)(hk:ti.k=.slice et sz eb ez)(hx:ev s x=.sl sz e l)(hy:ev s y=.val (.int ik n))(h0:0≤n)(hn:n.toNat<l.length):Good P o s ⟨.ref sz (e l[n.toNat]) 0,[],[]⟩ :=
 Good.pure λκ a w _ hr _=>by
  have h1:=hr x (by simp[h,Op.operands]);have h2:=hr y (by simp[h,Op.operands]);rw[hx]at h1;rw[hy]at h2;obtain ⟨hu,i,z,q1,q2,q3,q4,q5⟩:=Cq Γ ht hk;simp only[Rd,RdD]at h1;rcases h1 with ⟨rfl,_⟩|⟨b,off,cap,e1,e0,e2,e3,e4⟩
  ·simp at hn
  ·obtain ⟨u,e5,e6⟩:=e4 n.toNat hn;have ab:n<l.length:=by omega
   refine⟨.pointer (some ⟨b,off+n.toNat*sz,none⟩),?_,?_⟩
   ·simp[execOp,h,e1,h2.val,Instr.indexAt,run_underlying hu,asIntOf,h0,ab,sizeOf,typeInfo,q1,q2,Addr.add_lit]
   ·simp only[Rd,RdD];exact⟨b,off+n.toNat*sz,u,E,e2,e3,e5,e6⟩
def Ob.len:Ob→Option Nat
 | .row _ _ l=>some l.length
 | .lit _ svs=>some svs.length
 | .rown _ _ l _ _=>some l.length
 |_=>none
theorem Ob.len_ok{κ:Ka}{w:World}{k n:Nat}:∀{ob:Ob} {v:Value},ob.len=some n→ObOK κ w k ob→Rd κ w (.osl k) v→∃a cap,v=.slice a n cap∧(n≠0→∃b c,κ k=.row b n c∧a=some ⟨b,0,none⟩)
 | .row sz e l,v,hn,h,hv=>by
  simp only[Ob.len,Option.some.injEq]at hn;rcases h with ⟨h1,h2⟩|⟨b,cap,cs,T,fr,h1,_⟩
  ·simp only[Rd,h1]at hv;subst h2;simp at hn;exact⟨none,0,by rw[hv,hn],λh=>zY hn.symm h⟩
  ·simp only[Rd,h1]at hv;rw[hn]at h1 hv;exact⟨_,cap,hv,λ_=>⟨b,cap,h1,E⟩⟩
 | .lit sz l,v,hn,h,hv=>by
  simp only[Ob.len,Option.some.injEq]at hn;obtain ⟨b,cap,cs,T,fr,h1,_⟩:=h;simp only[Rd,h1]at hv;rw[hn]at h1 hv;exact⟨_,cap,hv,λ_=>⟨b,cap,h1,E⟩⟩
 | .fresh,_,hn,_,_=>by cases hn
 | .non,_,hn,_,_=>by cases hn
 | .box _,_,hn,_,_=>by cases hn
 | .glob ..,_,hn,_,_=>by cases hn
 | .pin ..,_,hn,_,_=>by cases hn
 | .dat ..,_,hn,_,_=>by cases hn
 | .tbox ..,_,hn,_,_=>by cases hn
 | .trow ..,_,hn,_,_=>by cases hn
 | .rown sz e l i cl,v,hn,h,hv=>by
  simp only[Ob.len,Option.some.injEq]at hn;obtain ⟨b,cap,cs,T,fr,h1,_⟩:=h;simp only[Rd,h1]at hv;rw[hn]at h1 hv;exact⟨_,cap,hv,λ_=>⟨b,cap,h1,E⟩⟩
def Jt{P:Program}(Γ:Ty P){o:Oper}{s:SS}{t:TypeId}{ti:TI}{et:TypeId}{sz eb len:Nat}{ez:List Value}{x y:Operand}{ik:IntKind}{n:Int}{k:Nat}(h:o.op=.indexAddr t x y)(ht:Γ.get t=some ti)(hk:ti.k=.slice et sz eb ez)(hx:ev s x=.osl k)(hl:(s.h k).len=some len)(hy:ev s y=.val (.int ik n))(h0:0≤n)(hn:n.toNat<len):Good P o s ⟨.rpt k sz n.toNat 0,[k],[]⟩ :=
 Good.pure λκ a w _ hr ho=>by
  have h1:=hr x (by simp[h,Op.operands]);have h2:=hr y (by simp[h,Op.operands]);rw[hx]at h1;rw[hy]at h2;obtain ⟨hu,i,z,q1,q2,q3,q4,q5⟩:=Cq Γ ht hk;obtain ⟨ad,cap,e1,e2⟩:=Ob.len_ok hl (ho k y_) h1;obtain ⟨b,c,e3,rfl⟩:=e2 q_;have ab:n<len:=by omega
  refine⟨.pointer (some ⟨b,n.toNat*sz,none⟩),?_,by simp[Rd,e3]⟩;simp[execOp,h,e1,h2.val,Instr.indexAt,run_underlying hu,asIntOf,h0,ab,sizeOf,typeInfo,q1,q2,Addr.add_lit]
def Af1{P:Program}(Γ:Ty P){o:Oper}{s:SS}{t:TypeId}{ti:TI}{x:Operand}{at_:Array TypeId}{n:Nat}{rd:List Nat}(h:o.op=.call ⟨.builtin .len,#[x],at_⟩)(gd:at_[0]? = some t)(ht:Γ.get t=some ti){et:TypeId}{sz eb:Nat}{ez:List Value}(hk:ti.k=.slice et sz eb ez)(hx:(∃(z:Nat) (α:Type) (e:α→SV) (l:List α),ev s x=.sl z e l∧n=l.length∧rd=[])∨(∃k,ev s x=.osl k∧(s.h k).len=some n∧rd=[k])∨(∃a c,ev s x=.val (.slice a n c)∧rd=[])):Good P o s ⟨.val (.int .i64 n),rd,[]⟩ :=
 Good.pure λκ a w _ hr ho=>by
  have h1:=hr x (by simp[h,Op.operands,Call.operands]);obtain ⟨hu,i,z,q1,q2,q3,q4,q5⟩:=Cq Γ ht hk;have key:∃ad cap,a.eval x=.slice ad n cap:=by
   rcases hx with ⟨z,α,e,l,hx,rfl,rfl⟩|⟨k,hx,hl,rfl⟩|⟨ad,c,hx,rfl⟩
   ·rw[hx]at h1;simp only[Rd,RdD]at h1;rcases h1 with ⟨rfl,ad,cap,e1⟩|⟨b,off,cap,e1,_⟩
    ·exact⟨ad,cap,e1⟩
    ·exact⟨_,cap,e1⟩
   ·rw[hx]at h1;obtain ⟨ad,cap,e1,_⟩:=Ob.len_ok hl (ho k y_) h1;exact⟨ad,cap,e1⟩
   ·rw[hx]at h1;exact⟨ad,c,h1.val⟩
  obtain ⟨ad,cap,e1⟩:=key;refine⟨.int .i64 n,?_,by simp[Rd]⟩;simp[execOp,h,resolve,invoke,builtin,Builtin.len_,gd,e1,run_underlying hu,goInt]
def Adm{P:Program}(Γ:Ty P){o:Oper}{s:SS}{t:TypeId}{ti:TI}{x:Operand}{at_:Array TypeId}{b:ByteArray}(h:o.op=.call ⟨.builtin .len,#[x],at_⟩)(gd:at_[0]? = some t)(ht:Γ.get t=some ti)(hk:ti.k=.string)(hx:ev s x=.val (.string b)):Good P o s ⟨.val (.int .i64 b.size),[],[]⟩ :=
 Good.pure λκ a w _ hr ho=>by
  have h1:=hr x (by simp[h,Op.operands,Call.operands]);rw[hx]at h1;obtain ⟨d,info,z,k1,k2,k3,k4,k5,k6⟩:=Γ.ok t ti ht;rw[hk]at k2;simp only[TK.ok]at k2;subst k2;refine⟨.int .i64 b.size,?_,by simp[Rd]⟩;simp[execOp,h,resolve,invoke,builtin,Builtin.len_,gd,h1.val,run_underlying k1,goInt]
def A3a{P:Program}{o:Oper}{s:SS}{t:TypeId}{x:Operand}{b:Bool}(h:o.op=.unOp .not t x)(hx:ev s x=.val (.bool b)):Good P o s ⟨.val (.bool (!b)),[],[]⟩ :=
 Good.pure λκ a w _ hr _=>by
  have h1:=hr x (by simp[h,Op.operands]);rw[hx]at h1;exact⟨.bool (!b),by simp[execOp,h,h1.val,Op.unary],by simp[Rd]⟩
def A3b{P:Program}{o:Oper}{s:SS}{t:TypeId}{x:Operand}{k:IntKind}{n:Int}(h:o.op=.unOp .neg t x)(hx:ev s x=.val (.int k n)):Good P o s ⟨.val (.int k (k.wrap (0-n))),[],[]⟩ :=
 Good.pure λκ a w _ hr _=>by
  have h1:=hr x (by simp[h,Op.operands]);rw[hx]at h1;exact⟨.int k (k.wrap (0-n)),by simp[execOp,h,h1.val,Op.unary,Op.intArith],by simp[Rd]⟩
def Abb{P:Program}(Γ:Ty P){o:Oper}{s:SS}{src dst:TypeId}{si di:TI}{x:Operand}{k k':IntKind}{n:Int}(h:o.op=.convert src dst x)(hs:Γ.get src=some si)(hd:Γ.get dst=some di)(hk:di.k=.int k')(hx:ev s x=.val (.int k n)):Good P o s ⟨.val (.int k' (k'.wrap n)),[],[]⟩ :=
 Good.pure λκ a w _ hr _=>by
  have h1:=hr x (by simp[h,Op.operands]);rw[hx]at h1;obtain ⟨d,info,z,k1,k2,_⟩:=Γ.ok dst di hd;obtain ⟨d',xi,z',k1',_⟩:=Γ.ok src si hs;rw[hk]at k2;simp only[TK.ok]at k2;subst k2;exact⟨.int k' (k'.wrap n),by simp[execOp,h,h1.val,convert,run_underlying k1,run_underlying k1',Conv.intToInt],by simp[Rd]⟩
def Wk{P:Program}(Γ:Ty P){o:Oper}{s:SS}{src dst:TypeId}{si di:TI}{x:Operand}{b:ByteArray}(h:o.op=.convert src dst x)(hs:Γ.get src=some si)(hd:Γ.get dst=some di)(l6:si.k=.string)(hk:di.k=.string)(hx:ev s x=.val (.string b)):Good P o s ⟨.val (.string b),[],[]⟩ :=
 Good.pure λκ a w _ hr _=>by
  have h1:=hr x (by simp[h,Op.operands]);rw[hx]at h1;obtain ⟨d,info,z,k1,k2,_⟩:=Γ.ok dst di hd;obtain ⟨d',xi,z',k1',k2',_⟩:=Γ.ok src si hs;rw[hk]at k2;rw[l6]at k2';simp only[TK.ok]at k2 k2';subst k2 k2';exact⟨.string b,by simp[execOp,h,h1.val,convert,run_underlying k1,run_underlying k1'],by simp[Rd]⟩
theorem RdL.getT{κ:Ka}{w:World}{n:Nat}{l:List SV}{cs:List Value}{x:SV}(h:RdL κ w l cs)(hg:If l n=some x):∃v,cs.toArray[n]? = some v∧Rd κ w x v:=by
 obtain ⟨v,h1,h2⟩:=h.get hg;exact⟨v,by simpa using h1,h2⟩
def Ale{P:Program}{o:Oper}{s:SS}{x:Operand}{i:Nat}{l:List SV}{y:SV}(h:o.op=.extract x i)(hx:ev s x=.tup l)(hy:If l i=some y):Good P o s ⟨y,[],[]⟩ :=
 Good.pure λκ a w _ hr _=>by
  have h1:=hr x (by simp[h,Op.operands]);rw[hx]at h1;simp only[Rd]at h1;obtain ⟨cs,e1,e2⟩:=h1;obtain ⟨v,e3,e4⟩:=e2.getT hy;exact⟨v,by simp[execOp,h,e1,Instr.extract]at e3⊢;simp[e3],e4⟩
def X7{P:Program}(Γ:Ty P){o:Oper}{s:SS}{t:TypeId}{ti:TI}{x:Operand}(h:o.op=.makeInterface t x)(ht:Γ.get t=some ti)(hk:ti.k matches .bool| .int _| .string| .slice .. | .struct _| .ptr| .func):Good P o s ⟨.ifc t (ev s x),[],[]⟩ :=
 Good.pure λκ a w _ hr _=>by
  have h1:=hr x (by simp[h,Op.operands]);obtain ⟨d,info,z,k1,k2,_⟩:=Γ.ok t ti ht;refine⟨.iface t (a.eval x),?_,by simp only[Rd];exact⟨_,E,h1⟩⟩;obtain ⟨k,n,zz⟩:=ti;cases k<;>simp only[TK.ok]at k2<;>first
   |(subst k2;simp[execOp,h,Instr.makeInterface,run_underlying k1];done)
   |(obtain ⟨a,rfl,_⟩:=k2;simp[execOp,h,Instr.makeInterface,run_underlying k1];done)
   |(obtain ⟨rfl,_⟩:=k2;simp[execOp,h,Instr.makeInterface,run_underlying k1];done)
   |(obtain ⟨a,b,c,rfl⟩:=k2;simp[execOp,h,Instr.makeInterface,run_underlying k1];done)
   |(obtain ⟨a,rfl⟩:=k2;simp[execOp,h,Instr.makeInterface,run_underlying k1];done)
   |simp at hk
def O2{κ:Ka}{w:World}{s:SS}{a:Act}:∀(xs:List Operand),(∀x∈xs,Rd κ w (ev s x) (a.eval x))→RdL κ w (xs.map (ev s)) (xs.map a.eval)
 |[],_=>by simp[RdL]
 |x::xs,h=>by
  simp only[xV,RdL];exact⟨_,_,E,h x y_,O2 xs (λy hy=>h y (by simp[hy]))⟩
def Ahu{P:Program}{o:Oper}{s:SS}{fn:Fn}{ys xs:List Operand}(h:o.op=.makeFunc fn ys.toArray xs.toArray):Good P o s ⟨.clo fn (ys.map (ev s)) (xs.map (ev s)),[],[]⟩ :=
 Good.pure λκ a w _ hr _=>by
  refine⟨.func fn (ys.map a.eval).toArray (xs.map a.eval).toArray,by simp[execOp,h,Instr.makeFunc],?_⟩;simp only[Rd];exact⟨_,_,E,O2 ys (λx hx=>hr x (by simp[h,Op.operands,hx])),O2 xs (λx hx=>hr x (by simp[h,Op.operands,hx]))⟩
def Aji(off:Nat):∀(vs:List Value) (n:Nat) (cs:Array Value),off+n+vs.length≤cs.size →
  ((vs.zipIdx n).foldl (λ(cs:Array Value) (p:Value×Nat)=>cs.setIfInBounds (off+p.2) p.1) cs).toList=setV cs.toList (off+n) vs
 |[],n,cs,_=>by cases h:cs.toList<;>simp[setV,h]
 |v::vs,n,cs,h=>by
  simp only[List.zipIdx_cons,vF];rw[Aji off vs (n+1) _ (by simp at h⊢;omega)];simp only[Array.toList_setIfInBounds];rw[Oj _ _ _ (by simp at h⊢;omega),Oj _ _ _ (by simp at h⊢;omega)];have:=list_seg_step cs.toList (off+n) v vs (by simp at h⊢;omega);simpa [vS] using this
def Ajj(v:Value)(off:Nat)(cs:Array Value)(h:off+v.cells.size≤cs.size):(v.cells.zipIdx.foldl (λcs (c,j)=>cs.setIfInBounds (off+j) c) cs).toList=setV cs.toList off v.cells.toList:=by
 have:=Aji off v.cells.toList 0 cs (by simpa using h);rw[Nat.add_zero]at this;rw[←this,←Array.foldl_toList,Array.toList_zipIdx]
def Af9(fh:List (Nat×Nat)):List SV→List (Nat×SV)→Option (List SV)
 |cells,[]=>some cells
 |cells,(i,v)::r=>
  match fh[i]? with
  |none=>none
  |some (off,size)=>bif Nat.beq (cellsOf v).length size&&Nat.ble (off+size) cells.length&&v.boxed then Af9 fh (setAt cells off (cellsOf v)) r else none
def Aln{κ:Ka}{w:World}{s:SS}{a:Act}{fh:List (Nat×Nat)}:∀(ps:List (Nat×Operand)) (cells out:List SV) (cs:Array Value),RdL κ w cells cs.toList→Ones cs.toList→(∀p∈ps,Rd κ w (ev s p.2) (a.eval p.2)) →
  Af9 fh cells (ps.map λp=>(p.1,ev s p.2))=some out→∃r:Array Value,Instr.fill (λi=>fh[i]?) cs (ps.map λp=>(p.1,a.eval p.2))=some r∧RdL κ w out r.toList∧Ones r.toList
 |[],cells,out,cs,h,h1,_,hf=>by
  simp only[vG,Af9,Option.some.injEq]at hf;subst hf;exact⟨cs,by simp[Instr.fill],h,h1⟩
 |(i,x)::ps,cells,out,cs,h,h1,hr,hf=>by
  simp only[xV,Af9]at hf;cases hp:fh[i]? with
  |none=>rw[hp]at hf;cases hf
  |some os=>
   obtain ⟨off,size⟩:=os;rw[hp]at hf;simp only[uA]at hf;split at hf
   ·rename_i hc;simp only[zE]at hc;obtain ⟨⟨c1,c2⟩,c3⟩:=hc;have c1:=yK c1;have c2:=xZ c2;have hx:=(hr (i,x) y_).cells c3;have hlen:=hx.2.length;have gn:=h.length;have bg:(a.eval x).cells.size=size:=by rw[←c1,←hlen];simp
    have m8:off+(a.eval x).cells.size≤cs.size:=by rw[bg];simp at gn;omega
    have gu:=Ajj (a.eval x) off cs m8;obtain ⟨r,r1,r2,r3⟩:=Aln ps _ out _ (by rw[gu];exact h.setAt off hx.2) (by rw[gu];exact h1.setV off hx.1) (λp hp=>hr p (by simp[hp])) hf;refine⟨r,?_,r2,r3⟩;simp only[xV,Instr.fill,hp];rw[zD]
    ·exact r1
    ·simp only[yM,zJ,uC];exact⟨by simpa using bg,by omega⟩
   ·cases hf
def Aeo{P:Program}(w:World):∀(fs:List Field) (r:List (Nat×Nat)),H2 P fs r→(fs.mapM (λf=>do pure (f.offset,←sizeOf f.type)):Sem (List (Nat×Nat))).run P w=.ok r w
 |[],[],_=>by simp
 |[],_::_,h=>by simp[H2]at h
 |_::_,[],h=>by simp[H2]at h
 |f::fs,(o,n)::r,h=>by
  simp only[H2]at h;have ih:=Aeo w fs r h.2.2;obtain ⟨ix,h4,h5⟩:∃ix,P.info? f.type=some ix∧ix.size=n:=by
   have h3:=h.2.1;cases hh:P.info? f.type with
   |none=>rw[hh]at h3;cases h3
   |some ix=>rw[hh]at h3;exact⟨ix,rfl,by simpa using h3⟩
  simp only[List.mapM_cons,Sem.run_bind,sizeOf,typeInfo,run_program,Result.andThen_ok,h4,Sem.run_pure,h5,h.1]at ih⊢;rw[ih];simp
def Atm{P:Program}(Γ:Ty P){o:Oper}{s:SS}{t:TypeId}{ti:TI}{fs:List (Nat×Nat)}{ps:List (Nat×Operand)}{out:List SV}(h:o.op=.build t ps.toArray)(ht:Γ.get t=some ti)(hk:ti.k=.struct fs)(h1:Ace ti.zero=true)(hf:Af9 fs (ti.zero.map .val) (ps.map λp=>(p.1,ev s p.2))=some out):Good P o s ⟨.agg out,[],[]⟩ :=
 Good.pure λκ a w _ hr _=>by
  obtain ⟨d,info,z,k1,k2,k3,k4,k5,k6⟩:=Γ.ok t ti ht;rw[hk]at k2;simp only[TK.ok]at k2;obtain ⟨fa,rfl,k2⟩:=k2;have hops:∀ p∈ps,Rd κ w (ev s p.2) (a.eval p.2):=λ p hp=>hr p.2 (by
   simp only[h,Op.operands];simp only[List.mem_toArray,yS];exact⟨p,hp,E⟩)
  obtain ⟨r,r1,r2,r3⟩:=Aln (κ:=κ) (w:=w) (a:=a) ps _ out z.cells (by rw[k6];exact Aah _) (by rw[k6];exact Uu h1) hops hf;have bh:(fa.mapM (λf=>do pure (f.offset,←sizeOf f.type)):Sem (Array (Nat×Nat))).run P w=.ok fs.toArray w:=by
   rw[Array.mapM_eq_mapM_toList];simp only[Sem.run_map,Aeo w _ _ k2,Result.andThen_ok]
  refine⟨.agg r,?_,?_⟩
  ·have hfun:(λ(i:Nat)=>fs.toArray[i]?)=(λ(i:Nat)=>fs[i]?):=by funext i;simp
   simp only[execOp,h,Sem.run_bind,Instr.build,zeroValue,typeInfo,run_program,Result.andThen_ok,k3,k5,Sem.run_pure,run_underlying k1,bh,hfun,List.map_toArray];rw[r1];simp
  ·simp only[Rd];exact⟨r.toList,by simp,r3,r2⟩
def Mq:Nat→List (Nat×Operand)→Option (List Operand)
 |_,[]=>some []
 |k,(i,x)::r=>bif Nat.beq i k then (Mq (k+1) r).map (x::·) else none
def Ab2:∀(ps:List (Nat×Operand)) (k:Nat) (xs:List Operand),Mq k ps=some xs→ps=(xs.zipIdx k).map λp=>(p.2,p.1)
 |[],k,xs,h=>by simp only[Mq,Option.some.injEq]at h;subst h;rfl
 |(i,x)::r,k,xs,h=>by
  simp only[Mq,uA]at h;split at h
  ·rename_i hb;have:=yK hb;subst this;cases hs:Mq (i+1) r with
   |none=>rw[hs]at h;cases h
   |some ys=>
    rw[hs]at h;simp only[uM,Option.some.injEq]at h;subst h;simp[List.zipIdx_cons,Ab2 r _ ys hs]
  ·cases h
def App(sz:Nat):∀(vs:List Value) (k:Nat) (cs:Array Value),cs.size=(k+vs.length)*sz→(∀v∈vs,v.cells.size=sz) →
  ∃r:Array Value,Instr.fill (λi=>some (i*sz,sz)) cs ((vs.zipIdx k).map λp=>(p.2,p.1))=some r∧r.toList=cs.toList.take (k*sz)++vs.flatMap (·.cells.toList)
 | [],k,cs,h,_=>⟨cs,by simp[Instr.fill],by
   simp only[List.flatMap_nil,xC];rw[xK];simp[h]⟩
 |v::vs,k,cs,h,hv=>by
  have bg:=hv v y_;have e1:(k+(v::vs).length)*sz=k*sz+sz+vs.length*sz:=by
   simp only[yL,xI,wL];omega
  have m8:k*sz+v.cells.size≤cs.size:=by rw[h,e1,bg];omega
  have gu:=Ajj v (k*sz) cs m8;have xj:(v.cells.zipIdx.foldl (λcs (c,j)=>cs.setIfInBounds (k*sz+j) c) cs).size=cs.size:=by
   rw[←wT,gu,Cg,wT]
  obtain ⟨r,r1,r2⟩:=App sz vs (k+1) (v.cells.zipIdx.foldl (λ cs (c,j)=>cs.setIfInBounds (k * sz+j) c) cs) (by
   rw[xj,h,e1];simp only[xI,wL]) (λ u hu=>hv u (by simp[hu]))
  refine⟨r,?_,?_⟩
  ·simp only[List.zipIdx_cons,xV,Instr.fill];rw[zD]
   ·exact r1
   ·simp only[yM,zJ,uC];exact⟨by simpa using bg,by omega⟩
  ·rw[r2,gu,Oj _ _ _ (by simpa using m8)];have:(k+1)*sz=(cs.toList.take (k*sz)++v.cells.toList).length:=by
    rw[zW,yA,wT,wT,bg,xI,wL];omega
   rw[this,uJ y_,xK (yG _),vI,xJ]
def Apo{sz:Nat}:∀(vs:List Value) (i j:Nat),(∀v∈vs,v.cells.size=sz)→j<sz→∀u,vs[i]? = some u→(vs.flatMap (·.cells.toList))[i*sz+j]? = u.cells[j]?
 |[],i,j,_,_,u,h=>by simp at h
 |v::vs,0,j,hv,hj,u,h=>by
  simp only[tG,Option.some.injEq]at h;subst h;have:=hv v y_;rw[vI,Nat.zero_mul,wE,xR (by simpa [this] using hj)];simp
 |v::vs,i+1,j,hv,hj,u,h=>by
  have h0:=hv v y_;rw[vI,wG (by simp only[wT,h0,xI,wL];omega)];have:=Apo vs i j (λx hx=>hv x (by simp[hx])) hj u (by simpa using h);rw[←this];congr 1;simp only[wT,h0,xI,wL];omega
def Aiy(sz:Nat):List SV→Bool
 |[]=>true
 |x::l=>x.boxed&&x.data&&Nat.beq (cellsOf x).length sz&&Aiy sz l
def Aa6{sz:Nat}:∀{l:List SV} {i:Nat} {x:SV},Aiy sz l=true→If l i=some x→x.boxed=true∧x.data=true∧(cellsOf x).length=sz
 |[],i,x,_,h=>by cases i<;>simp[If]at h
 |y::l,0,x,h,h'=>by
  simp only[Aiy,zE]at h;simp only[If,Option.some.injEq]at h';subst h';exact⟨h.1.1.1,h.1.1.2,yK h.1.2⟩
 |y::l,i+1,x,h,h'=>by
  simp only[Aiy,zE]at h;exact Aa6 h.2 h'
def Ad1{α:Type 1}:∀{l:List α} {i:Nat} {x:α},If l i=some x→i<l.length
 |[],i,x,h=>by cases i<;>simp[If]at h
 |_::l,0,x,_=>by simp
 |_::l,i+1,x,h=>by have:=Ad1 (l:=l) (i:=i) h;simp;omega
def Va{α:Type 1}:∀{l:List α} {i:Nat},i<l.length→∃x,If l i=some x
 |[],i,h=>by simp at h
 |x::l,0,_=>⟨x,rfl⟩
 |_::l,i+1,h=>Va (l:=l) (by simpa using h)
def Adn{P:Program}(Γ:Ty P){o:Oper}{s:SS}{t:TypeId}{ti:TI}{et:TypeId}{sz eb len:Nat}{ez:List Value}{ps:List (Nat×Operand)}{xs:List Operand}{d:Nat}(h:o.op=.buildSlice t len ps.toArray)(hd:s.h d=.fresh)(ht:Γ.get t=some ti)(hk:ti.k=.slice et sz eb ez)(hq:Mq 0 ps=some xs)(hlen:xs.length=len)(hbig:len*sz≤16777216)(ar:Aiy sz (xs.map (ev s))=true):Good P o s ⟨.osl d,[],[(d,.lit sz (xs.map (ev s)))]⟩ :=
 Zs hd λκ a w hi hr _ hn=>by
  have ov:=Ab2 ps 0 xs hq;obtain ⟨hu,i,z,q1,q2,q3,q4,q5⟩:=Cq Γ ht hk;have hops:∀ x∈xs,Rd κ w (ev s x) (a.eval x):=λ x hx=>hr x (by
   simp only[h,Op.operands,ov];simp only[List.mem_toArray,yS];obtain ⟨j,hj,rfl⟩:=yY.1 hx;exact⟨(j,xs[j]),⟨(xs[j],j),by rw[tE];simp[hj],E⟩,E⟩)
  have vv:RdL κ w (xs.map (ev s)) (xs.map a.eval):=O2 xs hops;have ta:∀j x,If (xs.map (ev s)) j=some x→∃v,(xs.map a.eval)[j]? = some v∧Rd κ w x v∧v.cells.size=sz∧Ones v.cells.toList:=λj x hj=>by
   obtain ⟨v,h1,h2⟩:=vv.get hj;obtain ⟨c1,c2,c3⟩:=Aa6 ar hj;obtain ⟨e1,e2⟩:=h2.cells c1;exact⟨v,h1,h2,by rw[←c3,←e2.length];simp,e1⟩
  have lc:∀v∈xs.map a.eval,v.cells.size=sz:=λv hv=>by
   obtain ⟨j,hj,rfl⟩:=yY.1 hv;obtain ⟨x,hx⟩:=Va (l:=xs.map (ev s)) (i:=j) (by simpa using hj);obtain ⟨v',h1,_,h2,_⟩:=ta j x hx;rw[zT hj]at h1;simp only[Option.some.injEq]at h1;rw[h1];exact h2
  generalize bu:(Array.range (len*sz)).map ((if len*sz=0 then #[] else z.cells)[·%(if len*sz=0 then #[] else z.cells).size]!)=z0;have hz0s:z0.size=(0+(xs.map a.eval).length)*sz:=by rw[←bu];simp[hlen]
  obtain ⟨r,r1,r2⟩:=App sz (xs.map a.eval) 0 z0 hz0s lc;have il:r.toList=(xs.map a.eval).flatMap (·.cells.toList):=by rw[r2];simp
  refine⟨.slice (some ⟨w.heap.size,0,none⟩) len len,w.alloc (.cells r et),.row w.heap.size len len,?_,Grew.alloc w _,?_,?_⟩
  ·have hp:(ps.toArray.map λ(p:Nat×Operand)=>(p.1,a.eval p.2)).toList=((xs.map a.eval).zipIdx 0).map λp=>(p.2,p.1):=by
    rw[ov];simp only[List.map_toArray,List.map_map,List.zipIdx_map];rfl
   have xk:¬(16777216<len*sz):=by omega
   simp only[execOp,h,Sem.run_bind,Instr.buildSlice,run_underlying hu,Result.andThen_ok,sizeOf,typeInfo,run_program,q1,Sem.run_pure,q2];rw[zD (by simpa using xk)];by_cases h0:len*sz=0
   ·rw[zG h0];simp only[zG h0]at bu;simp only[Sem.run_bind,Sem.run_pure,Result.andThen_ok,bu,hp,r1,newRow,run_newObj];rfl
   ·rw[zD h0];simp only[zD h0]at bu;simp only[Sem.run_bind,zeroValue,typeInfo,run_program,Result.andThen_ok,q1,Sem.run_pure,q4,bu,hp,r1,newRow,run_newObj];rfl
  ·intro b hb;simp only[Ent.block?,Option.some.injEq]at hb;subst hb;simp
  ·intro st;refine⟨by simp[Rd,Az],w.heap.size,len,r.toList,et,(0,0),by simp[Az,hlen],?_,NoFr.zero _,?_,by simp[hlen],?_⟩
   ·rw[heap_alloc_new]
   ·have:=r2;have h9:r.toList.length=len*sz:=by
     rw[il];have:∀vs:List Value,(∀v∈vs,v.cells.size=sz)→(vs.flatMap (·.cells.toList)).length=vs.length*sz:=by
      intro vs
      induction vs with
      |nil=>simp
      |cons v vs ih=>
       intro hv;rw[vI,zW,ih (λu hu=>hv u (by simp[hu])),wT,hv v y_,yL,xI,wL];omega
     rw[this _ lc];simp[hlen]
    omega
   ·intro j x hx;obtain ⟨v,h1,h2,h3,h4⟩:=ta j x hx;have hj:j<xs.length:=by have:=Ad1 hx;simpa using this
    obtain ⟨c1,c2,c3⟩:=Aa6 ar hx;refine⟨by simpa using hj,v,RdD.keep st.keeps _ _ (Rd.data _ _ c2 h2),h3,h4,λm hm=>?_⟩;rw[il];exact Apo _ j m lc hm v h1
def Aes{α:Type}{e:α→SV}{l:List α}(i:Nat)(h:i<l.length):∃x,rowF e l i x:=⟨_,h,rfl⟩
inductive AppBase(s:SS)(sz:Nat):SV→Option Nat→Nat→(Nat→SV→Prop)→Prop
 |nil:AppBase s sz (.val (.slice none 0 0)) none 0 (λ_ _=>False)
 |row {k:Nat} {α:Type} {e:α→SV} {l:List α} (h:s.h k=.row sz e l):AppBase s sz (.osl k) (some k) l.length (rowF e l)
 |lit {k:Nat} {l:List SV} (h:s.h k=.lit sz l):AppBase s sz (.osl k) (some k) l.length (Ahm l)
inductive AppSrc(s:SS)(sz:Nat):SV→List Nat→Nat→(Nat→SV→Prop)→Prop
 |sl {α:Type} {e:α→SV} {l:List α}:AppSrc s sz (.sl sz e l) [] l.length (rowF e l)
 |row {k:Nat} {α:Type} {e:α→SV} {l:List α} (h:s.h k=.row sz e l):AppSrc s sz (.osl k) [k] l.length (rowF e l)
 |lit {k:Nat} {l:List SV} (h:s.h k=.lit sz l):AppSrc s sz (.osl k) [k] l.length (Ahm l)
 |nil:AppSrc s sz (.val (.slice none 0 0)) [] 0 (λ_ _=>False)
theorem AppBase.base{s:SS}{sz:Nat}{x:SV}{k:Option Nat}{n:Nat}{f:Nat→SV→Prop}(h:AppBase s sz x k n f){κ:Ka}{w:World}{v:Value}(hr:Rd κ w x v)(ho:∀j,k=some j→ObOK κ w j (s.h j)):Base κ w v n sz f k:=by
 cases h with
 |nil=>exact⟨hr.val,rfl⟩
 | @row k α e l h=>
  have h1:=ho k rfl;rw[h]at h1;rcases h1 with ⟨h2,rfl⟩|h2
  ·simp only[Rd,h2]at hr;exact .inl ⟨h2,E,hr⟩
  ·obtain ⟨b,cap,h3,h4⟩:=h2.src Aes;simp only[Rd,h3]at hr;exact .inr ⟨h2,Aes,b,cap,h3,hr⟩
 | @lit k l h=>
  have h1:=ho k rfl;rw[h]at h1;have h2:RowAt κ w k sz l.length (Ahm l):=h1;obtain ⟨b,cap,h3,h4⟩:=h2.src (λi hi=>Va hi);simp only[Rd,h3]at hr;exact .inr ⟨h2,λi hi=>Va hi,b,cap,h3,hr⟩
theorem AppSrc.src{s:SS}{sz:Nat}{x:SV}{ks:List Nat}{n:Nat}{f:Nat→SV→Prop}(h:AppSrc s sz x ks n f){κ:Ka}{w:World}{v:Value}(hr:Rd κ w x v)(ho:∀j∈ks,ObOK κ w j (s.h j)):Src κ w v n sz f:=by
 cases h with
 |sl=>exact hr.src
 |nil=>exact .inl ⟨rfl,λ_ _ h=>h,none,0,hr.val⟩
 | @row k α e l h=>
  have h1:=ho k y_;rw[h]at h1;rcases h1 with ⟨h2,rfl⟩|h2
  ·simp only[Rd,h2]at hr;exact .inl ⟨rfl,λi x hx=>(by obtain ⟨h,_⟩:=hx;simp at h),none,0,hr⟩
  ·obtain ⟨b,cap,h3,h4⟩:=h2.src Aes;simp only[Rd,h3]at hr;subst hr;exact h4
 | @lit k l h=>
  have h1:=ho k y_;rw[h]at h1;have h2:RowAt κ w k sz l.length (Ahm l):=h1;obtain ⟨b,cap,h3,h4⟩:=h2.src (λi hi=>Va hi);simp only[Rd,h3]at hr;subst hr;exact h4
def Tj(k:Option Nat)(d:Nat)(ob:Ob):List (Nat×Ob):=match k with
 |some k=>[(k,.non),(d,ob)]
 |none=>[(d,ob)]
def Acr{P:Program}(Γ:Ty P){o:Oper}{s:SS}{t:TypeId}{ti:TI}{et:TypeId}{sz eb n m:Nat}{ez:List Value}{x y:Operand}{d:Nat}{k:Option Nat}{ks:List Nat}{f g:Nat→SV→Prop}{ob:Ob}(h:o.op=.call ⟨.builtin .append,#[x,y],#[t,t]⟩)(hd:s.h d=.fresh)(ht:Γ.get t=some ti)(hk:ti.k=.slice et sz eb ez)(nu:ez.length=sz)(hb:AppBase s sz (ev s x) k n f)(hs:AppSrc s sz (ev s y) ks m g)(m9:∀j,k=some j→j≠d)(cx:(n+m)*eb≤140737488355328)(rf:n+m≤9223372036854775807)(cj:∀κ w,((κ d=.nil∧n+m=0)∨RowAt κ w d sz (n+m) (Azg n f g))→ObOK κ w d ob):Good P o s ⟨.osl d,ks,Tj k d ob⟩:=by
 intro κ a w hi hr ho N Q hN;have h1:=hr x (by simp[h,Op.operands,Call.operands]);have h2:=hr y (by simp[h,Op.operands,Call.operands]);have kl:∀j,j∈(Up.mk (.osl d) ks (Tj k d ob)).ws↔(k=some j∨j=d):=by
  intro j;cases k<;>simp[Up.ws,Tj,eq_comm]
 have a6:κ d=.new:=by have:=ho d (.inr ((kl d).2 (.inr rfl)));rwa [hd]at this
 obtain ⟨hu,i,z,q1,q2,q3,q4,q5⟩:=Cq Γ ht hk;have q9:z.cells.size=sz:=by rw[←nu,←q5];simp
 obtain ⟨v',w',κ',r1,r2,r3,r4,r5⟩:=Aql (P:=P) (ty:=o.type) hi hu q1 q4 q2 q9 a6 (hb.base h1 (λj hj=>ho j (.inr ((kl j).2 (.inl hj))))) (hs.src h2 (λj hj=>ho j (.inl hj))) rf (by rw[q3];exact cx);have au:(execOp a.eval o).run P w=.ok (.value v') w':=by
  simp[execOp,h,resolve,invoke,builtin,r1]
 simp only[Oper.wp,au,Oper.upon];refine hN v' κ' w' (r2.weaken (λj hj=>(kl j).2 hj)) r3 r4 (λp hp=>?_);have gv:=cj κ' w' r5;cases k with
 |none=>
  simp only[Tj,yB]at hp;subst hp;exact gv
 |some k=>
  simp only[Tj,yH,xX,vZ]at hp;rcases hp with rfl|rfl
  ·trivial
  ·exact gv
def A37{α:Type}{e:α→SV}{l:List α}{κ:Ka}{w:World}{d sz n m:Nat}{f g:Nat→SV→Prop}(h:(κ d=.nil∧n+m=0)∨RowAt κ w d sz (n+m) (Azg n f g))(hl:l.length=n+m)(hf:∀i x,rowF e l i x→Azg n f g i x):ObOK κ w d (.row sz e l):=by
 rcases h with ⟨h1,h2⟩|⟨b,cap,cs,T,fr,e1,e2,e3,e4,e5,e6⟩
 ·exact .inl ⟨h1,zZ q_⟩
 ·exact .inr ⟨b,cap,cs,T,fr,by rw[hl];exact e1,e2,e3,e4,by omega,λi x hx=>by rw[hl];exact e6 i x (hf i x hx)⟩
def A0x{α:Type}{e:α→SV}{l m:List α}{f g:Nat→SV→Prop}(h1:∀i x,rowF e l i x→f i x)(h2:∀i x,rowF e m i x→g i x)(i:Nat)(x:SV)(h:rowF e (l++m) i x):Azg l.length f g i x:=by
 obtain ⟨hi,rfl⟩:=h;by_cases hl:i<l.length
 ·exact .inl ⟨hl,h1 i _ ⟨hl,by rw[yT hl]⟩⟩
 ·have ny:l.length≤i:=by omega
  exact .inr ⟨ny,h2 _ _ ⟨by simp at hi;omega,by rw[xP ny]⟩⟩
def getI_map{α:Type}{e:α→SV}:∀{l:List α} {i:Nat} (h:i<l.length),If (l.map e) i=some (e l[i])
 |[],i,h=>by simp at h
 |x::l,0,_=>rfl
 |_::l,i+1,h=>getI_map (l:=l) (i:=i) (by simpa using h)
def Qm{α:Type}{e:α→SV}{l:List α}{svs:List SV}(h:l.map e=svs)(i:Nat)(x:SV)(hx:rowF e l i x):Ahm svs i x:=by
 obtain ⟨hi,rfl⟩:=hx;subst h;exact getI_map hi
def Ce{P:Program}(Γ:Ty P){o:Oper}{s:SS}{t:TypeId}{ti:TI}{et:TypeId}{sz eb:Nat}{ez:List Value}{x y:Operand}{d:Nat}{ik ik':IntKind}{n:Nat}{α:Type}(e:α→SV)(z:α)(h:o.op=.makeSlice t x y)(hd:s.h d=.fresh)(ht:Γ.get t=some ti)(hk:ti.k=.slice et sz eb ez)(nu:ez.length=sz)(h1:Ace ez=true)(hx:ev s x=.val (.int ik n))(hy:ev s y=.val (.int ik' n))(cx:n*eb≤281474976710656)(rf:n≤9223372036854775807)(hz:cellsOf (e z)=ez.map .val)(wk:(e z).boxed=true)(wm:(e z).data=true):Good P o s ⟨.osl d,[],[(d,.row sz e (List.replicate n z))]⟩ :=
 Zs hd λκ a w hi hr _ hn=>by
  have r1:=hr x (by simp[h,Op.operands]);have r2:=hr y (by simp[h,Op.operands]);rw[hx]at r1;rw[hy]at r2;obtain ⟨hu,i,zv,q1,q2,q3,q4,q5⟩:=Cq Γ ht hk;have q9:zv.cells.size=sz:=by rw[←nu,←q5];simp
  have sx:(i.bytes:Int)*(n:Int)≤281474976710656:=by
   have:((i.bytes*n:Nat):Int)≤281474976710656:=by rw[q3,vB];omega
   rwa [Int.natCast_mul]at this
  have hm:=run_make (P:=P) w t et i zv hu q1 q4 ik ik' n n q_ (xU _) sx q_;simp only[zU]at hm;refine⟨.slice (some ⟨w.heap.size,0,none⟩) n n,w.alloc (.cells (madeCells zv.cells (n*i.size)) et),.row w.heap.size n n,?_,Grew.alloc w _,?_,?_⟩
  ·simp[execOp,h,r1.val,r2.val,hm]
  ·intro b hb;simp only[Ent.block?,Option.some.injEq]at hb;subst hb;simp
  ·intro st;refine⟨by simp[Rd,Az],.inr ⟨w.heap.size,n,(madeCells zv.cells (n*i.size)).toList,et,(0,0),by simp[Az],?_,NoFr.zero _,?_,by simp,?_⟩⟩
   ·rw[heap_alloc_new]
   ·simp[size_madeCells,q2]
   ·rintro j y ⟨hj,rfl⟩;have ou:j<n:=by simpa using hj
    obtain ⟨u,u1,u2⟩:=Rd.of_cells (κ:=Ec κ d (.row w.heap.size n n)) (w:=w.alloc (.cells (madeCells zv.cells (n*i.size)) et)) wk (Uu h1) (by rw[hz];exact Aah _);rw[List.getElem_replicate];have hus:u.cells.size=sz:=by rw[←wT,u2,nu]
    refine⟨by simpa using ou,u,Rd.data _ _ wm u1,hus,by rw[u2];exact Uu h1,λm hm=>?_⟩;have ab:j*sz+m<n*sz:=by
     have:(j+1)*sz≤n*sz:=yX sz q_;rw[xI,wL]at this;omega
    have hmod:(j*sz+m)%zv.cells.size=m:=by rw[q9,tJ,Nat.add_mul_mod_self_right];exact xH hm
    rw[←vK,u2,←q5];simp only[madeCells,q2,Array.toList_map,Array.toList_range,uK,vW ab,uM,hmod];rw[vK,vY q_];simp[q9,hm]
def A0n{κ:Ka}{w:World}{sz:Nat}{α:Type}{e:α→SV}{l:List α}{lo hi:Nat}{ad:Option Addr}{cap:Nat}(h:Rd κ w (.sl sz e l) (.slice ad l.length cap))(h1:lo≤hi)(h2:hi≤l.length):Rd κ w (.sl sz e ((l.take hi).drop lo)) (.slice (if cap=lo then ad else ad.map (·.add (lo*sz))) (hi-lo) (cap-lo)):=by
 simp only[Rd,RdD]at h⊢;by_cases he:lo=hi
 ·subst he;exact .inl ⟨by rw[List.drop_eq_nil_iff];simp;omega,if cap=lo then ad else ad.map (·.add (lo*sz)),cap-lo,by simp⟩
 ·rcases h with ⟨rfl,_⟩|⟨b,off,dx,h3,h0,h4,h5,h6⟩
  ·simp at h2;omega
  ·cases h3;have gw:cap≠lo:=by omega
   refine .inr ⟨b,off+lo*sz,cap-lo,?_,by simp;omega,h4,h5,λi hi'=>?_⟩
   ·rw[zD gw];simp only[uM,Addr.add_lit];congr 1;simp;omega
   ·have ab:lo+i<l.length:=by simp at hi';omega
    obtain ⟨u,h7,h8⟩:=h6 (lo+i) ab;refine⟨u,?_,?_⟩
    ·rw[vT,wA];exact h7
    ·rw[show off+lo*sz+i*sz=off+(lo+i)*sz from by rw[xI];omega];exact h8
def Jl{P:Program}(w:World){len cap lo hi:Nat}{lo' hi':Option Value}(jw:lo'=none∧lo=0∨∃k,lo'=some (.int k lo))(kt:hi'=none∧hi=len∨∃k,hi'=some (.int k hi))(h1:lo≤hi)(h2:hi≤cap):(Instr.sliceBounds true len cap lo' hi' none).run P w=.ok (lo,hi,cap) w:=by
 rcases jw with ⟨rfl,rfl⟩|⟨k,rfl⟩<;>rcases kt with ⟨rfl,rfl⟩|⟨k',rfl⟩<;>simp[Instr.sliceBounds,Instr.sliceBound,asIntOf,h1,h2]
def cap_ge{κ:Ka}{w:World}{sz:Nat}{α:Type}{e:α→SV}{l:List α}{v:Value}(h:Rd κ w (.sl sz e l) v):∃ad cap,v=.slice ad l.length cap∧l.length≤cap:=by
 simp only[Rd,RdD]at h;rcases h with ⟨rfl,ad,cap,h⟩|⟨b,off,cap,h,h0,_⟩
 ·exact⟨ad,cap,h,vA _⟩
 ·exact⟨_,cap,h,h0⟩
def BoundIs(s:SS)(x:Option Operand)(r6 n:Nat):Prop:=(x=none∧n=r6)∨∃y k,x=some y∧ev s y=.val (.int k n)
theorem BoundIs.val{κ:Ka}{w:World}{s:SS}{a:Act}{x:Option Operand}{r6 n:Nat}(h:BoundIs s x r6 n)(hr:∀y,x=some y→Rd κ w (ev s y) (a.eval y)):(x.map a.eval=none∧n=r6)∨∃k,x.map a.eval=some (.int k n):=by
 rcases h with ⟨rfl,h⟩|⟨y,k,rfl,h⟩
 ·exact .inl ⟨E,h⟩
 ·have:=hr y rfl;rw[h]at this;exact .inr ⟨k,by simp[this.val]⟩
def Dt{P:Program}(Γ:Ty P){o:Oper}{s:SS}{t:TypeId}{ti:TI}{et:TypeId}{sz eb lo hi:Nat}{ez:List Value}{x:Operand}{lx hx:Option Operand}{α:Type}{e:α→SV}{l:List α}(h:o.op=.slice t x lx hx none)(ht:Γ.get t=some ti)(hk:ti.k=.slice et sz eb ez)(mo:ev s x=.sl sz e l)(jw:BoundIs s lx 0 lo)(kt:BoundIs s hx l.length hi)(h1:lo≤hi)(h2:hi≤l.length):Good P o s ⟨.sl sz e ((l.take hi).drop lo),[],[]⟩ :=
 Good.pure λκ a w _ hr _=>by
  have r1:=hr x (by simp[h,Op.operands]);rw[mo]at r1;obtain ⟨hu,i,zv,q1,q2,q3,q4,q5⟩:=Cq Γ ht hk;obtain ⟨ad,cap,e1,e2⟩:=cap_ge r1;have b1:=jw.val (a:=a) (λy hy=>hr y (by simp[h,Op.operands,hy]));have b2:=kt.val (a:=a) (λy hy=>hr y (by simp[h,Op.operands,hy]));rw[e1]at r1;have hb:=Jl (P:=P) w (len:=l.length) (cap:=cap) b1 b2 h1 q_;refine⟨_,?_,A0n r1 h1 h2⟩;simp[execOp,h,e1,Instr.sliceAt,Instr.slice,run_underlying hu,hb,sizeOf,typeInfo,q1,q2]
def Zr{P:Program}(Γ:Ty P){o:Oper}{s:SS}{t:TypeId}{ti:TI}{lo hi:Nat}{x:Operand}{lx hx:Option Operand}{b:ByteArray}(h:o.op=.slice t x lx hx none)(ht:Γ.get t=some ti)(hk:ti.k=.string)(mo:ev s x=.val (.string b))(jw:BoundIs s lx 0 lo)(kt:BoundIs s hx b.size hi)(h1:lo≤hi)(h2:hi≤b.size):Good P o s ⟨.val (.string (b.extract lo hi)),[],[]⟩ :=
 Good.pure λκ a w _ hr _=>by
  have r1:=hr x (by simp[h,Op.operands]);rw[mo]at r1;obtain ⟨d,info,z,k1,k2,k3,k4,k5,k6⟩:=Γ.ok t ti ht;rw[hk]at k2;simp only[TK.ok]at k2;subst k2;have b1:=jw.val (a:=a) (λy hy=>hr y (by simp[h,Op.operands,hy]));have b2:=kt.val (a:=a) (λy hy=>hr y (by simp[h,Op.operands,hy]));have hb:(Instr.sliceBounds false b.size b.size (lx.map a.eval) (hx.map a.eval) none).run P w=.ok (lo,hi,b.size) w:=by
   rcases b1 with ⟨c1,rfl⟩|⟨k,c1⟩<;>rcases b2 with ⟨c2,rfl⟩|⟨k',c2⟩<;>rw[c1,c2]<;>simp[Instr.sliceBounds,Instr.sliceBound,asIntOf,h1,h2]
  refine⟨.string (b.extract lo hi),?_,by simp only[Rd]⟩;simp[execOp,h,r1.val,Instr.sliceAt,Instr.slice,run_underlying k1,hb]
def Afz{P:Program}(Γ:Ty P){o:Oper}{s:SS}{t:TypeId}{ti:TI}{et:TypeId}{sz eb hi k d:Nat}{ez:List Value}{x:Operand}{lx hx:Option Operand}{α:Type}{e:α→SV}{l:List α}(h:o.op=.slice t x lx hx none)(hd:s.h d=.fresh)(ht:Γ.get t=some ti)(hk:ti.k=.slice et sz eb ez)(mo:ev s x=.osl k)(ck:k≠d)(fx:s.h k=.row sz e l)(jw:BoundIs s lx 0 0)(kt:BoundIs s hx l.length hi)(h2:hi≤l.length):Good P o s ⟨.osl d,[],[(k,.non),(d,.row sz e (l.take hi))]⟩:=by
 intro κ a w hinv hr ho N Q hN;have r1:=hr x (by simp[h,Op.operands]);rw[mo]at r1;obtain ⟨hu,i,zv,q1,q2,q3,q4,q5⟩:=Cq Γ ht hk;have a6:κ d=.new:=by have:=ho d (.inr (by simp[Up.ws]));rwa [hd]at this
 have cj:=ho k (.inr (by simp[Up.ws]));rw[fx]at cj;have b1:=jw.val (a:=a) (λy hy=>hr y (by simp[h,Op.operands,hy]));have b2:=kt.val (a:=a) (λy hy=>hr y (by simp[h,Op.operands,hy]));rcases cj with ⟨e1,rfl⟩|⟨b,cap,cs,T,fr,e1,e2,e3,e4,e5,e6⟩
 ·simp only[Rd,e1]at r1;have hhi0:hi=0:=by simpa using h2
  subst hhi0;have hb:=Jl (P:=P) w (len:=0) (cap:=0) (hi:=0) (hi':=hx.map a.eval) b1 b2 (yG _) (yG _);have au:(execOp a.eval o).run P w=.ok (.value (.slice none 0 0)) w:=by
   simp[execOp,h,r1,Instr.sliceAt,Instr.slice,run_underlying hu,hb,sizeOf,typeInfo,q1]
  have st:=J9 (Lr hinv (some k)) (by show Ec κ k .dead d=.new;rw[B8 _ _ (Ne.symm ck)];exact a6) (e:=.nil) (Grew.refl w) (λb hb=>by cases hb);simp only[Oper.wp,au,Oper.upon];refine hN _ _ w ((((Ju (some k)).weaken (λj hj=>by simp only[Option.some.injEq]at hj;subst hj;simp[Up.ws])).trans (st.1.weaken (λj hj=>by subst hj;simp[Up.ws])))) st.2 (by simp[Rd,Az]) (λp hp=>?_);simp only[yH,xX,vZ]at hp;rcases hp with rfl|rfl
  ·trivial
  ·exact .inl ⟨Az _ _ _,by simp⟩
 ·simp only[Rd,e1]at r1;have hb:=Jl (P:=P) w (len:=l.length) (cap:=cap) b1 b2 (vA _) q_;have au:(execOp a.eval o).run P w=.ok (.value (.slice (some ⟨b,0,none⟩) hi cap)) w:=by
   simp only[execOp,h,r1,Instr.sliceAt,Instr.slice,Sem.run_bind,run_underlying hu,Result.andThen_ok,Option.map_none,hb,sizeOf,typeInfo,run_program,q1,Sem.run_pure];by_cases hc:cap=0<;>simp[hc,Addr.add]
  obtain ⟨st,inv⟩:=Qk (n':=hi) (w':=w) hinv e1 a6 rfl rfl rfl rfl (λ_ _=>rfl);simp only[Oper.wp,au,Oper.upon];refine hN _ _ w (st.weaken (λj hj=>by rcases hj with rfl|rfl<;>simp[Up.ws])) inv (by simp[Rd,Az]) (λp hp=>?_);simp only[yH,xX,vZ]at hp;rcases hp with rfl|rfl
  ·trivial
  ·have hlen:(l.take hi).length=hi:=by simp;omega
   refine .inr ⟨b,cap,cs,T,fr,by rw[hlen];exact Az _ _ _,e2,e3,e4,by omega,λi x hx=>?_⟩;obtain ⟨hi',rfl⟩:=hx;have gq:i<l.length:=by simp at hi';omega
   obtain ⟨h0,u,u1,u2⟩:=e6 i (e l[i]) ⟨gq,rfl⟩;refine⟨by simpa using hi',u,?_,u2⟩;rw[wA];exact RdD.keep st.keeps _ _ u1
def Lt{P:Program}{o:Oper}{s:SS}{op:BinOp}{t yt:TypeId}{x y:Operand}{m n:ByteArray}{u:Value}(h:o.op=.binOp op t x y yt)(hop:op≠.shl∧op≠.shr)(hx:ev s x=.val (.string m))(hy:ev s y=.val (.string n))(hr:∀w,(Op.stringOp op m n).run P w=.ok u w):Good P o s ⟨.val u,[],[]⟩ :=
 Good.pure λκ a w _ ie _=>by
  have h1:=ie x (by simp[h,Op.operands]);have h2:=ie y (by simp[h,Op.operands]);rw[hx]at h1;rw[hy]at h2;refine⟨u,?_,by simp[Rd]⟩;have hb:binOp op t (.string m) (.string n)=Op.stringOp op m n:=by cases op<;>simp[binOp]at hop⊢
  simp[execOp,h,h1.val,h2.val,eqGuard_at_string,hb,hr]
end Go.Sy
