/-
  Sy34 Sy35 Sy36 Sy37 Sy38 Z3 Z4 K27 K28 K29 K30 K31 K32 K33 K34 K35 K36 K37 K38 A7 D5 D6 K39 K40 K41 K42: parts of a proof, joined by program.
-/
import Derived.Test.YtmelpejjondedaaGreatW4
import Derived.Test.YtmelpejjondedaaGreatW3
import Derived.Laws.LoneSync
import Derived.Test.YtmelpejjondedaaGreatW5
namespace Go.Sy
theorem Aex {C:Cx} {kk:List KI} {s:SS} (q:Nat) (r:List Nat) {sz:Nat} {α:Type} {e:α→SV} {l:List α} (h:s.h q=.row sz e l) (hl:l≠[]) (hr:∀ i∈r,s.σ i=.osl q)
  (hg:∀ b cap,l.length≤cap→G C kk ⟨freezeσ s.σ (.val (.slice (some ⟨b,0,none⟩) l.length cap)) r,upd s.h q (.pin b l.length cap sz e l)⟩):G C kk s:=fun κ a w hs=>by
 have hob:=hs.obj q
 rw[h]at hob
 rcases hob with ⟨_,h1⟩ | hrow
 ·exact absurd h1 hl
 obtain ⟨b,cap,cs,T,fr,e1,e2,e3,e4,e5,e6⟩:=hrow
 refine hg b cap e5 κ a w ⟨hs.defers,hs.size,hs.inv,hs.ctx,fun i=>?_,fun j=>?_⟩
 ·refine freezeσ_ok r _ i (hs.slot i) (fun hi=>?_)
  have:=hs.slot i
  rw[hr i hi]at this
  simp only[Rd,e1]at this
  simp only[Rd]
  exact this
 ·show ObOK κ w j (upd s.h q _ j)
  by_cases hj:j=q
  ·subst hj;rw[A6];exact⟨e1,b,cap,cs,T,fr,e1,e2,e3,e4,e5,e6⟩
  ·rw[Bq _ _ hj];exact hs.obj j
theorem To {C:Cx} {kk:List KI} {s:SS} (q d:Nat) (r:List Nat) (m:Nat) {b n cap sz:Nat} {α:Type} {e:α→SV} {l:List α} (h:s.h q=.pin b n cap sz e l) (hd:s.h d=.fresh) (hm:m≤l.length)
  (hr:∀ i∈r,s.σ i=.val (.slice (some ⟨b,0,none⟩) m cap)) (hg:G C kk ⟨freezeσ s.σ (.osl d) r,upd (upd s.h q .non) d (.row sz e (l.take m))⟩):G C kk s:=fun κ a w hs=>by
 have hob:=hs.obj q
 rw[h]at hob
 have hnew:κ d=.new:=by have:=hs.obj d;rwa [hd]at this
 obtain ⟨e0,b',cap',cs,T,fr,e1,e2,e3,e4,e5,e6⟩:=hob
 rw[e0]at e1
 cases e1
 have hln:l.length≤n:=by
  by_cases h0:l.length=0
  ·omega
  ·have:=(e6 (l.length-1) _ ⟨by omega,rfl⟩).1
   omega
 obtain ⟨st,inv⟩:=I1 (n':=m) (w':=w) hs.inv e0 hnew rfl rfl rfl rfl (fun _ _=>rfl)
 have hlt:(l.take m).length=m:=by rw[List.length_take];omega
 refine hg _ a w ⟨hs.defers,hs.size,inv,hs.ctx.step inv st,fun j=>?_,fun j=>?_⟩
 ·refine freezeσ_ok r _ j (Rd.step st _ _ (hs.slot j)) (fun hj=>?_)
  have:=hs.slot j
  rw[hr j hj]at this
  simp only[Rd]at this
  simp[Rd,Ap,this]
 ·show ObOK _ w j (upd (upd s.h q .non) d _ j)
  by_cases hj:j=d
  ·subst hj;rw[A6]
   refine .inr ⟨b,cap,cs,T,fr,by rw[Ap,hlt],e2,e3,e4,by omega,fun i x hx=>?_⟩
   obtain ⟨hi,rfl⟩:=hx
   obtain ⟨_,u,q2,q3⟩:=e6 i (e l[i]) ⟨by omega,rfl⟩
   refine⟨hi,u,?_,q3⟩
   rw[List.getElem_take]
   exact RdD.keep st.keeps _ _ q2
  ·rw[Bq _ _ hj]
   by_cases hj2:j=q
   ·subst hj2;rw[A6];trivial
   ·rw[Bq _ _ hj2];exact ObOK.step st (fun e=>e.elim hj2 hj) _ (hs.obj j)
theorem Cg {P:Program} (Γ:Ty P) {o:Oper} {s:SS} {t:TypeId} {ti:TI} {et:TypeId} {sz eb b n cap lo hi:Nat} {ez:List Value} {x:Operand} {lx hx:Option Operand}
  (h:o.op=.slice t x lx hx none) (ht:Γ.get t=some ti) (hk:ti.k=.slice et sz eb ez) (hxe:ev s x=.val (.slice (some ⟨b,0,none⟩) n cap)) (hlo:BoundIs s lx 0 lo) (hhi:BoundIs s hx n hi) (h1:lo≤hi) (h2:hi≤cap) :
  Good P o s ⟨.val (.slice (some (if cap=lo then ⟨b,0,none⟩ else ⟨b,lo * sz,none⟩)) (hi-lo) (cap-lo)),[],[]⟩ :=
 Good.pure fun κ a w _ hr _=>by
  have r1:=hr x (by simp[h,Op.operands])
  rw[hxe]at r1
  obtain ⟨hu,i,zv,q1,q2,q3,q4,q5⟩:=Br Γ ht hk
  have b1:=hlo.val (a:=a) (fun y hy=>hr y (by simp[h,Op.operands,hy]))
  have b2:=hhi.val (a:=a) (fun y hy=>hr y (by simp[h,Op.operands,hy]))
  have hb:=D8 (P:=P) w (len:=n) (cap:=cap) b1 b2 h1 h2
  refine⟨.slice (some (if cap=lo then ⟨b,0,none⟩ else ⟨b,lo * sz,none⟩)) (hi-lo) (cap-lo),?_,by simp only[Rd]⟩
  by_cases hc:cap=lo
  ·subst hc
   simp[execOp,h,r1.val,Instr.sliceAt,Instr.slice,run_underlying hu,hb,sizeOf,typeInfo,q1]
  ·simp[execOp,h,r1.val,Instr.sliceAt,Instr.slice,run_underlying hu,hb,sizeOf,typeInfo,q1,q2,hc,Addr.add_lit]
theorem V3 {P:Program} (Γ:Ty P) {o:Oper} {s:SS} {t:TypeId} {ti:TI} {et:TypeId} {sz eb b n cap lo hi mm:Nat} {ez:List Value} {x:Operand} {lx hx mx:Operand} {k1 k2 k3:IntKind}
  (h:o.op=.slice t x (some lx) (some hx) (some mx)) (ht:Γ.get t=some ti) (hk:ti.k=.slice et sz eb ez) (hxe:ev s x=.val (.slice (some ⟨b,0,none⟩) n cap)) (hlo:ev s lx=.val (.int k1 lo)) (hhi:ev s hx=.val (.int k2 hi)) (hmx:ev s mx=.val (.int k3 mm))
  (h1:lo≤hi) (h2:hi≤mm) (h3:mm≤cap):Good P o s ⟨.top,[],[]⟩ :=
 Good.pure fun κ a w _ hr _=>by
  have r1:=hr x (by simp[h,Op.operands])
  have r2:=hr lx (by simp[h,Op.operands])
  have r3:=hr hx (by simp[h,Op.operands])
  have r4:=hr mx (by simp[h,Op.operands])
  rw[hxe]at r1
  rw[hlo]at r2
  rw[hhi]at r3
  rw[hmx]at r4
  obtain ⟨hu,i,zv,q1,q2,q3,q4,q5⟩:=Br Γ ht hk
  have hb:(Instr.sliceBounds true n cap (some (a.eval lx)) (some (a.eval hx)) (some (a.eval mx))).run P w=.ok (lo,hi,mm) w:=by
   rw[r2.val,r3.val,r4.val]
   simp[Instr.sliceBounds,Instr.sliceBound,asIntOf,h1,h2,h3]
  refine⟨.slice (some (if mm=lo then ⟨b,0,none⟩ else ⟨b,lo * sz,none⟩)) (hi-lo) (mm-lo),?_,by simp only[Rd,RdD]⟩
  by_cases hc:mm=lo
  ·subst hc
   simp[execOp,h,r1.val,Instr.sliceAt,Instr.slice,run_underlying hu,hb,sizeOf,typeInfo,q1]
  ·simp[execOp,h,r1.val,Instr.sliceAt,Instr.slice,run_underlying hu,hb,sizeOf,typeInfo,q1,q2,hc,Addr.add_lit]
theorem Ke {κ:Ka} {w w':World} {k b n cap:Nat} (hi:Inv κ w) (hk:κ k=.row b n cap) (hos:w'.os=w.os) (ht:w'.tape=w.tape) (ho:w'.output=w.output)
  (hs:w'.heap.size=w.heap.size) (hb:∀ i,i≠b→w'.heap[i]? = w.heap[i]?):Step (fun j=>j=k) κ w κ w'∧Inv κ w':=by
 have hkb:(κ k).block? = some b:=by rw[hk];rfl
 refine⟨⟨by omega,hos,ht,ho,E,fun c hm=>hb c (fun e=>hi.apart k b hkb (e ▸ hm)),fun c _ hn=>hb c (fun e=>hn (.inl ⟨k,e ▸ hkb⟩)),fun j c hj hjc=>hb c (fun e=>hj ?_),fun _ _=>rfl,fun _ _=>.inr (.inl E),fun _ h=>.inl h⟩,
  ⟨hi.inj,fun j c h=>by rw[hs];exact hi.bnd j c h,hi.apart,fun c h=>by rw[hs];exact hi.mbnd c h⟩⟩
 subst e
 exact hi.inj j k _ hjc hkb
theorem Zo {cs:List Value} {sz n:Nat} (h:∀ i,i<n→∃ u:Value,u.cells.size=sz∧Ones u.cells.toList∧∀ j,j<sz→cs[i * sz+j]? = u.cells[j]?) {p:Nat} (hp:p<n * sz) {v:Value} (hv:cs[p]? = some v):v.oneCell'=true:=by
 have h0:0<sz:=by
  rcases Nat.eq_zero_or_pos sz with rfl | h
  ·simp at hp
  ·exact h
 obtain ⟨u,h1,h2,h3⟩:=h (p / sz) (Nat.div_lt_of_lt_mul (by rw[Nat.mul_comm];exact hp))
 have h4:=h3 (p % sz) (Nat.mod_lt _ h0)
 rw[Nat.mul_comm,Nat.div_add_mod,hv]at h4
 obtain ⟨hl,he⟩:=Array.getElem?_eq_some_iff.1 h4.symm
 refine h2 v ?_
 rw[← he]
 exact Array.getElem_mem_toList hl
theorem Tf {P:Program} (Γ:Ty P) {o:Oper} {s:SS} (q:Nat) {t:TypeId} {ti:TI} {et:TypeId} {sz eb b n cap i j:Nat} {ez:List Value} {x y:Operand} {α:Type} {e:α→SV} {l:List α} {B:Option Addr} {c:Nat}
  (h:o.op=.call ⟨.builtin .append,#[x,y],#[t,t]⟩) (ht:Γ.get t=some ti) (hk:ti.k=.slice et sz eb ez) (hx:ev s x=.val (.slice (some ⟨b,0,none⟩) i cap))
  (hy:ev s y=.val (.slice B (n-j) c)) (hB:B=some (if cap=j then ⟨b,0,none⟩ else ⟨b,j * sz,none⟩)) (hob:s.h q=.pin b n cap sz e l) (hl:l.length=n) (hij:i≤j) (hj:j≤n) :
  Good P o s ⟨.val (.slice (some ⟨b,0,none⟩) (i+(n-j)) cap),[],[(q,.pin b n cap sz e (l.take i++l.drop j))]⟩:=by
 intro κ a w hinv hr ho N Q hN
 have r1:=hr x (by simp[h,Op.operands,Call.operands])
 have r2:=hr y (by simp[h,Op.operands,Call.operands])
 rw[hx]at r1
 rw[hy]at r2
 subst hB
 have hq:=ho q (.inr (by simp[Up.ws]))
 rw[hob]at hq
 obtain ⟨e0,b',cap',cs,T,fr,e1,e2,e3,e4,e5,e6⟩:=hq
 rw[e0]at e1
 cases e1
 obtain ⟨hu,ii,zv,q1,q2,q3,q4,q5⟩:=Br Γ ht hk
 have hall:∀ i,i<n→∃ u:Value,u.cells.size=sz∧Ones u.cells.toList∧∀ j,j<sz→cs[i * sz+j]? = u.cells[j]?:=fun i hi=>by
  obtain ⟨_,u,_,u2⟩:=e6 i (e l[i]) ⟨by omega,rfl⟩
  exact⟨u,u2⟩
 obtain ⟨news,hnews⟩:∃ news,news=(cs.drop (j * sz)).take ((n-j) * sz):=⟨_,rfl⟩
 have hmul:(n-j) * sz+j * sz=n * sz:=by rw[← Nat.add_mul];congr 1;omega
 have hnc:n * sz≤cap * sz:=Nat.mul_le_mul_right sz e5
 have hijs:i * sz≤j * sz:=Nat.mul_le_mul_right sz hij
 have hnl:news.length=(n-j) * sz:=by rw[hnews,List.length_take,List.length_drop];omega
 have hget:∀ p,p<(n-j) * sz→news[p]? = cs[j * sz+p]?:=fun p hp=>by
  rw[hnews,List.getElem?_take,if_pos hp,List.getElem?_drop]
 have hones:Ones news:=fun v hv=>by
  obtain ⟨p,hp,he⟩:=List.getElem_of_mem hv
  have h1:news[p]? = some v:=by rw[List.getElem?_eq_getElem hp,he]
  rw[hnl]at hp
  rw[hget p hp]at h1
  exact Zo hall qn h1
 obtain ⟨w',f1,f2,f3,f4,f5,f6,f7⟩:=B3 P b (i * sz) T fr news 0 cs w e2 e3 qn hones
 obtain ⟨st,inv⟩:=Ke hinv e0 f3 f4 f5 f6 f7
 have hroom:i+(n-j)≤cap:=by omega
 have hcell:∀ p v,cs[p]? = some v→w.cell? ⟨b,p,none⟩=some v:=fun p v hp=>by
  simp[World.cell?,e2,hp]
 have hc:(Builtin.firstCells sz (n-j) (.slice (some (if cap=j then ⟨b,0,none⟩ else ⟨b,j * sz,none⟩)) (n-j) c)).run P w=.ok news.toArray w:=by
  by_cases hcj:cap=j
  ·have h0:n-j=0:=by omega
   rw[if_pos hcj,h0]
   have h1:news=[]:=by rw[h0]at hnl;simpa using hnl
   rw[h1]
   exact run_firstCells_some (P:=P) w sz 0 ⟨b,0,none⟩ 0 c [] qy (fun j v hj=>by simp at hj)
  ·rw[if_neg hcj]
   refine run_firstCells_some (P:=P) w sz (n-j) ⟨b,j * sz,none⟩ (n-j) c news hnl (fun p v hp=>?_)
   rw[Addr.add_lit]
   have hlt:p<(n-j) * sz:=by
    rw[← hnl];exact(List.getElem?_eq_some_iff.1 hp).1
   rw[hget p hlt]at hp
   exact hcell _ _ hp
 have hrun:(execOp a.eval o).run P w=.ok (.value (.slice (some ⟨b,0,none⟩) (i+(n-j)) cap)) w':=by
  simp[execOp,h,resolve,invoke,builtin,Builtin.append_,r1.val,r2.val,run_underlying hu,sizeOf,typeInfo,q1,q2,Builtin.lenOf,hroom,hc,Addr.add_lit,f1]
 simp only[Oper.wp,hrun,Oper.upon]
 refine hN _ κ w' (st.weaken (fun k hk=>by subst hk;simp[Up.ws])) inv (by simp only[Rd]) (fun p hp=>?_)
 simp only[List.mem_singleton]at hp
 subst hp
 refine⟨e0,b,cap,_,T,fr,e0,f2,by rw[Bj];exact e3,by rw[Bj];exact e4,e5,?_⟩
 rintro k z ⟨hk0,rfl⟩
 have hset:=Hx cs news (i * sz+0)
 have hlen:(l.take i++l.drop j).length=i+(n-j):=by rw[List.length_append,List.length_take,List.length_drop];omega
 rw[hlen]at hk0
 by_cases hki:k<i
 ·obtain ⟨_,u,u1,u2,u3,u4⟩:=e6 k (e l[k]) ⟨by omega,rfl⟩
  have:(k+1) * sz≤i * sz:=Nat.mul_le_mul_right sz qn
  rw[Nat.add_mul,Nat.one_mul]at this
  refine⟨by omega,u,?_,u2,u3,fun p hp=>?_⟩
  ·rw[List.getElem_append_left (by rw[List.length_take];omega),List.getElem_take]
   exact RdD.keep st.keeps _ _ u1
  ·rw[hset _ qn,if_neg qn,u4 p hp]
 ·obtain ⟨_,u,u1,u2,u3,u4⟩:=e6 (j+(k-i)) (e l[j+(k-i)]) ⟨by omega,rfl⟩
  have hks:k * sz=i * sz+(k-i) * sz:=by rw[← Nat.add_mul];congr 1;omega
  have hjs:(j+(k-i)) * sz=j * sz+(k-i) * sz:=by rw[← Nat.add_mul]
  have:(k-i+1) * sz≤(n-j) * sz:=Nat.mul_le_mul_right sz qn
  rw[Nat.add_mul,Nat.one_mul]at this
  refine⟨by omega,u,?_,u2,u3,fun p hp=>?_⟩
  ·rw[List.getElem_append_right (by rw[List.length_take];omega),List.getElem_drop]
   have hidx:j+(k-(l.take i).length)=j+(k-i):=by rw[List.length_take];omega
   simp only[hidx]
   exact RdD.keep st.keeps _ _ u1
  ·rw[hset _ qn,if_pos qn,← u4 p hp,hjs]
   rw[show k * sz+p-(i * sz+0)=(k-i) * sz+p by omega,hget _ qn]
   congr 1
   omega
theorem Ia {P:Program} (Γ:Ty P) {o:Oper} {s:SS} (q:Nat) {t:TypeId} {ti:TI} {et:TypeId} {sz eb b n cap k m c:Nat} {ez:List Value} {x:Operand} {α:Type} {e:α→SV} {l:List α} {B:Option Addr}
  (h:o.op=.call ⟨.builtin .clear,#[x],#[t]⟩) (ht:Γ.get t=some ti) (hk:ti.k=.slice et sz eb ez) (hez:ez.length=sz) (hz1:∀ v∈ez,v.oneCell'=true) (hx:ev s x=.val (.slice B m c)) (hB:B=some (if cap=k then ⟨b,0,none⟩ else ⟨b,k * sz,none⟩))
  (hob:s.h q=.pin b n cap sz e l) (hkl:k≤l.length) (hm:k+m≤cap) :
  Good P o s ⟨.tup [],[],[(q,.pin b n cap sz e (l.take k))]⟩:=by
 intro κ a w hinv hr ho N Q hN
 have r1:=hr x (by simp[h,Op.operands,Call.operands])
 rw[hx]at r1
 subst hB
 have hq:=ho q (.inr (by simp[Up.ws]))
 rw[hob]at hq
 obtain ⟨e0,b',cap',cs,T,fr,e1,e2,e3,e4,e5,e6⟩:=hq
 rw[e0]at e1
 cases e1
 obtain ⟨hu,ii,zv,q1,q2,q3,q4,q5⟩:=Br Γ ht hk
 have hzs:zv.cells.size=sz:=by rw[← hez,← q5];simp
 have hlt:(l.take k).length=k:=by rw[List.length_take];omega
 by_cases hm0:m=0
 ·subst hm0
  have hrun:(execOp a.eval o).run P w=.ok (.value (.tuple #[])) w:=by
   simp[execOp,h,resolve,invoke,builtin,Builtin.clear_,r1.val,run_underlying hu]
  simp only[Oper.wp,hrun,Oper.upon]
  refine hN _ κ w (Step.refl _ κ w) hinv (by simp[Rd,RdL]) (fun p hp=>?_)
  simp only[List.mem_singleton]at hp
  subst hp
  refine⟨e0,b,cap,cs,T,fr,e0,e2,e3,e4,e5,?_⟩
  rintro p z ⟨hp0,rfl⟩
  rw[List.getElem_take]
  exact e6 p (e l[p]) ⟨by omega,E⟩
 obtain ⟨m,rfl⟩:∃ p,m=p+1:=⟨m-1,by omega⟩
 rw[if_neg qn]at r1
 obtain ⟨news,hnews⟩:∃ news,news=(Builtin.zeroCells zv.cells (m+1)).toList:=⟨_,rfl⟩
 have hnl:news.length=(m+1) * sz:=by rw[hnews,Array.length_toList,Mc,hzs]
 have hones:Ones news:=fun v hv=>by
  rw[hnews,Array.mem_toList_iff]at hv
  refine hz1 v ?_
  rw[← q5]
  simp only[Builtin.zeroCells,Array.mem_map,Array.mem_range]at hv
  obtain ⟨p,hp,rfl⟩:=hv
  have h0:0<zv.cells.size:=by
   rcases Nat.eq_zero_or_pos zv.cells.size with h | h
   ·rw[h]at hp;simp at hp
   ·exact h
  have hlt2:p % zv.cells.size<zv.cells.size:=Nat.mod_lt _ h0
  rw[getElem!_pos zv.cells _ hlt2]
  exact Array.getElem_mem_toList hlt2
 have hmul:k * sz+(m+1) * sz≤cap * sz:=by rw[← Nat.add_mul];exact Nat.mul_le_mul_right sz hm
 obtain ⟨w',f1,f2,f3,f4,f5,f6,f7⟩:=B3 P b (k * sz) T fr news 0 cs w e2 e3 qn hones
 obtain ⟨st,inv⟩:=Ke hinv e0 f3 f4 f5 f6 f7
 have hrun:(execOp a.eval o).run P w=.ok (.value (.tuple #[])) w':=by
  simp[execOp,h,resolve,invoke,builtin,Builtin.clear_,r1.val,run_underlying hu,zeroValue,typeInfo,q1,q4,← hnews,f1]
 simp only[Oper.wp,hrun,Oper.upon]
 refine hN _ κ w' (st.weaken (fun k hk=>by subst hk;simp[Up.ws])) inv (by simp[Rd,RdL]) (fun p hp=>?_)
 simp only[List.mem_singleton]at hp
 subst hp
 refine⟨e0,b,cap,_,T,fr,e0,f2,by rw[Bj];exact e3,by rw[Bj];exact e4,e5,?_⟩
 rintro p z ⟨hp0,rfl⟩
 have hset:=Hx cs news (k * sz+0)
 obtain ⟨h0,u,u1,u2,u3,u4⟩:=e6 p (e l[p]) ⟨by omega,rfl⟩
 have:(p+1) * sz≤k * sz:=Nat.mul_le_mul_right sz qn
 rw[Nat.add_mul,Nat.one_mul]at this
 refine⟨h0,u,?_,u2,u3,fun j hj=>?_⟩
 ·rw[List.getElem_take]
  exact RdD.keep st.keeps _ _ u1
 ·have hcl:k * sz≤cs.length:=by omega
  rw[hset _ qn,if_neg qn,u4 j hj]
theorem G_dat {C:Cx} {kk:List KI} {s:SS} (i q:Nat) {sz:Nat} {α:Type} {e:α→SV} {l:List α} (h:s.σ i=.sl sz e l) (hl:l≠[])
  (hg:∀ b off cap,l.length≤cap→G C kk ⟨upd s.σ i (.val (.slice (some ⟨b,off,none⟩) l.length cap)),upd s.h q (.dat (.slice (some ⟨b,off,none⟩) l.length cap) sz e l)⟩):G C kk s:=fun κ a w hs=>by
 have h1:=hs.slot i
 rw[h]at h1
 have h1':=h1
 simp only[Rd,RdD]at h1
 rcases h1 with ⟨h2,_⟩ | ⟨b,off,cap,h2,h3,_⟩
 ·exact absurd h2 hl
 ·refine hg b off cap h3 κ a w ⟨hs.defers,hs.size,hs.inv,hs.ctx,fun j=>?_,fun j=>?_⟩
  ·show Rd κ w (upd s.σ i (.val (.slice (some ⟨b,off,none⟩) l.length cap)) j) _
   by_cases hj:j=i
   ·subst hj;rw[A6];simp only[Rd];exact h2
   ·rw[Bq _ _ hj];exact hs.slot j
  ·show ObOK κ w j (upd s.h q (.dat (.slice (some ⟨b,off,none⟩) l.length cap) sz e l) j)
   by_cases hj:j=q
   ·subst hj;rw[A6];rw[h2]at h1';exact h1'
   ·rw[Bq _ _ hj];exact hs.obj j
theorem V4 {P:Program} (Γ:Ty P) {o:Oper} {s:SS} {t:TypeId} {ti:TI} {et:TypeId} {sz eb b off n cap hi:Nat} {ez:List Value} {x hx mx:Operand} {k2 k3:IntKind}
  (h:o.op=.slice t x none (some hx) (some mx)) (ht:Γ.get t=some ti) (hk:ti.k=.slice et sz eb ez) (hxe:ev s x=.val (.slice (some ⟨b,off,none⟩) n cap)) (hhi:ev s hx=.val (.int k2 hi)) (hmx:ev s mx=.val (.int k3 hi))
  (h3:hi≤cap):Good P o s ⟨.val (.slice (some ⟨b,off,none⟩) hi hi),[],[]⟩ :=
 Good.pure fun κ a w _ hr _=>by
  have r1:=hr x (by simp[h,Op.operands])
  have r3:=hr hx (by simp[h,Op.operands])
  have r4:=hr mx (by simp[h,Op.operands])
  rw[hxe]at r1
  rw[hhi]at r3
  rw[hmx]at r4
  obtain ⟨hu,i,zv,q1,q2,q3,q4,q5⟩:=Br Γ ht hk
  have hb:(Instr.sliceBounds true n cap none (some (a.eval hx)) (some (a.eval mx))).run P w=.ok (0,hi,hi) w:=by
   rw[r3.val,r4.val]
   simp[Instr.sliceBounds,Instr.sliceBound,asIntOf,h3]
  refine⟨.slice (some ⟨b,off,none⟩) hi hi,?_,by simp only[Rd]⟩
  by_cases hc:hi=0
  ·subst hc
   simp[execOp,h,r1.val,Instr.sliceAt,Instr.slice,run_underlying hu,hb,sizeOf,typeInfo,q1]
  ·simp[execOp,h,r1.val,Instr.sliceAt,Instr.slice,run_underlying hu,hb,sizeOf,typeInfo,q1,q2,hc,Addr.add_lit]
theorem Wa {P:Program} (Γ:Ty P) {o:Oper} {s:SS} (q:Nat) {t:TypeId} {ti:TI} {et:TypeId} {sz eb b off n cap:Nat} {ez:List Value} {x y:Operand} {α:Type} {e:α→SV} {l l':List α}
  (h:o.op=.call ⟨.builtin .append,#[x,y],#[t,t]⟩) (ht:Γ.get t=some ti) (hk:ti.k=.slice et sz eb ez) (hez:ez.length=sz) (hx:ev s x=.val (.slice (some ⟨b,off,none⟩) n n))
  (hq:s.h q=.dat (.slice (some ⟨b,off,none⟩) l.length cap) sz e l) (hn:n≤l.length) (hy:ev s y=.sl sz e l') (hbytes:(n+l'.length) * eb≤140737488355328) (h63:n+l'.length≤9223372036854775807) :
  Good P o s ⟨.sl sz e (l.take n++l'),[q],[]⟩:=by
 intro κ a w hinv hr ho N Q hN
 have r1:=hr x (by simp[h,Op.operands,Call.operands])
 have r2:=hr y (by simp[h,Op.operands,Call.operands])
 rw[hx]at r1
 rw[hy]at r2
 have hq1:=ho q (.inl qy)
 rw[hq]at hq1
 have hq1:Rd κ w (.sl sz e l) (.slice (some ⟨b,off,none⟩) l.length cap):=hq1
 obtain ⟨hu,ii,zv,q1,q2,q3,q4,q5⟩:=Br Γ ht hk
 have hzs:zv.cells.size=sz:=by rw[← hez,← q5];simp
 have htl:(l.take n).length=n:=by rw[List.length_take];omega
 have hbase:Rd κ w (.sl sz e (l.take n)) (.slice (some ⟨b,off,none⟩) n n):=by
  simp only[Rd,RdD]at hq1 ⊢
  rcases hq1 with ⟨h0,_⟩ | ⟨b2,off2,cap2,h2,h3,h4,h5,h6⟩
  ·have hn0:n=0:=by rw[h0]at hn;simpa using hn
   subst hn0
   exact .inl ⟨by simp,_,_,E⟩
  ·cases h2
   refine .inr ⟨b,off,n,by rw[htl],by rw[htl];exact Nat.le_refl _,h4,h5,fun i hi=>?_⟩
   obtain ⟨u,h7,h8⟩:=h6 i qn
   exact⟨u,by rw[List.getElem_take];exact h7,h8⟩
 have hrb:=hbase.src
 have hru:=r2.src
 rw[htl]at hrb
 obtain ⟨m,hm⟩:∃ m,l'.length=m:=⟨_,rfl⟩
 rw[hm]at hru hbytes h63
 generalize hve:a.eval y=u at *
 obtain ⟨ad,c,news,hu2,hnl,hn1,hnc,hng⟩:∃ (a:Option Addr) (c:Nat) (news:List Value),u=.slice a m c∧news.length=m * sz∧Ones news∧(∀ W:World,(∀ p:Addr,p.block<w.heap.size→W.cell? p=w.cell? p)→(Builtin.firstCells sz m u).run P W=.ok news.toArray W) ∧
   (∀ j x,rowF e l' j x→j<m∧∃ q:Value,RdD (Own κ) w x q∧q.cells.size=sz∧Ones q.cells.toList∧∀ l,l<sz→news[j * sz+l]? = q.cells[l]?):=by
  rcases hru with ⟨rfl,hno,a,c,rfl⟩ | ⟨b,o,c,news,rfl,h1,h2,h3,h4⟩
  ·refine⟨a,c,[],E,by simp,by simp[Ones],fun W _=>?_,fun j x h=>absurd h (hno j x)⟩
   cases a<;>simp[Builtin.firstCells,loadCells,loadCellsFrom]
  ·refine⟨some ⟨b,o,none⟩,c,news,E,h1,h2,fun W hW=>?_,fun j x hx=>h4 j x hx⟩
   exact run_firstCells_some (P:=P) W sz m ⟨b,o,none⟩ m c news h1 (fun j q hj=>by
    rw[Addr.add_lit]
    have h5:=h3 j q hj
    rw[hW _ (by exact World.block_lt_of_cell? w _ h5),h5])
 subst hu2
 by_cases hm0:m=0
 ·subst hm0
  have hl':l'=[]:=List.eq_nil_of_length_eq_zero hm
  subst hl'
  have hc:=hnc w (fun _ _=>rfl)
  have hnn:news=[]:=by simpa using hnl
  subst hnn
  have hrun:(execOp a.eval o).run P w=.ok (.value (.slice (some ⟨b,off,none⟩) n n)) w:=by
   simp[execOp,h,resolve,invoke,builtin,Builtin.append_,r1.val,hve,run_underlying hu,sizeOf,typeInfo,q1,q2,Builtin.lenOf,hc,storeCells]
  simp only[Oper.wp,hrun,Oper.upon]
  refine hN _ κ w (Step.refl _ κ w) hinv ?_ (fun p hp=>by cases hp)
  rw[List.append_nil]
  exact hbase
 obtain ⟨olds,hol,hof,hfo⟩:∃ olds:List Value,olds.length=n * sz∧(∀ j x,rowF e (l.take n) j x→j<n→∃ q:Value,RdD (Own κ) w x q∧q.cells.size=sz∧Ones q.cells.toList∧∀ l,l<sz→olds[j * sz+l]? = q.cells[l]?) ∧
   (Builtin.firstCells sz n (.slice (some ⟨b,off,none⟩) n n)).run P w.drew=.ok olds.toArray w.drew:=by
  rcases hrb with ⟨rfl,hno,_⟩ | ⟨b2,o2,c2,olds,he,g1,g2,g3,g4⟩
  ·exact⟨[],by simp,fun j x _ hj=>absurd hj qn,run_firstCells_some (P:=P) w.drew sz 0 ⟨b,off,none⟩ 0 0 [] qy (fun j v hj=>by simp at hj)⟩
  ·cases he
   exact⟨olds,g1,fun j x hx _=>(g4 j x hx).2,run_firstCells_some (P:=P) w.drew sz n ⟨b,off,none⟩ n n olds g1 (fun j v hj=>by
    have:=g3 j v hj
    rw[Addr.add_lit];simpa using this)⟩
 have hcap:n+m≤grownCap w (n+m) n et:=grownCap_ge w (n+m) n et
 have h48:¬ (281474976710656<Builtin.nextslicecap (n+m) n * ii.bytes):=by
  have:=growslice_fits (need:=n+m) (old:=n) (bytes:=ii.bytes) qn (by rw[q3];exact hbytes)
  omega
 have h63':¬ (9223372036854775807<(n:Int)+(m:Int)):=by omega
 have hroom:¬ n+m≤n:=by omega
 have hc:=hnc w.drew (fun _ _=>rfl)
 obtain ⟨w',hw'⟩:∃ w',w.drew.alloc (.cells (olds.toArray++news.toArray++Builtin.zeroCells zv.cells (grownCap w (n+m) n et-(n+m))) et)=w':=⟨_,rfl⟩
 have hrun:(execOp a.eval o).run P w=.ok (.value (.slice (some ⟨w.heap.size,0,none⟩) (n+m) (grownCap w (n+m) n et))) w':=by
  rw[← hw']
  simp[execOp,h,resolve,invoke,builtin,Builtin.append_,r1.val,hve,run_underlying hu,sizeOf,typeInfo,zeroValue,q4,q1,q2,Builtin.lenOf,hm0,h63',h48,Question.forced,hfo,hc,newRow,grownCap]
  rw[if_neg hroom]
  have ea:∀ Z:Array Value,olds.toArray++(news.toArray++Z)=(olds++news).toArray++Z:=fun Z=>by apply Array.ext';simp
  rw[ea]
 have g0:Grew w w':=by rw[← hw'];exact(Grew.drew w).trans (Grew.alloc _ _)
 obtain ⟨st,inv⟩:=Ae7 hinv g0
 have hblk:w'.heap[w.heap.size]? = some (.cells (olds++news++(Builtin.zeroCells zv.cells (grownCap w (n+m) n et-(n+m))).toList).toArray et):=by
  rw[← hw']
  have:(w.drew.alloc (.cells (olds.toArray++news.toArray++Builtin.zeroCells zv.cells (grownCap w (n+m) n et-(n+m))) et)).heap[w.heap.size]? = some (.cells (olds.toArray++news.toArray++Builtin.zeroCells zv.cells (grownCap w (n+m) n et-(n+m))) et):=heap_alloc_new w.drew _
  rw[this]
  congr 2
  apply Array.ext'
  simp
 have hsz:w.heap.size<w'.heap.size:=by rw[← hw'];simp
 simp only[Oper.wp,hrun,Oper.upon]
 refine hN _ κ w' (st.weaken (fun _ h=>h.elim)) inv ?_ (fun p hp=>by cases hp)
 simp only[Rd,RdD]
 have hlen:(l.take n++l').length=n+m:=by rw[List.length_append,htl,hm]
 refine .inr ⟨w.heap.size,0,grownCap w (n+m) n et,by rw[hlen],by rw[hlen];exact hcap,?_,hsz,fun j hj=>?_⟩
 ·rintro (⟨k,hk⟩ | hk)
  ·exact Nat.lt_irrefl _ (hinv.bnd k _ hk)
  ·exact Nat.lt_irrefl _ (hinv.mbnd _ hk)
 ·rw[hlen]at hj
  by_cases hjn:j<n
  ·obtain ⟨qv,g1,g2,g3,g4⟩:=hof j (e (l.take n)[j]) ⟨by omega,rfl⟩ hjn
   refine⟨qv,by rw[List.getElem_append_left qn];exact RdD.keep st.keeps _ _ g1,g2,g3,fun p hp=>?_⟩
   have:(j+1) * sz≤n * sz:=Nat.mul_le_mul_right sz qn
   rw[Nat.add_mul,Nat.one_mul]at this
   rw[cell_of_row w' _ _ _ et (0,0) hblk,List.getElem?_toArray,List.append_assoc,List.getElem?_append_left qn,Nat.zero_add]
   exact g4 p hp
  ·obtain ⟨_,qv,g1,g2,g3,g4⟩:=hng (j-n) (e (l'[j-n]'qn)) ⟨by omega,rfl⟩
   refine⟨qv,?_,g2,g3,fun p hp=>?_⟩
   ·rw[List.getElem_append_right qn]
    simp only[htl]
    exact RdD.keep st.keeps _ _ g1
   ·have e1:j * sz=n * sz+(j-n) * sz:=by rw[← Nat.add_mul];congr 1;omega
    have:(j-n+1) * sz≤m * sz:=Nat.mul_le_mul_right sz qn
    rw[Nat.add_mul,Nat.one_mul]at this
    rw[cell_of_row w' _ _ _ et (0,0) hblk,List.getElem?_toArray,List.append_assoc,List.getElem?_append_right qn,List.getElem?_append_left qn,← g4 p hp]
    congr 1
    omega
theorem Su {P:Program} {o:Oper} {s:SS} (q:Nat) {sz:Nat} {α:Type} {e:α→SV} {l:List α} {v:Value} {x:Operand} (h:o.op=.move x∨o.op=.assign x) (hx:ev s x=.val v) (hq:s.h q=.dat v sz e l):Good P o s ⟨.sl sz e l,[q],[]⟩ :=
 Good.pure fun κ a w _ hr ho=>by
  have hq1:=ho q qy
  rw[hq]at hq1
  have hr1:=hr x (by rcases h with h | h<;>simp[h,Op.operands])
  rw[hx]at hr1
  refine⟨a.eval x,?_,?_⟩
  ·rcases h with h | h<;>simp[execOp,h]
  ·rw[hr1.val];exact hq1
theorem U7 {f g:Nat→Option (Nat × Nat)}:∀ (ps:List (Nat × Value)) (cs:Array Value),(∀ p∈ps,f p.1=g p.1)→Instr.fill f cs ps=Instr.fill g cs ps
 | [],cs,_=>rfl
 | (i,v)::ps,cs,h=>by
  have h1:=h (i,v) qy
  simp only[Instr.fill]
  dsimp only at h1
  rw[h1]
  cases g i with
  | none=>rfl
  | some os =>
   dsimp only
   split
   ·rfl
   ·exact U7 ps _ (fun p hp=>h p (by simp[hp]))
theorem Aas {P:Program} (Γ:Ty P) {o:Oper} {s:SS} {t et:TypeId} {ti:TI} {len esz:Nat} {ps:List (Nat × Operand)} {out:List SV} (h:o.op=.build t ps.toArray) (ht:Γ.get t=some ti) (hk:ti.k=.array et len esz)
  (h1:Sn ti.zero=true) (hps:(ps.all fun p=>Nat.blt p.1 len)=true) (hf:U8 ((List.range len).map fun i=>(i * esz,esz)) (ti.zero.map .val) (ps.map fun p=>(p.1,ev s p.2))=some out):Good P o s ⟨.agg out,[],[]⟩ :=
 Good.pure fun κ a w _ hr _=>by
  obtain ⟨d,info,z,k1,k2,k3,k4,k5,k6⟩:=Γ.ok t ti ht
  obtain ⟨hu,i,q1,q2⟩:=K8 Γ ht hk
  have hops:∀ p∈ps,Rd κ w (ev s p.2) (a.eval p.2):=fun p hp=>hr p.2 (by
   simp only[h,Op.operands]
   simp only[List.mem_toArray,List.mem_map]
   exact⟨p,hp,E⟩)
  obtain ⟨r,r1,r2,r3⟩:=Ym (κ:=κ) (w:=w) (a:=a) ps _ out z.cells (by rw[k6];exact Qk _) (by rw[k6];exact Kp h1) hops hf
  refine⟨.agg r,?_,?_⟩
  ·have hcg:=U7 (f:=fun i=>some (i * esz,esz)) (g:=fun i=>((List.range len).map fun i=>(i * esz,esz))[i]?) (ps.map fun p=>(p.1,a.eval p.2)) z.cells (fun p hp=>by
    obtain ⟨x,hx,rfl⟩:=List.mem_map.1 hp
    have hlt:x.1<len:=Nat.le_of_ble_eq_true (List.all_eq_true.1 hps x hx)
    dsimp only
    rw[List.getElem?_map,List.getElem?_range hlt]
    rfl)
   simp only[execOp,h,Sem.run_bind,Instr.build,zeroValue,typeInfo,run_program,Result.andThen_ok,k3,k5,Sem.run_pure,run_underlying hu,sizeOf,q1,q2,List.map_toArray]
   rw[hcg,r1]
   simp
  ·simp only[Rd]
   exact⟨r.toList,by simp,r3,r2⟩
mutual
def rnb (k d:Nat):SV→SV
 | .ptr j o=>bif Nat.beq j k then .ptr d o else .ptr j o
 | .agg l=>.agg (T6 k d l)
 | .tup l=>.tup (T6 k d l)
 | .ifc t y=>.ifc t (rnb k d y)
 | .clo f g l=>.clo f (T6 k d g) (T6 k d l)
 | y=>y
def T6 (k d:Nat):List SV→List SV
 | []=>[]
 | y::l=>rnb k d y::T6 k d l
end
mutual
theorem Ab4 {κ κ':Ka} {w:World} {K:Nat→Prop} {k d:Nat} (st:Step K κ w κ' w) (hx:∀ o v,Rd κ w (.ptr k o) v→Rd κ' w (.ptr d o) v):∀ (y:SV) (v:Value),Rd κ w y v→Rd κ' w (rnb k d y) v
 | .ptr j o,v,h=>by
  unfold rnb
  by_cases hk:j=k
  ·subst hk;rw[show Nat.beq j j=true from Nat.beq_refl j];exact hx o v h
  ·rw[show Nat.beq j k=false from by cases hb:Nat.beq j k with | false=>rfl | true=>exact absurd (Nat.eq_of_beq_eq_true hb) hk];exact Rd.step st _ _ h
 | .agg l,v,h=>by
  simp only[Rd]at h
  unfold rnb
  simp only[Rd]
  obtain ⟨cs,h1,h2,h3⟩:=h
  exact⟨cs,h1,h2,Jq st hx l cs h3⟩
 | .tup l,v,h=>by
  simp only[Rd]at h
  unfold rnb
  simp only[Rd]
  obtain ⟨cs,h1,h3⟩:=h
  exact⟨cs,h1,Jq st hx l cs h3⟩
 | .ifc t y,v,h=>by
  simp only[Rd]at h
  unfold rnb
  simp only[Rd]
  obtain ⟨u,h1,h3⟩:=h
  exact⟨u,h1,Ab4 st hx y u h3⟩
 | .clo f g l,v,h=>by
  simp only[Rd]at h
  unfold rnb
  simp only[Rd]
  obtain ⟨fs,cs,h1,h2,h3⟩:=h
  exact⟨fs,cs,h1,Jq st hx g fs h2,Jq st hx l cs h3⟩
 | .top,v,h=>by unfold rnb;exact Rd.step st _ _ h
 | .val u,v,h=>by unfold rnb;exact Rd.step st _ _ h
 | .sl sz e l,v,h=>by unfold rnb;exact Rd.step st _ _ h
 | .ref sz z o,v,h=>by unfold rnb;exact Rd.step st _ _ h
 | .rpt k sz i o,v,h=>by unfold rnb;exact Rd.step st _ _ h
 | .osl k,v,h=>by unfold rnb;exact Rd.step st _ _ h
theorem Jq {κ κ':Ka} {w:World} {K:Nat→Prop} {k d:Nat} (st:Step K κ w κ' w) (hx:∀ o v,Rd κ w (.ptr k o) v→Rd κ' w (.ptr d o) v):∀ (l:List SV) (vs:List Value),RdL κ w l vs→RdL κ' w (T6 k d l) vs
 | [],vs,h=>by
  unfold T6
  simpa [RdL] using h
 | y::l,vs,h=>by
  simp only[RdL]at h
  unfold T6
  simp only[RdL]
  obtain ⟨v,r,h1,h2,h3⟩:=h
  exact⟨v,r,h1,Ab4 st hx y v h2,Jq st hx l r h3⟩
end
def rnbO (k d:Nat):Ob→Ob
 | .box l=>.box (T6 k d l)
 | o=>o
theorem Abv {κ:Ka} {w:World} {k d b:Nat} (hi:Inv κ w) (hk:κ k=.blk b) (hd:κ d=.new) :
  Step (fun j=>j=k∨j=d) κ w (Ci (Ci κ k .dead) d (.blk b)) w∧Inv (Ci (Ci κ k .dead) d (.blk b)) w:=by
 have hkd:k≠d:=fun e=>by subst e;rw[hk]at hd;cases hd
 have hkb:(κ k).block? = some b:=by rw[hk];rfl
 have key:∀ j c,((Ci (Ci κ k .dead) d (.blk b)) j).block? = some c→(j=d∧c=b)∨(j≠d∧j≠k∧(κ j).block? = some c):=by
  intro j c h
  by_cases hj:j=d
  ·subst hj;rw[Ap]at h;exact .inl ⟨rfl,by simpa [Ent.block?] using h.symm⟩
  ·rw[Bi _ _ hj]at h
   by_cases hj2:j=k
   ·subst hj2;rw[Ap]at h;cases h
   ·rw[Bi _ _ hj2]at h;exact .inr ⟨hj,hj2,h⟩
 refine⟨⟨Nat.le_refl _,E,E,E,E,fun _ _=>rfl,fun _ _ _=>rfl,fun _ _ _ _=>rfl,fun j hj=>?_,?_,?_⟩,⟨?_,?_,?_,fun c h=>hi.mbnd c h⟩⟩
 ·rw[Bi _ _ (fun e=>hj (.inr e)),Bi _ _ (fun e=>hj (.inl e))]
 ·rintro j (rfl | rfl)
  ·exact .inr (.inr (by rw[Bi _ _ hkd,Ap]))
  ·exact .inl hd
 ·rintro c (⟨j,hj⟩ | hj)
  ·rcases key j c hj with ⟨_,rfl⟩ | ⟨_,_,h⟩
   ·exact .inl (.inl ⟨k,hkb⟩)
   ·exact .inl (.inl ⟨j,h⟩)
  ·exact .inl (.inr hj)
 ·intro i j c h1 h2
  rcases key i c h1 with ⟨a1,a2⟩ | ⟨a1,a2,a3⟩<;>rcases key j c h2 with ⟨b1,b2⟩ | ⟨b1,b2,b3⟩
  ·exact a1.trans b1.symm
  ·subst a2;exact absurd (hi.inj j k _ b3 hkb) b2
  ·subst b2;exact absurd (hi.inj i k _ a3 hkb) a2
  ·exact hi.inj i j c a3 b3
 ·intro j c h
  rcases key j c h with ⟨_,rfl⟩ | ⟨_,_,h⟩
  ·exact hi.bnd k _ hkb
  ·exact hi.bnd j c h
 ·intro j c h
  rcases key j c h with ⟨_,rfl⟩ | ⟨_,_,h⟩
  ·exact hi.apart k _ hkb
  ·exact hi.apart j c h
theorem E4 {C:Cx} {kk:List KI} {s:SS} (k d:Nat) {l:List SV} (h:s.h k=.box l) (hd:s.h d=.fresh) (hkd:k≠d)
  (hg:G C kk ⟨fun i=>rnb k d (s.σ i),upd (fun j=>bif Nat.beq j k then .non else rnbO k d (s.h j)) d (.box (T6 k d l))⟩):G C kk s:=fun κ a w hs=>by
 have hob:=hs.obj k
 rw[h]at hob
 have hnew:κ d=.new:=by have:=hs.obj d;rwa [hd]at this
 obtain ⟨b,cs,T,fr,e1,e2,e3,e4,e5⟩:=hob
 obtain ⟨st,inv⟩:=Abv hs.inv e1 hnew
 have hne:∀ j,j≠k→j≠d→(Ci (Ci κ k .dead) d (.blk b)) j=κ j:=fun j h1 h2=>by rw[Bi _ _ h2,Bi _ _ h1]
 have hv:∀ o v,Rd κ w (.ptr k o) v→Rd (Ci (Ci κ k .dead) d (.blk b)) w (.ptr d o) v:=fun o v hv=>by
  simp only[Rd,e1]at hv
  simp only[Rd,Ap]
  exact hv
 refine hg _ a w ⟨hs.defers,hs.size,inv,hs.ctx.step inv st,fun j=>Ab4 st hv _ _ (hs.slot j),fun j=>?_⟩
 show ObOK _ w j (upd (fun j=>bif Nat.beq j k then .non else rnbO k d (s.h j)) d (.box (T6 k d l)) j)
 by_cases hj:j=d
 ·subst hj
  rw[A6]
  exact⟨b,cs,T,fr,Ap _ _ _,e2,e3,e4,Jq st hv l cs e5⟩
 ·rw[Bq _ _ hj]
  by_cases hj2:j=k
  ·subst hj2;rw[show Nat.beq j j=true from Nat.beq_refl j];trivial
  ·rw[show Nat.beq j k=false from by cases hb:Nat.beq j k with | false=>rfl | true=>exact absurd (Nat.eq_of_beq_eq_true hb) hj2]
   have hb:=ObOK.step st (fun e=>e.elim hj2 hj) _ (hs.obj j)
   have h0:=hs.obj j
   show ObOK _ w j (rnbO k d (s.h j))
   cases hh:s.h j with
   | box m =>
    rw[hh]at h0 hb
    obtain ⟨b2,cs2,T2,fr2,f1,f2,f3,f4,f5⟩:=h0
    exact⟨b2,cs2,T2,fr2,(hne j hj2 hj).trans f1,f2,f3,f4,Jq st hv m cs2 f5⟩
   | fresh=>rw[hh]at hb;exact hb
   | non=>rw[hh]at hb;exact hb
   | row sz' e' l'=>rw[hh]at hb;exact hb
   | lit sz' svs=>rw[hh]at hb;exact hb
   | glob sz' x' g'=>rw[hh]at hb;exact hb
   | pin b' n' cap' sz' e' l'=>rw[hh]at hb;exact hb
   | dat v' sz' e' l'=>rw[hh]at hb;exact hb
theorem VwL.get {s:SS} {V:List Nat}:∀ {l m:List SV} (_:VwL s V l m) {i:Nat} {y:SV},Dm m i=some y→∃ x,Dm l i=some x∧Vw s V x y
 | _,_,.nil,i,y,h=>by cases i<;>simp[Dm]at h
 | _,_,.cons (x:=x) h0 hs,0,y,h=>by
  simp only[Dm,Option.some.injEq]at h
  subst h
  exact⟨x,E,h0⟩
 | _,_,.cons h0 hs,i+1,y,h=>VwL.get hs (i:=i) h
theorem VwL.len {s:SS} {V:List Nat}:∀ {l m:List SV} (_:VwL s V l m),m.length=l.length
 | _,_,.nil=>rfl
 | _,_,.cons _ hs=>by simp[VwL.len hs]
theorem Xa:∀ {l:List SV} {i:Nat} {x:SV},Jg l=true→Dm l i=some x→x.data=true
 | [],i,x,_,h=>by cases i<;>simp[Dm]at h
 | y::l,0,x,hd,h=>by
  simp only[Dm,Option.some.injEq]at h
  subst h
  simp only[Jg,Bool.and_eq_true]at hd
  exact hd.1
 | y::l,i+1,x,hd,h=>by
  simp only[Jg,Bool.and_eq_true]at hd
  exact Xa hd.2 (i:=i) h
theorem Q9 {C:Cx} {k:List KI} {s:SS} (d:Nat) {sz:Nat} {svs:List SV} (svs':List SV) (h:s.h d=.lit sz svs) (hv:VwL s [] svs svs') (hd:Jg svs'=true) (hg:G C k ⟨s.σ,upd s.h d (.lit sz svs')⟩):G C k s:=fun κ a w hs=>by
 refine hg κ a w ⟨hs.defers,hs.size,hs.inv,hs.ctx,hs.slot,fun j=>?_⟩
 show ObOK κ w j (upd s.h d (.lit sz svs') j)
 by_cases hj:j=d
 ·subst hj
  rw[A6]
  have hob:=hs.obj j
  rw[h]at hob
  have hlen:=hv.len
  obtain ⟨b,cap,cs,T,fr,e1,e2,e3,e4,e5,e6⟩:=hob
  refine⟨b,cap,cs,T,fr,by rw[hlen];exact e1,e2,e3,e4,by omega,fun i x hx=>?_⟩
  obtain ⟨y,hy,hvw⟩:=hv.get hx
  obtain ⟨f1,u,f2,f3⟩:=e6 i y hy
  exact⟨by omega,u,Rd.data _ _ (Xa hd hx) (hvw.rd hs.inv (fun n hn=>by cases hn) f2.toRd),f3⟩
 ·rw[Bq _ _ hj];exact hs.obj j
theorem RdL.setI {κ:Ka} {w:World} {x:SV} {v:Value} (hx:Rd κ w x v):∀ {l:List SV} {cs:List Value} (i:Nat),RdL κ w l cs→RdL κ w (l.set i x) (cs.set i v)
 | [],cs,i,h=>by simp only[RdL]at h;subst h;simp[RdL]
 | y::l,cs,0,h=>by
  simp only[RdL]at h
  obtain ⟨u,r,rfl,h1,h2⟩:=h
  simp only[List.set_cons_zero,RdL]
  exact⟨v,r,E,hx,h2⟩
 | y::l,cs,i+1,h=>by
  simp only[RdL]at h
  obtain ⟨u,r,rfl,h1,h2⟩:=h
  simp only[List.set_cons_succ,RdL]
  exact⟨u,_,E,h1,h2.setI hx i⟩
theorem Hf {κ:Ka} {w:World} {k:Nat} {l:List SV} (hi:Inv κ w) (h:ObOK κ w k (.box l)) {off:Nat} {x:SV} {v:Value} (hx:x.plain=true) (hv:∀ κ w,Rd κ w x v) (h1:v.oneCell'=true) :
  ∃ b,κ k=.blk b∧(∀ j y,Dm l j=some y→∃ u,w.cell? ⟨b,j,none⟩=some u∧Rd κ w y u)∧(∀ j,j<l.length→w.frozen? ⟨b,j,none⟩=false) ∧
   Step (·=k) κ w κ (w.setCell ⟨b,off,none⟩ v)∧Inv κ (w.setCell ⟨b,off,none⟩ v)∧ObOK κ (w.setCell ⟨b,off,none⟩ v) k (.box (l.set off x)):=by
 obtain ⟨b,cs,T,fr,e1,e2,e3,e4,e5⟩:=h
 have hsame:(w.setCell ⟨b,off,none⟩ v).heap[b]? = some (.cells (cs.set off v).toArray T fr):=by
  simp[World.setCell,Array.getElem?_modify,e2]
 have hoth:∀ j,j≠b→(w.setCell ⟨b,off,none⟩ v).heap[j]? = w.heap[j]?:=fun j hj=>heap_setCell_other w ⟨b,off,none⟩ j v hj
 obtain ⟨st,inv⟩:=Jl (w':=w.setCell ⟨b,off,none⟩ v) hi (k:=k) (b:=b) (by rw[e1];rfl) rfl rfl rfl qy hoth
 have hlen:=e5.length
 refine⟨b,e1,fun j y hy=>?_,fun j hj=>?_,st,inv,b,_,T,fr,e1,hsame,by rw[List.length_set];exact e3,?_,(RdL.step st _ _ e5).setI (hv _ _) off⟩
 ·obtain ⟨u,hu,hr⟩:=e5.get hy
  exact⟨u,by rw[cell_of_row w b j cs.toArray T fr e2,List.getElem?_toArray];exact hu,hr⟩
 ·obtain ⟨lo,hi'⟩:=fr
  simp only[World.frozen?,e2]
  rcases e3 with h | h
  ·simp only at h;subst h;simp
  ·simp only at h;simp;omega
 ·intro c hc
  rcases List.mem_or_eq_of_mem_set hc with h | h
  ·exact e4 c h
  ·rw[h];exact h1
theorem V8 {P:Program} {o:Oper} {s:SS} {f:FuncId} {ik:IntKind} {ts:Array TypeId} {x:Operand} {k off:Nat} {l:List SV} {v:Int}
  (hf:∀ (a:Addr) (x:Int) (w:World),w.cell? a=some (.int ik x)→(callFunc f #[.pointer (some a)]).run P w=.ok (.value (.int ik x)) w)
  (h:o.op=.call ⟨.value (.func f),#[x],ts⟩) (hx:ev s x=.ptr k off) (hk:s.h k=.box l) (hy:Dm l off=some (.val (.int ik v))):Good P o s ⟨.val (.int ik v),[k],[]⟩ :=
 Good.pure fun κ a w hi hr ho=>by
  have h1:=hr x (by simp[h,Op.operands,Call.operands])
  rw[hx]at h1
  have h2:=ho k qy
  rw[hk]at h2
  obtain ⟨b,cs,T,fr,e1,e2,e3,e4,e5⟩:=h2
  simp only[Rd,e1]at h1
  obtain ⟨u,hu,hr2⟩:=e5.get hy
  have hc:w.cell? ⟨b,off,none⟩=some (.int ik v):=by rw[cell_of_row w b off cs.toArray T fr e2,List.getElem?_toArray,hu,hr2.val]
  have hrun:=hf ⟨b,off,none⟩ v w hc
  refine⟨.int ik v,?_,by simp only[Rd]⟩
  have hev:a.eval (.func f)=.func (.func f) #[] #[]:=rfl
  simp[execOp,h,resolve,hev,Deferred.ofValue,invoke,h1,hrun]
theorem Yf {P:Program} {o:Oper} {s:SS} {f:FuncId} {ts:Array TypeId} {x y:Operand} {k off:Nat} {l:List SV} {v d:Int}
  (hf:∀ (a:Addr) (x y:Int) (w:World),w.cell? a=some (.int .i64 x)→w.frozen? a=false→(callFunc f #[.pointer (some a),.int .i64 y]).run P w=.ok (.value (.int .i64 (IntKind.i64.wrap (x+y)))) (w.setCell a (.int .i64 (IntKind.i64.wrap (x+y)))))
  (h:o.op=.call ⟨.value (.func f),#[x,y],ts⟩) (hx:ev s x=.ptr k off) (hy:ev s y=.val (.int .i64 d)) (hk:s.h k=.box l) (hl:Dm l off=some (.val (.int .i64 v))) (hv:IntKind.i64.wrap (v+d)=v+d) :
  Good P o s ⟨.val (.int .i64 (v+d)),[],[(k,.box (l.set off (.val (.int .i64 (v+d)))))]⟩:=by
 intro κ a w hi hr ho N Q hN
 have h1:=hr x (by simp[h,Op.operands,Call.operands])
 have h2:=hr y (by simp[h,Op.operands,Call.operands])
 rw[hx]at h1
 rw[hy]at h2
 have h3:=ho k (.inr (by simp[Up.ws]))
 rw[hk]at h3
 obtain ⟨b,e1,c1,c2,st,inv,ob⟩:=Hf (off:=off) (x:=.val (.int .i64 (v+d))) (v:=.int .i64 (v+d)) hi h3 rfl (fun _ _=>by simp only[Rd]) rfl
 simp only[Rd,e1]at h1
 obtain ⟨u,hu,hr2⟩:=c1 off _ hl
 rw[hr2.val]at hu
 have hrun:=hf ⟨b,off,none⟩ v d w hu (c2 off (Tk hl))
 rw[hv]at hrun
 have hrun2:(execOp a.eval o).run P w=.ok (.value (.int .i64 (v+d))) (w.setCell ⟨b,off,none⟩ (.int .i64 (v+d))):=by
  have hev:a.eval (.func f)=.func (.func f) #[] #[]:=rfl
  simp[execOp,h,resolve,hev,Deferred.ofValue,invoke,h1,h2.val,hrun]
 simp only[Oper.wp,hrun2,Oper.upon]
 refine hN _ κ _ (st.weaken (by simp[Up.ws])) inv (by simp only[Rd]) (fun p hp=>?_)
 simp only[List.mem_singleton]at hp
 subst hp
 exact ob
theorem V9 {P:Program} (Γ:Ty P) {o:Oper} {s:SS} (q:Nat) {t:TypeId} {ti:TI} {et:TypeId} {eb b n cap lo k c1 c2:Nat} {ez:List Value} {x y:Operand} {α:Type} {e:α→SV} {l:List α} {B B2:Option Addr}
  (h:o.op=.call ⟨.builtin .copy,#[x,y],#[t,t]⟩) (ht:Γ.get t=some ti) (hk:ti.k=.slice et 1 eb ez) (hx:ev s x=.val (.slice B (n-lo) c1)) (hB:B=some ⟨b,lo,none⟩) (hy:ev s y=.val (.slice B2 k c2)) (hB2:B2=some ⟨b,0,none⟩)
  (hq:s.h q=.pin b n cap 1 e l) (hl:l.length=n) (hk2:k≤n) (hpos:0<min k (n-lo)) :
  Good P o s ⟨.val (.int .i64 (min k (n-lo):Nat)),[],[(q,.pin b n cap 1 e (l.take lo++l.take (min k (n-lo))++l.drop (lo+min k (n-lo))))]⟩:=by
 intro κ a w hinv hr ho N Q hN
 have r1:=hr x (by simp[h,Op.operands,Call.operands])
 have r2:=hr y (by simp[h,Op.operands,Call.operands])
 rw[hx]at r1
 rw[hy]at r2
 subst hB
 subst hB2
 have hob:=ho q (.inr (by simp[Up.ws]))
 rw[hq]at hob
 obtain ⟨e0,b',cap',cs,T,fr,e1,e2,e3,e4,e5,e6⟩:=hob
 rw[e0]at e1
 cases e1
 obtain ⟨hu,ii,zv,q1,q2,q3,q4,q5⟩:=Br Γ ht hk
 obtain ⟨mn,hmn⟩:∃ mn,min k (n-lo)=mn:=⟨_,rfl⟩
 rw[hmn]at hpos hN
 have hnc:n≤cs.length:=by omega
 have hall:∀ i,i<n→∃ u:Value,u.cells.size=1∧Ones u.cells.toList∧∀ j,j<1→cs[i * 1+j]? = u.cells[j]?:=fun i hi=>by
  obtain ⟨_,u,_,u2⟩:=e6 i (e l[i]) ⟨by omega,rfl⟩
  exact⟨u,u2⟩
 obtain ⟨news,hnews⟩:∃ news,news=cs.take mn:=⟨_,rfl⟩
 have hnl:news.length=mn:=by rw[hnews,List.length_take];omega
 have hget:∀ p,p<mn→news[p]? = cs[p]?:=fun p hp=>by rw[hnews,List.getElem?_take,if_pos hp]
 have hones:Ones news:=fun v hv=>by
  obtain ⟨p,hp,he⟩:=List.getElem_of_mem hv
  have h1:news[p]? = some v:=by rw[List.getElem?_eq_getElem hp,he]
  rw[hnl]at hp
  rw[hget p hp]at h1
  exact Zo (n:=n) hall qn h1
 obtain ⟨w',f1,f2,f3,f4,f5,f6,f7⟩:=B3 P b lo T fr news 0 cs w e2 e3 qn hones
 obtain ⟨st,inv⟩:=Ke hinv e0 f3 f4 f5 f6 f7
 have hcell:∀ p v,cs[p]? = some v→w.cell? ⟨b,p,none⟩=some v:=fun p v hp=>by simp[World.cell?,e2,hp]
 have hc:=Xb (P:=P) w w' t t o.type et ⟨b,lo,none⟩ ⟨b,0,none⟩ (n-lo) c1 k c2 news hu q1 q2 (by rw[hnl,hmn]) (fun j v hv=>by
  rw[Addr.add_lit]
  have hlt:j<mn:=by rw[← hnl];exact(List.getElem?_eq_some_iff.1 hv).1
  rw[hget j hlt]at hv
  rw[Nat.zero_add]
  exact hcell _ _ hv) f1
 rw[hnl]at hc
 have hrun:(execOp a.eval o).run P w=.ok (.value (.int .i64 (mn:Nat))) w':=by
  simp[execOp,h,resolve,invoke,builtin,r1.val,r2.val,hc]
 simp only[Oper.wp,hrun,Oper.upon]
 refine hN _ κ w' (st.weaken (fun k hk=>by subst hk;simp[Up.ws])) inv (by simp only[Rd]) (fun p hp=>?_)
 simp only[List.mem_singleton]at hp
 subst hp
 refine⟨e0,b,cap,_,T,fr,e0,f2,by rw[Bj];exact e3,by rw[Bj];exact e4,e5,?_⟩
 rintro i z ⟨hi0,rfl⟩
 have hset:=Hx cs news (lo+0)
 have hlen:(l.take lo++l.take mn++l.drop (lo+mn)).length=n:=by
  simp only[List.length_append,List.length_take,List.length_drop];omega
 rw[hlen]at hi0
 have src:∀ j (hj:j<l.length),∃ u:Value,RdD (Own κ) w (e l[j]) u∧u.cells.size=1∧Ones u.cells.toList∧∀ p,p<1→cs[j * 1+p]? = u.cells[p]?:=fun j hj=>(e6 j (e l[j]) ⟨hj,rfl⟩).2
 by_cases hi1:i<lo
 ·obtain ⟨u,u1,u2,u3,u4⟩:=src i qn
  refine⟨hi0,u,?_,u2,u3,fun p hp=>?_⟩
  ·have:(l.take lo++l.take mn++l.drop (lo+mn))[i]'(by rw[hlen];exact hi0)=l[i]'qn:=by
    rw[List.getElem_append_left (by simp only[List.length_append,List.length_take];omega),List.getElem_append_left (by simp only[List.length_take];omega),List.getElem_take]
   rw[this]
   exact RdD.keep st.keeps _ _ u1
  ·rw[hset _ qn,if_neg qn,u4 p hp]
 ·by_cases hi2:i<lo+mn
  ·obtain ⟨u,u1,u2,u3,u4⟩:=src (i-lo) qn
   refine⟨hi0,u,?_,u2,u3,fun p hp=>?_⟩
   ·have:(l.take lo++l.take mn++l.drop (lo+mn))[i]'(by rw[hlen];exact hi0)=l[i-lo]'qn:=by
     rw[List.getElem_append_left (by simp only[List.length_append,List.length_take];omega),List.getElem_append_right (by simp only[List.length_take];omega),List.getElem_take]
     congr 1
     simp only[List.length_take];omega
    rw[this]
    exact RdD.keep st.keeps _ _ u1
   ·rw[hset _ qn,if_pos qn,hget _ qn,← u4 p hp]
    congr 1
    omega
  ·obtain ⟨u,u1,u2,u3,u4⟩:=src i qn
   refine⟨hi0,u,?_,u2,u3,fun p hp=>?_⟩
   ·have:(l.take lo++l.take mn++l.drop (lo+mn))[i]'(by rw[hlen];exact hi0)=l[i]'qn:=by
     rw[List.getElem_append_right (by simp only[List.length_append,List.length_take];omega),List.getElem_drop]
     congr 1
     simp only[List.length_append,List.length_take];omega
    rw[this]
    exact RdD.keep st.keeps _ _ u1
   ·rw[hset _ qn,if_neg qn,u4 p hp]
end Go.Sy
namespace Go.Sy.YtmelpejjondedaaGreat
open Go.Proofs
attribute [local irreducible] Go.Sy.G Go.Sy.DR
set_option maxRecDepth 100000
set_option maxHeartbeats 4000000
theorem Vn (m:Nat) (h:m<4294967296):bits .and .u64 (m:Int) 4294967295=(m:Int):=by
 have:=bits_and_u64_nat m 4294967295 qn qx
 rw[show ((4294967295:Nat):Int)=4294967295 from rfl]at this
 rw[this]
 have h2:=Nat.and_two_pow_sub_one_eq_mod m 32
 rw[show 2 ^ 32-1=4294967295 from rfl,show 2 ^ 32=4294967296 from rfl]at h2
 rw[h2,Nat.mod_eq_of_lt h]
theorem Ab0 (m:Nat) (h:m<4294967296):(m:Int).fdiv (2 ^ (min (Int.toNat 32) IntKind.u64.bits))=0:=by
 show (m:Int).fdiv 4294967296=0
 rw[Int.fdiv_eq_ediv_of_nonneg _ qx]
 omega
theorem mul64S (m:Nat) (h:m<4294967296):Sy.Spec Tryz.prog 154 [A7 1,A7 m] [] (.tup [A7 0,A7 m]) []:=Ab Γ hm 100 F154 Tryz.ntmps154 rfl fun F hF=>by
 have e0:bits .and .u64 1 4294967295=1:=Vn 1 qx
 have e1:(1:Int).fdiv (2 ^ (min (Int.toNat 32) IntKind.u64.bits))=0:=Ab0 1 qx
 have e2:=Vn m h
 have e3:=Ab0 m h
 have w1:IntKind.u64.wrap (1 * (m:Int))=m:=by rw[IntKind.wrap_u64];omega
 have w0:IntKind.u64.wrap (0 * (m:Int))=0:=by rw[IntKind.wrap_u64];omega
 have z0:IntKind.u64.wrap (0+0)=0:=rfl
 have a0:bits .and .u64 0 4294967295=0:=Vn 0 qx
 have s0:(0:Int).fdiv (2 ^ (min (Int.toNat 32) IntKind.u64.bits))=0:=Ab0 0 qx
 conv=>whnf
 rw[e0]
 refine⟨by decide,?_⟩
 rw[e1]
 conv=>whnf
 rw[e2]
 refine⟨by decide,?_⟩
 rw[e3]
 conv=>whnf
 rw[w1,w0]
 refine⟨by decide,?_⟩
 rw[e3]
 conv=>whnf
 rw[z0,a0]
 refine⟨by decide,?_⟩
 rw[s0]
 conv=>whnf
 refine⟨by decide,?_⟩
 conv=>whnf
 refine Ac E (.cons .tmp (.cons .tmp .nil)) ?_ E
 refine congrArg (fun z:Int=>SV.tup [A7 0,A7 z]) ?_
 exact w1.symm
theorem mulS (m:Nat) (h:m<4294967296):Sy.Spec Tryz.prog 83 [A7 1,A7 m] [] (.tup [A7 0,A7 m]) []:=Ab Γ hm 100 F83 Tryz.ntmps83 rfl fun F hF=>by
 ((conv=>whnf);refine aF ?_;refine rg ?_;conv=>whnf)
 refine Ag (mul64S m h) F154 E E E E E ?_
 refine rg ?_;conv=>whnf
 exact Ac E (.cons .tmp (.cons .tmp .nil)) E E
def H1 (m k:Nat):List Bool:=List.replicate k true++List.replicate (m-k) false
theorem Kj (m k:Nat) (h:k≤m):(H1 m k).length=m:=by simp[H1];omega
theorem Ah1 (m:Nat):H1 m m=List.replicate m true:=by simp[H1]
theorem Afj (m k c:Nat) (h:k≤m) (hc:c=min k (m-k)):(H1 m k).take k++(H1 m k).take c++(H1 m k).drop (k+c)=H1 m (k+c):=by
 have e1:(H1 m k).take k=List.replicate k true:=by
  rw[H1,List.take_append_of_le_length qy];simp
 have e2:(H1 m k).take c=List.replicate c true:=by
  rw[H1,List.take_append_of_le_length (by simp;omega)];simp;omega
 have e3:(H1 m k).drop (k+c)=List.replicate (m-(k+c)) false:=by
  rw[H1,List.drop_append,List.drop_eq_nil_of_le qy,List.nil_append]
  simp
  omega
 rw[e1,e2,e3,H1,List.replicate_append_replicate]
theorem Ad9 (m:Nat) (h:m<2147483648):Sy.Spec Tryz.prog 43 [.sl 1 Ad [true],Aa m] [] (.sl 1 Ad (List.replicate m true)) []:=Ab Γ hm 100 F43 Tryz.ntmps43 rfl fun F hF=>by
 have hw:IntKind.u64.wrap (m:Int)=m:=by rw[IntKind.wrap_u64];omega
 have hw2:IntKind.i64.wrap (m:Int)=m:=by rw[IntKind.wrap_i64];omega
 have q:=mulS m qn
 rw[← hw]at q
 ((conv=>whnf);refine aF ?_;refine rg ?_;conv=>whnf)
 refine Ag q F83 E E E E E ?_
 rw[hw]
 (refine rg ?_;(conv=>whnf);refine aF ?_;refine rg ?_;conv=>whnf)
 refine⟨fun h1=>absurd (of_decide_eq_true h1) qn,fun _=>?_⟩
 refine rg ?_;conv=>whnf
 rw[hw2]
 refine Ah (Bt Γ.toTy (d:=30) (n:=m) Ad false E E E E E E E E qn qn E E E) E E ?_
 refine rg ?_;conv=>whnf
 refine Ah (Q3 Γ.toTy (l:=List.replicate m false) (m:=[true]) E E E E E .sl) E E ?_
 have e0:[true].take (List.replicate m false).length++(List.replicate m false).drop [true].length=H1 m (min 1 m):=by
  cases m with
  | zero=>rfl
  | succ m=>simp[H1,Nat.min_eq_left,List.replicate_succ]
 have e1:min [true].length (List.replicate m false).length=min 1 m:=by simp
 rw[e0,e1]
 refine rg ?_;conv=>whnf
 refine Alp (fun k:Nat=>min 1 m≤k∧k≤m) (fun k=>[(7,.osl 30),(8,Aa k)]) (fun k=>[(30,.row 1 Ad (H1 m k))]) (fun k=>m-k) (min 1 m) [] qn ⟨⟨E,E,E,E,Y⟩,⟨.inl E,E,Y⟩,E,E⟩ ?_
 intro k hk
 have hl:=Kj m k hk.2
 refine rg ?_;conv=>whnf
 refine⟨fun h1=>?_,fun h1=>?_⟩
 ·have hlt:k<m:=by have:=of_decide_eq_true h1;rw[hl]at this;omega
  clear h1
  have hk1:1≤k:=by omega
  have hne:H1 m k≠[]:=fun e=>by rw[e]at hl;simp at hl;omega
  refine Aex 30 [7] E hne (fun i hi=>by simp at hi;subst hi;rfl) ?_
  intro b cap hc
  rw[hl]at hc ⊢
  have hcl:¬ cap=k:=by omega
  have hcp:=Afj m k (min k (m-k)) hk.2 rfl
  refine rg ?_;conv=>whnf
  refine Bs (Cg (lo:=k) (hi:=m) Γ.toTy E E E E (.inr ⟨_,_,E,E⟩) (.inl ⟨E,E⟩) qn qn) qq E ?_
  refine rd qq ?_;conv=>whnf
  refine Bs (Cg (lo:=0) (hi:=k) Γ.toTy E E E E (.inl ⟨E,E⟩) (.inr ⟨_,_,E,E⟩) qn qn) qq E ?_
  refine rd qq ?_;conv=>whnf
  refine Bs (V9 Γ.toTy 30 (lo:=k) (k:=k) E E E E (by rw[if_neg hcl,Nat.mul_one]) E (by rw[if_neg qn,Nat.zero_mul]) E hl qn qn) qq E ?_
  refine rd qq ?_;conv=>whnf
  refine⟨by unfold I64;omega,?_⟩
  conv=>whnf
  refine⟨qq,?_⟩
  conv=>whnf
  refine To 30 31 [7] m E E (by rw[hcp,Kj m _ qn];exact Nat.le_refl _) (fun i hi=>by simp at hi;subst hi;rfl) ?_
  have hfin:((H1 m k).take k++(H1 m k).take (min k (m-k))++(H1 m k).drop (k+min k (m-k))).take m=H1 m (k+min k (m-k)):=by
   rw[hcp,List.take_of_length_le (by rw[Kj m _ qn];exact Nat.le_refl _)]
  exact Aj6 (k+min k (m-k)) [(30,31)] qn qn ⟨⟨E,E,E,E,Y⟩,⟨.inl (congrArg (Ob.row 1 Ad) hfin.symm),E,Y⟩,E,E⟩
 ·have hkm:k=m:=by have:=of_decide_eq_false h1;rw[hl]at this;omega
  subst hkm
  rw[Ah1]
  refine rg ?_;conv=>whnf
  refine At 30 E ?_
  exact Ac E (.cons .tmp .nil) E E
def E9 (t:List EntryM):SV:=.sl 3 As t
def Sl (l:List QueuedM):SV:=.sl 7 A4 l
def Qv (n:Net) (k:Nat) (now inj:Int) (d:Nat→Int):List SV :=
 [.sl 5 Bh n.devices,.sl 7 A9 n.ports,.sl 3 Cf n.links,.sl 6 Au n.domains,.sl 4 Bf n.statics,.sl 4 Bw n.floods,.sl 5 Ct n.vrfs,.sl 5 Dn n.irbs,.ptr k 0,.osl 2,.osl 3,.val (.int .i64 now),.val (.int .i64 inj),
 .val (.int .i64 (d 0)),.val (.int .i64 (d 1)),.val (.int .i64 (d 2)),.val (.int .i64 (d 3)),.val (.int .i64 (d 4)),.val (.int .i64 (d 5)),.val (.int .i64 (d 6)),.val (.int .i64 (d 7)),.val (.int .i64 (d 8)),.val (.int .i64 (d 9)),.val (.int .i64 (d 10)),.val (.int .i64 (d 11)),.val (.int .i64 (d 12)),.val (.int .i64 (d 13)),.val (.int .i64 (d 14)),.val (.int .i64 (d 15)),.val (.int .i64 (d 16)),.val (.int .i64 (d 17)),.val (.int .i64 (d 18)),.val (.int .i64 (d 19)),.val (.int .i64 (d 20)),.val (.int .i64 (d 21)),.val (.int .i64 (d 22)),.val (.int .i64 (d 23)),.val (.int .i64 (d 24)),.val (.int .i64 (d 25)),.val (.int .i64 (d 26)),.val (.int .i64 (d 27)),.val (.int .i64 (d 28)),.val (.int .i64 (d 29)),.val (.int .i64 (d 30)),.val (.int .i64 (d 31)),.val (.int .i64 (d 32)),.val (.int .i64 (d 33)),.val (.int .i64 (d 34)),.val (.int .i64 (d 35)),.val (.int .i64 (d 36)),.val (.int .i64 (d 37)),.val (.int .i64 (d 38)),.val (.int .i64 (d 39)),.val (.int .i64 (d 40)),.val (.int .i64 (d 41)),.val (.int .i64 (d 42)),.val (.int .i64 (d 43)),.val (.int .i64 (d 44)),.val (.int .i64 (d 45)),.val (.int .i64 (d 46)),.val (.int .i64 (d 47)),.val (.int .i64 (d 48)),.val (.int .i64 (d 49)),.val (.int .i64 (d 50)),.val (.int .i64 (d 51)),.val (.int .i64 (d 52)),.val (.int .i64 (d 53)),.val (.int .i64 (d 54)),.val (.int .i64 (d 55)),.val (.int .i64 (d 56)),.val (.int .i64 (d 57)),.val (.int .i64 (d 58)),.val (.int .i64 (d 59)),.val (.int .i64 (d 60)),.val (.int .i64 (d 61)),.val (.int .i64 (d 62)),.val (.int .i64 (d 63))]
def onceL (up:List Bool) (done:Int) (fw:List Bool):List SV:=[.sl 1 Ad up,.val (.int .u32 done),.val (.int .i32 0),.val (.int .u32 0),.sl 1 Ad fw]
def I6 (n:Net) (up:List Bool) (d:Bool):List SV:=onceL up (if d then 1 else 0) (if d then Jd n up else [])
def B4 (n:Net) (m:MacM) (d:Bool):Obs:=[(0,.box (Qv n 1 m.now m.injected m.drops)),(1,.box (I6 n m.up d)),(2,.row 1 E9 m.tables),(3,.row 1 Sl m.queues)]
theorem getI_map (f:Nat→SV):∀ (k a n:Nat),k<n→Dm ((List.range' a n).map f) k=some (f (a+k))
 | 0,a,n+1,_=>rfl
 | k+1,a,n+1,h=>by
  show Dm ((List.range' (a+1) n).map f) k=_
  rw[getI_map f k (a+1) n qn]
  congr 2;omega
theorem Ad1 (f:Nat→SV) (x:SV):∀ (k a n:Nat),((List.range' a n).map f).set k x=(List.range' a n).map (fun i=>if i=a+k then x else f i)
 | _,_,0=>rfl
 | 0,a,n+1=>by
  show x::(List.range' (a+1) n).map f=(if a=a+0 then x else f a)::(List.range' (a+1) n).map _
  rw[if_pos qn]
  congr 1
  apply List.map_congr_left
  intro i hi
  have:=(List.mem_range'_1.1 hi).1
  rw[if_neg qn]
 | k+1,a,n+1=>by
  show f a::((List.range' (a+1) n).map f).set k x=(if a=a+(k+1) then x else f a)::(List.range' (a+1) n).map _
  rw[if_neg qn,Ad1 f x k (a+1) n]
  congr 1
  apply List.map_congr_left
  intro i _
  rw[show a+1+k=a+(k+1) by omega]
theorem Mp (n:Net) (k:Nat) (now inj:Int) (d:Nat→Int):Qv n k now inj d =
  .sl 5 Bh n.devices::.sl 7 A9 n.ports::.sl 3 Cf n.links::.sl 6 Au n.domains::.sl 4 Bf n.statics::.sl 4 Bw n.floods::.sl 5 Ct n.vrfs::.sl 5 Dn n.irbs::.ptr k 0::.osl 2::.osl 3::.val (.int .i64 now)::.val (.int .i64 inj) ::
   (List.range' 0 64).map (fun i=>.val (.int .i64 (d i))):=rfl
theorem Aht (n:Net) (k:Nat) (now inj:Int) (d:Nat→Int) (e:Nat) (he:e<64):Dm (Qv n k now inj d) (13+e)=some (.val (.int .i64 (d e))):=by
 rw[Mp,Nat.add_comm]
 show Dm ((List.range' 0 64).map (fun i=>SV.val (.int .i64 (d i)))) e=_
 rw[getI_map _ e 0 64 he,Nat.zero_add]
theorem Ahs (n:Net) (k:Nat) (now inj:Int) (d:Nat→Int) (e:Nat) (v:Int):(Qv n k now inj d).set (13+e) (.val (.int .i64 v))=Qv n k now inj (fun i=>if i=e then v else d i):=by
 rw[Mp,Mp,Nat.add_comm]
 have h:=Ad1 (fun i=>SV.val (.int .i64 (d i))) (.val (.int .i64 v)) e 0 64
 have h2:(fun i=>if i=0+e then SV.val (.int .i64 v) else SV.val (.int .i64 (d i)))=(fun i=>SV.val (.int .i64 (if i=e then v else d i))):=by
  funext i
  rw[Nat.zero_add]
  split<;>rfl
 rw[h2]at h
 rw[← h]
 rfl
theorem add64 (a:Addr) (x y:Int) (w:World) (hc:w.cell? a=some (.int .i64 x)) (hz:w.frozen? a=false):(callFunc 257 #[.pointer (some a),.int .i64 y]).run Tryz.prog w=.ok (.value (.int .i64 (IntKind.i64.wrap (x+y)))) (w.setCell a (.int .i64 (IntKind.i64.wrap (x+y)))) :=
 run_call_add Tryz.func257 qq qq qq .i64 qq hc hz rfl
theorem Afd (n:Net) (k:Nat) (m:MacM) (e:Int):Qv n k m.now m.injected (By m e).drops=(Qv n k m.now m.injected m.drops).set (13+e.toNat) (.val (.int .i64 (m.drops e.toNat+1))):=by
 rw[Ahs]
 congr 1
 funext i
 show (if i=e.toNat then m.drops i+1 else m.drops i)=_
 split
 ·rename_i h;rw[h]
 ·rfl
theorem Adg {x:Int} (h:0≤x∧x≤1000000000000):IntKind.i64.wrap (x+1)=x+1:=by
 rw[IntKind.wrap_i64];omega
theorem Adp (n:Net) (m:MacM) (d:Bool) (e:Int) (h0:0≤e) (h1:e<64) (hb:IntKind.i64.wrap (m.drops e.toNat+1)=m.drops e.toNat+1) :
  Sy.Spec Tryz.prog 181 [.ptr 0 (13+e.toNat),Aa 1] (B4 n m d) (Aa (m.drops e.toNat+1)) (B4 n (By m e) d):=Ab Γ hm 100 F181 Tryz.ntmps181 rfl fun F hF=>by
 have hg:=Aht n 1 m.now m.injected m.drops e.toNat qn
 have hs:=Afd n 1 m e
 have hlt:=Tk hg
 conv=>whnf
 refine Ah (Yf add64 E E E E hg hb) E E ?_
 refine rg ?_;conv=>whnf
 exact done E (.cons .tmp .nil) [] (B4 n (By m e) d) (fun _ h=>h) E E ⟨Y,⟨.inl (congrArg Ob.box hs),E,.inl E,E,.inl E,E,.inl E,E,Y⟩,E,E⟩
theorem Aa5 (n:Net) (m:MacM) (d:Bool) (e:Int) (h0:0≤e) (h1:e<64) (hb:0≤m.drops e.toNat∧m.drops e.toNat≤1000000000000) :
  Sy.Spec Tryz.prog 104 [.ptr 0 0,Aa e] (B4 n m d) (.tup []) (B4 n (By m e) d):=Ab Γ hm 100 F104 Tryz.ntmps104 rfl fun F hF=>by
 conv=>whnf
 refine⟨h0,by omega,?_⟩
 refine rg ?_;conv=>whnf
 refine Ah (Ai [] E F181 (Adp n m d e h0 h1 (Adg hb)) (congrArg (fun z=>[SV.ptr 0 z,Aa 1]) (show 13+e.toNat=0+13+e.toNat * 1 by omega)) ⟨E,E,E,E,Y⟩ E ⟨.inl E,.inl E,.inl E,.inl E,Y⟩) E E ?_
 refine rg ?_;conv=>whnf
 exact Bg E .nil [] (B4 n (By m e) d) (fun _ h=>h) E E ⟨Y,⟨.inl E,E,.inl E,E,.inl E,E,.inl E,E,Y⟩,E,E⟩
theorem Xr (n:Net) (m:MacM) (d:Bool) (dom:Int) :
  Sy.Spec Tryz.prog 46 [.ptr 0 0,Aa dom] (B4 n m d) (Ad (Aj dom m.queues.length)) (B4 n m d):=Ab Γ hm 100 F46 Tryz.ntmps46 rfl fun F hF=>by
 have hres:Aj dom m.queues.length=(decide (0≤dom) && decide (dom<m.queues.length)):=rfl
 generalize Aj dom m.queues.length=res at *
 ((conv=>whnf);refine aT ?_;refine rg ?_;conv=>whnf)
 refine⟨fun h=>?_,fun h=>?_⟩
 ·refine rg ?_;conv=>whnf
  (skip)
  refine done E (.cons .tmp .nil) [] (B4 n m d) (fun _ h=>h) ?_ E ⟨Y,⟨.inl E,E,.inl E,E,.inl E,E,.inl E,E,Y⟩,E,E⟩
  rw[hres,h]
  rfl
 ·refine rg ?_;conv=>whnf
  (skip)
  refine done E (.cons .tmp .nil) [] (B4 n m d) (fun _ h=>h) ?_ E ⟨Y,⟨.inl E,E,.inl E,E,.inl E,E,.inl E,E,Y⟩,E,E⟩
  rw[hres,h]
  rfl
theorem Ti (a b:Nat) (ha:a<4294967296) (hb:b<4294967296):bits .or .u32 (a:Int) (b:Int)=((a ||| b:Nat):Int):=by
 have hx:a ||| b<2 ^ 32:=Nat.or_lt_two_pow qn qn
 have h1:(BitVec.ofInt 32 (a:Int)).toNat=a:=by
  rw[BitVec.ofInt_natCast,BitVec.toNat_ofNat];exact Nat.mod_eq_of_lt qn
 have h2:(BitVec.ofInt 32 (b:Int)).toNat=b:=by
  rw[BitVec.ofInt_natCast,BitVec.toNat_ofNat];exact Nat.mod_eq_of_lt qn
 show IntKind.u32.wrap ((BitVec.ofInt 32 (a:Int) ||| BitVec.ofInt 32 (b:Int)).toNat:Int)=_
 rw[BitVec.toNat_or,h1,h2,IntKind.wrap_u32]
 omega
theorem Aeq (x:UInt8) (k:UInt8):((x.toNat:Int) != (k.toNat:Int))=decide (x≠k):=by
 rw[Bool.eq_iff_iff]
 simp only[bne_iff_ne,decide_eq_true_eq,ne_eq,← UInt8.toNat_inj]
 omega
theorem Oy (b:List UInt8) (k:Nat) (h:k+2≤b.length) (hb:b.length<100000):Sy.Spec Tryz.prog 294 [.sl 1 Ak b,Aa k] [] (Aa (numAt b k 2)) []:=Ab Γ hm 100 F294 Tryz.ntmps294 rfl fun F hF=>by
 have i0:((k:Nat):Int).toNat<b.length:=by simpa using (by omega:k<b.length)
 have i1:((k:Int)+1).toNat<b.length:=by omega
 have e0:b[((k:Nat):Int).toNat]'i0=b[k]'qn:=rfl
 have e1:b[((k:Int)+1).toNat]'i1=b[k+1]'qn:=rfl
 have hp:=D0 (b[k]'qn) (b[k+1]'qn)
 have hn:=Mq h
 rw[← hn]at hp
 conv=>whnf
 refine⟨E,by omega,i0,?_⟩
 rw[e0]
 conv=>whnf
 refine⟨by decide,?_⟩
 conv=>whnf
 refine⟨by unfold I64;omega,?_⟩
 conv=>whnf
 refine⟨E,by omega,i1,?_⟩
 rw[e1]
 conv=>whnf
 refine⟨qq,?_⟩
 rw[hp]
 conv=>whnf
 exact Ac E (.cons .tmp .nil) E E
theorem Ahc (x y:Nat) (hx:x<65536) (hy:y<65536):bits .or .u32 (IntKind.u32.wrap ((IntKind.u32.wrap (x:Int)) * 2 ^ min (Int.toNat 16) IntKind.u32.bits)) (IntKind.u32.wrap (y:Int))=((x * 65536+y:Nat):Int):=by
 have e1:IntKind.u32.wrap (x:Int)=(x:Int):=by rw[IntKind.wrap_u32];omega
 have e2:IntKind.u32.wrap (y:Int)=(y:Int):=by rw[IntKind.wrap_u32];omega
 rw[e1,e2]
 have e3:IntKind.u32.wrap ((x:Int) * 2 ^ min (Int.toNat 16) IntKind.u32.bits)=((x * 65536:Nat):Int):=by
  show IntKind.u32.wrap ((x:Int) * 65536)=_
  rw[IntKind.wrap_u32]
  omega
 rw[e3,Ti _ _ qn qn]
 congr 1
 have h:=Nat.two_pow_add_eq_or_of_lt (i:=16) (b:=y) qn x
 rw[Nat.mul_comm x 65536]
 exact h.symm
theorem Aei (b:List UInt8) (k:Nat) (h:k+4≤b.length) (hb:b.length<100000):Sy.Spec Tryz.prog 296 [.sl 1 Ak b,Aa k] [] (Cd (numAt b k 4)) []:=Ab Γ hm 100 F296 Tryz.ntmps296 rfl fun F hF=>by
 have q1:=Oy b k qn hb
 have q2:=Oy b (k+2) qn hb
 rw[show ((k+2:Nat):Int)=(k:Int)+2 by omega]at q2
 have hf:=Ahc (numAt b k 2) (numAt b (k+2) 2) (by have:=I7 b k 2;omega) (by have:=I7 b (k+2) 2;omega)
 rw[← numAt4 h]at hf
 conv=>whnf
 refine Ag q1 F294 E E E E E ?_
 refine rg ?_;conv=>whnf
 refine⟨by decide,?_⟩
 conv=>whnf
 refine⟨by unfold I64;omega,?_⟩
 conv=>whnf
 refine Ag q2 F294 E E E E E ?_
 refine rg ?_;conv=>whnf
 rw[hf]
 exact Ac E (.cons .tmp .nil) E E
theorem Ae5 (l:List UInt8) (hl:l.length<100000) (h2:l.length % 2=0):Sy.Spec Tryz.prog 295 [.sl 1 Ak l] [] (Ad (decide (Ew (M3 l (l.length / 2))=65535))) []:=Ab Γ hm 100 F295 Tryz.ntmps295 rfl fun F hF=>by
 have ha:=Adz l hl h2
 conv=>whnf
 refine Ag ha F329 E E E E E ?_
 refine rg ?_;conv=>whnf
 refine Ac E (.cons .tmp .nil) (congrArg Ad ?_) E
 rw[Bool.eq_iff_iff]
 simp only[beq_iff_eq,decide_eq_true_eq]
 omega
abbrev zP:List SV:=[Aa 0,Aa 0,Aa 0,Aa 0,Cd 0,Cd 0,.sl 1 Ak []]
theorem Aeg (b:List UInt8) (hb:b.length<100000):Sy.Spec Tryz.prog 245 [.sl 1 Ak b] [] (.tup [On (ipTakeT b).1,Aa (ipTakeT b).2]) []:=Ab Γ hm 100 F245 Tryz.ntmps245 rfl fun F hF=>by
 have hres:=ipTakeT.eq_1 b
 generalize ipTakeT b=res at *
 conv=>whnf
 refine⟨fun h=>?_,fun h=>?_⟩
 ·rw[if_pos (by have:=of_decide_eq_true h;omega)]at hres
  subst hres
  refine rg ?_;conv=>whnf
  refine A0 2 zP E (.cons (.refl _) (.cons (.refl _) (.cons (.refl _) (.cons (.refl _) (.cons (.refl _) (.cons (.refl _) (.cons .nil .nil))))))) ?_
  exact Ac E (.cons (.cell E E E E) (.cons .tmp .nil)) E E
 have h20:20≤b.length:=by have:=of_decide_eq_false h;omega
 rw[if_neg qn]at hres
 clear h
 have i0:(0:Int).toNat<b.length:=by show 0<_;omega
 have i1:(1:Int).toNat<b.length:=by show 1<_;omega
 have i8:(8:Int).toNat<b.length:=by show 8<_;omega
 have i9:(9:Int).toNat<b.length:=by show 9<_;omega
 have e0:b[(0:Int).toNat]'i0=bAt b 0:=(Y1 qn).symm
 have q2:=Oy b 2 qn hb
 have q4:=Oy b 4 qn hb
 have q6:=Oy b 6 qn hb
 have q12:=Aei b 12 qn hb
 have q16:=Aei b 16 qn hb
 have hl20:(b.take 20).length=20:=by rw[List.length_take];omega
 have hdiv:(b.take 20).length / 2=10:=by rw[hl20]
 have qs:=Ae5 (b.take 20) qn (by rw[hl20])
 rw[hdiv]at qs
 refine rg ?_;conv=>whnf
 refine⟨E,by decide,i0,?_⟩
 rw[e0]
 conv=>whnf
 refine⟨fun h=>?_,fun h=>?_⟩
 ·rw[if_pos (.inl (by rw[show ((69:Int))=((69:UInt8).toNat:Int) from rfl,Aeq]at h;exact of_decide_eq_true h))]at hres
  subst hres
  (refine rg ?_;(conv=>whnf);refine aT ?_;refine rg ?_;conv=>whnf)
  refine A0 2 zP E (.cons (.refl _) (.cons (.refl _) (.cons (.refl _) (.cons (.refl _) (.cons (.refl _) (.cons (.refl _) (.cons .nil .nil))))))) ?_
  exact Ac E (.cons (.cell E E E E) (.cons .tmp .nil)) E E
 have h69:¬ bAt b 0≠69:=by rw[show ((69:Int))=((69:UInt8).toNat:Int) from rfl,Aeq]at h;exact of_decide_eq_false h
 clear h
 refine rg ?_;conv=>whnf
 refine Ag q2 F294 E E E E E ?_
 refine rg ?_;conv=>whnf
 refine⟨fun h=>?_,fun h=>?_⟩
 ·rw[if_pos (.inr (by have:=of_decide_eq_true h;omega))]at hres
  subst hres
  refine rg ?_;conv=>whnf
  refine A0 2 zP E (.cons (.refl _) (.cons (.refl _) (.cons (.refl _) (.cons (.refl _) (.cons (.refl _) (.cons (.refl _) (.cons .nil .nil))))))) ?_
  exact Ac E (.cons (.cell E E E E) (.cons .tmp .nil)) E E
 have hs20:20≤numAt b 2 2:=by have:=of_decide_eq_false h;omega
 rw[if_neg (fun h=>h.elim h69 qn)]at hres
 clear h
 refine rg ?_;conv=>whnf
 refine Ag q2 F294 E E E E E ?_
 refine rg ?_;conv=>whnf
 refine⟨fun h=>?_,fun h=>?_⟩
 ·rw[if_pos (by have:=of_decide_eq_true h;omega)]at hres
  subst hres
  refine rg ?_;conv=>whnf
  refine A0 2 zP E (.cons (.refl _) (.cons (.refl _) (.cons (.refl _) (.cons (.refl _) (.cons (.refl _) (.cons (.refl _) (.cons .nil .nil))))))) ?_
  exact Ac E (.cons (.cell E E E E) (.cons .tmp .nil)) E E
 have hsl:numAt b 2 2≤b.length:=by have:=of_decide_eq_false h;omega
 rw[if_neg qn]at hres
 clear h
 refine rg ?_;conv=>whnf
 refine Ag q6 F294 E E E E E ?_
 refine rg ?_;conv=>whnf
 refine⟨fun h=>?_,fun h=>?_⟩
 ·rw[if_pos (by have:(numAt b 6 2:Int)≠0:=(by simpa using h);omega)]at hres
  subst hres
  refine rg ?_;conv=>whnf
  refine A0 2 zP E (.cons (.refl _) (.cons (.refl _) (.cons (.refl _) (.cons (.refl _) (.cons (.refl _) (.cons (.refl _) (.cons .nil .nil))))))) ?_
  exact Ac E (.cons (.cell E E E E) (.cons .tmp .nil)) E E
 rw[if_neg (by have:(numAt b 6 2:Int)=0:=(by simpa using h);omega)]at hres
 clear h
 refine rg ?_;conv=>whnf
 refine Ah (Ch (lo:=0) (hi:=20) Γ.toTy E E E E (.inl ⟨E,E⟩) (.inr ⟨_,_,E,E⟩) qn h20) E E ?_
 refine rg ?_;conv=>whnf
 refine Ag qs F295 E E E E E ?_
 by_cases hsum:Ew (M3 (b.take 20) 10)=65535
 rotate_left
 ·rw[if_pos hsum]at hres
  subst hres
  rw[decide_eq_false hsum]
  (refine rg ?_;(conv=>whnf);refine aT ?_;refine rg ?_;conv=>whnf)
  refine A0 2 zP E (.cons (.refl _) (.cons (.refl _) (.cons (.refl _) (.cons (.refl _) (.cons (.refl _) (.cons (.refl _) (.cons .nil .nil))))))) ?_
  exact Ac E (.cons (.cell E E E E) (.cons .tmp .nil)) E E
 rw[if_neg (fun h=>h hsum)]at hres
 subst hres
 rw[decide_eq_true hsum]
 have qc:=E2 ((b.take (numAt b 2 2)).drop 20) (by rw[List.length_drop,List.length_take];omega)
 have w1:IntKind.i64.wrap ((b[(1:Int).toNat]'i1).toNat:Int)=((bAt b 1).toNat:Int):=by
  rw[Y1 (show 1<b.length by omega)]
  have:=(b[1]'qn).toNat_lt
  show IntKind.i64.wrap ((b[1]'qn).toNat:Int)=_
  rw[IntKind.wrap_i64];omega
 have w8:IntKind.i64.wrap ((b[(8:Int).toNat]'i8).toNat:Int)=((bAt b 8).toNat:Int):=by
  rw[Y1 (show 8<b.length by omega)]
  have:=(b[8]'qn).toNat_lt
  show IntKind.i64.wrap ((b[8]'qn).toNat:Int)=_
  rw[IntKind.wrap_i64];omega
 have w9:IntKind.i64.wrap ((b[(9:Int).toNat]'i9).toNat:Int)=((bAt b 9).toNat:Int):=by
  rw[Y1 (show 9<b.length by omega)]
  have:=(b[9]'qn).toNat_lt
  show IntKind.i64.wrap ((b[9]'qn).toNat:Int)=_
  rw[IntKind.wrap_i64];omega
 (refine rg ?_;(conv=>whnf);refine aF ?_;refine rg ?_;conv=>whnf)
 refine⟨E,by decide,i1,?_⟩
 conv=>whnf
 refine Ay q4 F294 E E E qq E ?_
 refine rd qq ?_;conv=>whnf
 refine⟨E,by decide,i8,?_⟩
 conv=>whnf
 refine⟨E,by decide,i9,?_⟩
 conv=>whnf
 refine Ay q12 F296 E E E qq E ?_
 refine rd qq ?_;conv=>whnf
 refine Ay q16 F296 E E E qq E ?_
 refine rd qq ?_;conv=>whnf
 refine Ay q2 F294 E E E qq E ?_
 refine rd qq ?_;conv=>whnf
 refine Bs (Ch (lo:=20) (hi:=numAt b 2 2) Γ.toTy E E E E (.inr ⟨_,_,E,E⟩) (.inr ⟨_,_,E,E⟩) hs20 hsl) qq E ?_
 refine rd qq ?_;conv=>whnf
 refine Ay qc F63 E E E qq E ?_
 refine rd qq ?_;conv=>whnf
 refine⟨qq,?_⟩
 conv=>whnf
 refine Ac E (.cons (.cell E E E E) (.cons .tmp .nil)) ?_ E
 show SV.tup [.agg [Aa (bAt b 1).toNat,_,Aa (bAt b 8).toNat,Aa (bAt b 9).toNat,_,_,_],_]=SV.tup [.agg [Aa (IntKind.i64.wrap ((b[(1:Int).toNat]'i1).toNat:Int)),_,Aa (IntKind.i64.wrap ((b[(8:Int).toNat]'i8).toNat:Int)),Aa (IntKind.i64.wrap ((b[(9:Int).toNat]'i9).toNat:Int)),_,_,_],_]
 rw[w1,w8,w9]
 rfl
theorem Aib (t:Nat) (h:t≤255):bits .or .i64 17664 (t:Int)=((17664+t:Nat):Int):=by
 have h1:=Cr 17664 t qx qn
 rw[show ((17664:Nat):Int)=17664 from rfl]at h1
 rw[h1]
 congr 1
 have h2:=Nat.two_pow_add_eq_or_of_lt (i:=8) (b:=t) qn 69
 rw[show 2 ^ 8 * 69=17664 from rfl]at h2
 rw[← h2]
theorem Aks (x y:Nat) (hx:x≤255) (hy:y≤255):bits .or .i64 (IntKind.i64.wrap ((x:Int) * 2 ^ min (Int.toNat 8) IntKind.i64.bits)) (y:Int)=((x * 256+y:Nat):Int):=by
 have h3:IntKind.i64.wrap ((x:Int) * 2 ^ min (Int.toNat 8) IntKind.i64.bits)=((x * 256:Nat):Int):=by
  show IntKind.i64.wrap ((x:Int) * 256)=_
  rw[IntKind.wrap_i64]
  omega
 rw[h3,Cr _ _ qn qn]
 congr 1
 have h:=Nat.two_pow_add_eq_or_of_lt (i:=8) (b:=y) qn x
 rw[Nat.mul_comm x 256]
 exact h.symm
theorem Aar (x:Nat) (h:x<4294967296):IntKind.i64.wrap ((x:Int).fdiv (2 ^ (min (Int.toNat 16) IntKind.u32.bits)))=((x / 65536:Nat):Int):=by
 show IntKind.i64.wrap ((x:Int).fdiv 65536)=_
 rw[Int.fdiv_eq_ediv_of_nonneg _ qx,IntKind.wrap_i64]
 omega
theorem Aee (x:Nat) (h:x<4294967296):IntKind.i64.wrap (x:Int)=(x:Int):=by rw[IntKind.wrap_i64];omega
theorem Aeh (p:PacketM) (hp:PacketOK p) (hb:p.body.length<100000):Sy.Spec Tryz.prog 248 [On p] [] (.tup [.sl 1 Ak (ipPutT p).1,Aa (ipPutT p).2]) []:=Ab Γ hm 100 F248 Tryz.ntmps248 rfl fun F hF=>by
 have hres:=ipPutT.eq_1 p
 generalize ipPutT p=res at *
 have h1:=hp.tos
 have h2:=hp.id
 have h3:=hp.ttl
 have h4:=hp.proto
 have h5:=hp.src
 have h6:=hp.dst
 conv=>whnf
 refine Dv ⟨⟨_,_,F303⟩,Xq p.tos 255 qn⟩ E E E E E E ?_
 (refine rg ?_;(conv=>whnf);refine aF ?_;refine rg ?_;conv=>whnf)
 refine Dv ⟨⟨_,_,F303⟩,Xq p.ttl 255 qn⟩ E E E E E E ?_
 (refine rg ?_;(conv=>whnf);refine aF ?_;refine rg ?_;conv=>whnf)
 refine Dv ⟨⟨_,_,F303⟩,Xq p.proto 255 qn⟩ E E E E E E ?_
 (refine rg ?_;(conv=>whnf);refine aF ?_;refine rg ?_;conv=>whnf)
 refine Dv ⟨⟨_,_,F303⟩,Xq p.id 65535 qn⟩ E E E E E E ?_
 (refine rg ?_;(conv=>whnf);refine aF ?_;refine rg ?_;conv=>whnf)
 refine⟨fun h=>?_,fun h=>?_⟩
 ·rw[if_pos (by have:=of_decide_eq_true h;omega)]at hres
  subst hres
  refine rg ?_;conv=>whnf
  refine Ao 2 1 Ak E ?_
  exact Ac E (.cons .tmp (.cons .tmp .nil)) E E
 have hl:p.body.length≤1480:=by have:=of_decide_eq_false h;omega
 rw[if_neg qn]at hres
 subst hres
 clear h
 have hsz:Tb p=((Hi p 0).set 10 (UInt8.ofNat (Wv p / 256))).set 11 (UInt8.ofNat (Wv p))++p.body:=by rw[Ac0,Tb]
 rw[hsz]
 have hil:=Me p 0
 have hs:=sumOfS (Hi p 0) (by rw[hil];decide) (by rw[hil])
 have hput:=Aiy [17664+p.tos,20+p.body.length,p.id,0,p.ttl * 256+p.proto,0,p.src / 65536,p.src,p.dst / 65536,p.dst] qy
 rw[show H6 [17664+p.tos,20+p.body.length,p.id,0,p.ttl * 256+p.proto,0,p.src / 65536,p.src,p.dst / 65536,p.dst]=Hi p 0 from rfl]at hput
 have hss:Ady (Hi p 0)=Wv p:=rfl
 rw[hss]at hs
 have hsl:Wv p≤65535:=Nat.sub_le _ _
 generalize Wv p=s at *
 have htb:=Dw s
 have o1:=Aib p.tos h1
 have o2:=Aks p.ttl p.proto h3 h4
 have g1:=Aar p.src h5
 have g2:=Aee p.src h5
 have g3:=Aar p.dst h6
 have g4:=Aee p.dst h6
 generalize Hi p 0=b at *
 refine rg ?_;conv=>whnf
 refine⟨by unfold I64;omega,?_⟩
 conv=>whnf
 refine⟨by decide,?_⟩
 conv=>whnf
 refine⟨by decide,?_⟩
 conv=>whnf
 refine⟨by decide,?_⟩
 conv=>whnf
 refine Abm 68 (e:=Aim) (l:=[17664+p.tos,20+p.body.length,p.id,0,p.ttl * 256+p.proto,0,p.src / 65536,p.src,p.dst / 65536,p.dst]) E ?_ ?_
 ·show _=[SV.val (.int .i64 (bits .or .i64 17664 (p.tos:Int))),SV.val _,SV.val _,SV.val _,SV.val (.int .i64 (bits .or .i64 (IntKind.i64.wrap ((p.ttl:Int) * 2 ^ min (Int.toNat 8) IntKind.i64.bits)) (p.proto:Int))),SV.val _,
   SV.val (.int .i64 (IntKind.i64.wrap ((p.src:Int).fdiv (2 ^ (min (Int.toNat 16) IntKind.u32.bits))))),SV.val (.int .i64 (IntKind.i64.wrap (p.src:Int))),SV.val (.int .i64 (IntKind.i64.wrap ((p.dst:Int).fdiv (2 ^ (min (Int.toNat 16) IntKind.u32.bits))))),SV.val (.int .i64 (IntKind.i64.wrap (p.dst:Int)))]
  rw[o1,o2,g1,g2,g3,g4]
  rfl
 refine At 68 E ?_
 refine Ah (Ai [(0,69)] E F304 hput E Y E ⟨.inr E,Y⟩) E E ?_
 refine rg ?_;conv=>whnf
 refine Aep [69] hs F305 E (.cons (.row E E) .nil) E E E ?_
 refine rg ?_;conv=>whnf
 have hb1:=(List.cons.inj htb).1
 have hb2:=(List.cons.inj (List.cons.inj htb).2).1
 refine⟨by omega,?_⟩
 conv=>whnf
 refine⟨by decide,by rw[hil];decide,?_⟩
 conv=>whnf
 refine⟨E,by rw[hil];decide,UInt8.ofNat (s / 256),congrArg (fun z=>[z]) hb1,E,?_⟩
 conv=>whnf
 refine⟨by decide,by simp[hil],?_⟩
 conv=>whnf
 refine⟨E,by simp[hil],UInt8.ofNat s,congrArg (fun z=>[z]) hb2,E,?_⟩
 conv=>whnf
 refine Ah (Al Γ.toTy 84 E E E E E (.row E) .sl qx (by simp[hil];omega) (by simp[hil];omega)) E E ?_
 refine At 84 E ?_
 refine rg ?_;conv=>whnf
 exact Ac E (.cons .tmp (.cons .tmp .nil)) E E
def hop1 (p:PacketM):PacketM × Int:=if p.ttl≤1 then (noP,13) else (Ac3 p,0)
theorem ipHopS (p:PacketM) (hb:p.body.length<100000) (ht:p.ttl≤255):Sy.Spec Tryz.prog 246 [On p] [] (.tup [On (hop1 p).1,Aa (hop1 p).2]) []:=Ab Γ hm 100 F246 Tryz.ntmps246 rfl fun F hF=>by
 have hres:=hop1.eq_1 p
 generalize hop1 p=res at *
 have qc:=E2 p.body qn
 conv=>whnf
 refine⟨fun h=>?_,fun h=>?_⟩
 ·rw[if_pos (by have:=of_decide_eq_true h;omega)]at hres
  subst hres
  refine rg ?_;conv=>whnf
  refine A0 2 zP E (.cons (.refl _) (.cons (.refl _) (.cons (.refl _) (.cons (.refl _) (.cons (.refl _) (.cons (.refl _) (.cons .nil .nil))))))) ?_
  exact Ac E (.cons (.cell E E E E) (.cons .tmp .nil)) E E
 have h2:¬ p.ttl≤1:=by have:=of_decide_eq_false h;omega
 rw[if_neg h2]at hres
 subst hres
 have e:((p.ttl-1:Nat):Int)=(p.ttl:Int)-1:=by omega
 refine rg ?_;conv=>whnf
 refine⟨by unfold I64;omega,?_⟩
 conv=>whnf
 refine Ag qc F63 E E E E E ?_
 refine rg ?_;conv=>whnf
 refine Ac E (.cons (.cell E E E E) (.cons .tmp .nil)) ?_ E
 show SV.tup [.agg [_,_,Aa ((p.ttl-1:Nat):Int),_,_,_,_],_]=SV.tup [.agg [_,_,Aa ((p.ttl:Int)-1),_,_,_,_],_]
 rw[e]
 rfl
def udpU (b:List UInt8):Nat→List SV
 | 0=>[Aa 0,Aa 0,Aa 0,Aa 0]
 | 1=>[Aa (numAt b 0 2),Aa 0,Aa 0,Aa 0]
 | 2=>[Aa (numAt b 0 2),Aa (numAt b 2 2),Aa 0,Aa 0]
 | 3=>[Aa (numAt b 0 2),Aa (numAt b 2 2),Aa (numAt b 4 2),Aa 0]
 | _=>[Aa (numAt b 0 2),Aa (numAt b 2 2),Aa (numAt b 4 2),Aa (numAt b 6 2)]
theorem Ag9 (b:List UInt8) (hb:b.length<100000):Sy.Spec Tryz.prog 339 [.sl 1 Ak b] [] (.tup [Aa (udpTakeT b).1,Aa (udpTakeT b).2.1,.sl 1 Ak (udpTakeT b).2.2.1,Aa (udpTakeT b).2.2.2]) []:=Ab Γ hm 100 F339 Tryz.ntmps339 rfl fun F hF=>by
 have hres:=udpTakeT.eq_1 b
 generalize udpTakeT b=res at *
 conv=>whnf
 refine⟨fun h=>?_,fun h=>?_⟩
 ·rw[if_pos (by have:=of_decide_eq_true h;omega)]at hres
  subst hres
  refine rg ?_;conv=>whnf
  refine Ao 4 1 Ak E ?_
  exact Ac E (.cons .tmp (.cons .tmp (.cons .tmp (.cons .tmp .nil)))) E E
 have h8:8≤b.length:=by have:=of_decide_eq_false h;omega
 rw[if_neg qn]at hres
 clear h
 have hp0:=D0 (b[0]'qn) (b[1]'qn)
 rw[← Mq (show 0+2≤b.length by omega)]at hp0
 have hp1:=D0 (b[2]'qn) (b[3]'qn)
 rw[← Mq (show 2+2≤b.length by omega)]at hp1
 have hp2:=D0 (b[4]'qn) (b[5]'qn)
 rw[← Mq (show 4+2≤b.length by omega)]at hp2
 have hp3:=D0 (b[6]'qn) (b[7]'qn)
 rw[← Mq (show 6+2≤b.length by omega)]at hp3
 refine rg ?_;conv=>whnf
 refine A1 4 (fun j=>[(0,.sl 1 Ak b),(6,.ptr 6 0),(11,Aa j)]) (fun j=>[(6,.box (udpU b j))]) [] ⟨⟨E,E,E,E,E,E,Y⟩,⟨.inl E,E,Y⟩,E,E⟩ ?_
 intro j hj
 have hcase:j=0∨j=1∨j=2∨j=3∨j=4:=by omega
 rcases hcase with rfl | rfl | rfl | rfl | rfl
 ·(refine rg ?_;(conv=>whnf);refine aT ?_;refine rg ?_;conv=>whnf)
  refine⟨by unfold I64;omega,?_⟩
  conv=>whnf
  refine⟨E,by omega,by omega,?_⟩
  conv=>whnf
  refine⟨by decide,?_⟩
  conv=>whnf
  refine⟨by unfold I64;omega,?_⟩
  conv=>whnf
  refine⟨by unfold I64;omega,?_⟩
  conv=>whnf
  refine⟨E,by omega,by omega,?_⟩
  conv=>whnf
  refine⟨by decide,by decide,?_⟩
  conv=>whnf
  refine⟨qq,?_⟩
  conv=>whnf
  refine⟨by unfold I64;omega,?_⟩
  conv=>whnf
  exact Ar [] qx ⟨⟨E,E,E,E,E,E,Y⟩,⟨.inl (congrArg (fun z:Int=>Ob.box [Aa z,Aa 0,Aa 0,Aa 0]) hp0.symm),E,Y⟩,E,E⟩
 ·(refine rg ?_;(conv=>whnf);refine aT ?_;refine rg ?_;conv=>whnf)
  refine⟨by unfold I64;omega,?_⟩
  conv=>whnf
  refine⟨E,by omega,by omega,?_⟩
  conv=>whnf
  refine⟨by decide,?_⟩
  conv=>whnf
  refine⟨by unfold I64;omega,?_⟩
  conv=>whnf
  refine⟨by unfold I64;omega,?_⟩
  conv=>whnf
  refine⟨E,by omega,by omega,?_⟩
  conv=>whnf
  refine⟨by decide,by decide,?_⟩
  conv=>whnf
  refine⟨qq,?_⟩
  conv=>whnf
  refine⟨by unfold I64;omega,?_⟩
  conv=>whnf
  exact Ar [] qx ⟨⟨E,E,E,E,E,E,Y⟩,⟨.inl (congrArg (fun z:Int=>Ob.box [Aa (numAt b 0 2),Aa z,Aa 0,Aa 0]) hp1.symm),E,Y⟩,E,E⟩
 ·(refine rg ?_;(conv=>whnf);refine aT ?_;refine rg ?_;conv=>whnf)
  refine⟨by unfold I64;omega,?_⟩
  conv=>whnf
  refine⟨E,by omega,by omega,?_⟩
  conv=>whnf
  refine⟨by decide,?_⟩
  conv=>whnf
  refine⟨by unfold I64;omega,?_⟩
  conv=>whnf
  refine⟨by unfold I64;omega,?_⟩
  conv=>whnf
  refine⟨E,by omega,by omega,?_⟩
  conv=>whnf
  refine⟨by decide,by decide,?_⟩
  conv=>whnf
  refine⟨qq,?_⟩
  conv=>whnf
  refine⟨by unfold I64;omega,?_⟩
  conv=>whnf
  exact Ar [] qx ⟨⟨E,E,E,E,E,E,Y⟩,⟨.inl (congrArg (fun z:Int=>Ob.box [Aa (numAt b 0 2),Aa (numAt b 2 2),Aa z,Aa 0]) hp2.symm),E,Y⟩,E,E⟩
 ·(refine rg ?_;(conv=>whnf);refine aT ?_;refine rg ?_;conv=>whnf)
  refine⟨by unfold I64;omega,?_⟩
  conv=>whnf
  refine⟨E,by omega,by omega,?_⟩
  conv=>whnf
  refine⟨by decide,?_⟩
  conv=>whnf
  refine⟨by unfold I64;omega,?_⟩
  conv=>whnf
  refine⟨by unfold I64;omega,?_⟩
  conv=>whnf
  refine⟨E,by omega,by omega,?_⟩
  conv=>whnf
  refine⟨by decide,by decide,?_⟩
  conv=>whnf
  refine⟨qq,?_⟩
  conv=>whnf
  refine⟨by unfold I64;omega,?_⟩
  conv=>whnf
  exact Ar [] qx ⟨⟨E,E,E,E,E,E,Y⟩,⟨.inl (congrArg (fun z:Int=>Ob.box [Aa (numAt b 0 2),Aa (numAt b 2 2),Aa (numAt b 4 2),Aa z]) hp3.symm),E,Y⟩,E,E⟩
 clear hp0 hp1 hp2 hp3
 (refine rg ?_;(conv=>whnf);refine aF ?_;refine rg ?_;conv=>whnf)
 refine⟨by decide,by decide,?_⟩
 conv=>whnf
 refine⟨fun h=>?_,fun h=>?_⟩
 ·rw[if_pos (by have:=of_decide_eq_true h;omega)]at hres
  subst hres
  refine rg ?_;conv=>whnf
  refine Ao 4 1 Ak E ?_
  exact Ac E (.cons .tmp (.cons .tmp (.cons .tmp (.cons .tmp .nil)))) E E
 have hs8:8≤numAt b 4 2:=by have:=of_decide_eq_false h;omega
 rw[if_neg qn]at hres
 clear h
 refine rg ?_;conv=>whnf
 refine⟨by decide,by decide,?_⟩
 conv=>whnf
 refine⟨fun h=>?_,fun h=>?_⟩
 ·rw[if_pos (by have:=of_decide_eq_true h;omega)]at hres
  subst hres
  refine rg ?_;conv=>whnf
  refine Ao 4 1 Ak E ?_
  exact Ac E (.cons .tmp (.cons .tmp (.cons .tmp (.cons .tmp .nil)))) E E
 have hsl:numAt b 4 2≤b.length:=by have:=of_decide_eq_false h;omega
 rw[if_neg qn]at hres
 clear h
 refine rg ?_;conv=>whnf
 refine⟨by decide,by decide,?_⟩
 conv=>whnf
 refine⟨fun h=>?_,fun h=>?_⟩
 ·rw[if_pos (by have:(numAt b 6 2:Int)≠0:=(by simpa using h);omega)]at hres
  subst hres
  refine rg ?_;conv=>whnf
  refine Ao 4 1 Ak E ?_
  exact Ac E (.cons .tmp (.cons .tmp (.cons .tmp (.cons .tmp .nil)))) E E
 rw[if_neg (by have:(numAt b 6 2:Int)=0:=(by simpa using h);omega)]at hres
 subst hres
 clear h
 have qc:=E2 ((b.take (numAt b 4 2)).drop 8) (by rw[List.length_drop,List.length_take];omega)
 refine rg ?_;conv=>whnf
 refine⟨by decide,by decide,?_⟩
 conv=>whnf
 refine⟨by decide,by decide,?_⟩
 conv=>whnf
 refine⟨by decide,by decide,?_⟩
 conv=>whnf
 refine Bs (Ch (lo:=8) (hi:=numAt b 4 2) Γ.toTy E E E E (.inr ⟨_,_,E,E⟩) (.inr ⟨_,_,E,E⟩) hs8 hsl) qq E ?_
 refine rd qq ?_;conv=>whnf
 refine Ay qc F63 E E E qq E ?_
 refine rd qq ?_;conv=>whnf
 refine⟨qq,?_⟩
 conv=>whnf
 exact Ac E (.cons .tmp (.cons .tmp (.cons .tmp (.cons .tmp .nil)))) E E
theorem Akg (src dst:Nat) (body:List UInt8) (h1:src≤65535) (h2:dst≤65535) (h3:body.length≤1472):Sy.Spec Tryz.prog 310 [Aa src,Aa dst,.sl 1 Ak body] [] (.tup [.sl 1 Ak (Aha src dst body),Aa 0]) []:=Ab Γ hm 100 F310 Tryz.ntmps310 rfl fun F hF=>by
 ((conv=>whnf);refine aF ?_;refine rg ?_;conv=>whnf)
 (refine⟨fun h=>False.elim (by simp at h;omega),fun _=>?_⟩;refine rg ?_;(conv=>whnf);refine aF ?_;refine rg ?_;(conv=>whnf);refine⟨fun h=>False.elim (by simp at h;omega),fun _=>?_⟩;refine rg ?_;(conv=>whnf);refine⟨fun h=>False.elim (by simp at h;omega),fun _=>?_⟩;refine rg ?_;conv=>whnf)
 refine⟨by unfold I64;omega,?_⟩
 conv=>whnf
 refine Ca 8 1000 1 Ak E E ?_
 refine Ah (Aas Γ.toTy E E E E E E) E E ?_
 refine rg ?_;conv=>whnf
 have key:∀ (x:Nat) (pre:List Nat),pre.length≤4→Co (pre++[x])=Co pre++[UInt8.ofNat (x / 256),UInt8.ofNat x]:=fun x pre _=>E8 pre x
 have hwl:∀ l:List Nat,(Co l).length=2 * l.length:=Is
 obtain ⟨ws,hws⟩:∃ ws:List Nat,ws=[src,dst,8+body.length,0]:=⟨_,rfl⟩
 refine A1 4 (fun j=>[(2,.sl 1 Ak body),(8,.osl 1000),(35,.agg [Aa src,Aa dst,Aa (8+body.length:Nat),Aa 0]),(36,Aa j)]) (fun j=>[(1000,.row 1 Ak (Co (ws.take j)))]) [] ⟨⟨E,E,E,E,E,E,E,E,Y⟩,⟨.inl (congrArg (Ob.row 1 Ak) (by simp[Co])),E,Y⟩,E,E⟩ ?_
 intro j hj
 have hcase:j=0∨j=1∨j=2∨j=3∨j=4:=by omega
 rcases hcase with rfl | rfl | rfl | rfl | rfl
 ·have hs:Co (ws.take 1)=Co (ws.take 0)++[UInt8.ofNat (src / 256),UInt8.ofNat src]:=by subst hws;exact E8 [] src
  have hl:=hwl (ws.take 0)
  have hl2:(ws.take 0).length≤4:=by rw[List.length_take];omega
  have htb:=Dw src
  (refine rg ?_;(conv=>whnf);refine aT ?_;refine rg ?_;conv=>whnf)
  refine Ah (Eb (k:=.int .i64) Γ.toTy E E E Tryz.underlying3 E E qx qx E) E E ?_
  refine rg ?_;conv=>whnf
  refine⟨by decide,?_⟩
  conv=>whnf
  refine Ah (Al Γ.toTy 46 E E E E E (.row E) (.lit (e:=Ak) (l:=[UInt8.ofNat (src / 256),UInt8.ofNat src]) E htb) qy (by rw[hl];simp only[List.length_cons,List.length_nil];omega) (by rw[hl];simp only[List.length_cons,List.length_nil];omega)) E E ?_
  refine rg ?_;conv=>whnf
  refine⟨by unfold I64;omega,?_⟩
  conv=>whnf
  exact Ar [(1000,46)] qx ⟨⟨E,E,E,E,E,E,E,E,Y⟩,⟨.inl (congrArg (Ob.row 1 Ak) hs),E,Y⟩,E,E⟩
 ·have hs:Co (ws.take 2)=Co (ws.take 1)++[UInt8.ofNat (dst / 256),UInt8.ofNat dst]:=by subst hws;exact E8 [src] dst
  have hl:=hwl (ws.take 1)
  have hl2:(ws.take 1).length≤4:=by rw[List.length_take];omega
  have htb:=Dw dst
  (refine rg ?_;(conv=>whnf);refine aT ?_;refine rg ?_;conv=>whnf)
  refine Ah (Eb (k:=.int .i64) Γ.toTy E E E Tryz.underlying3 E E qx qx E) E E ?_
  refine rg ?_;conv=>whnf
  refine⟨by decide,?_⟩
  conv=>whnf
  refine Ah (Al Γ.toTy 46 E E E E E (.row E) (.lit (e:=Ak) (l:=[UInt8.ofNat (dst / 256),UInt8.ofNat dst]) E htb) qy (by rw[hl];simp only[List.length_cons,List.length_nil];omega) (by rw[hl];simp only[List.length_cons,List.length_nil];omega)) E E ?_
  refine rg ?_;conv=>whnf
  refine⟨by unfold I64;omega,?_⟩
  conv=>whnf
  exact Ar [(1000,46)] qx ⟨⟨E,E,E,E,E,E,E,E,Y⟩,⟨.inl (congrArg (Ob.row 1 Ak) hs),E,Y⟩,E,E⟩
 ·have hs:Co (ws.take 3)=Co (ws.take 2)++[UInt8.ofNat ((8+body.length) / 256),UInt8.ofNat (8+body.length)]:=by subst hws;exact E8 [src,dst] (8+body.length)
  have hl:=hwl (ws.take 2)
  have hl2:(ws.take 2).length≤4:=by rw[List.length_take];omega
  have htb:=Dw (8+body.length)
  (refine rg ?_;(conv=>whnf);refine aT ?_;refine rg ?_;conv=>whnf)
  refine Ah (Eb (k:=.int .i64) Γ.toTy E E E Tryz.underlying3 E E qx qx E) E E ?_
  refine rg ?_;conv=>whnf
  refine⟨by decide,?_⟩
  conv=>whnf
  refine Ah (Al Γ.toTy 46 E E E E E (.row E) (.lit (e:=Ak) (l:=[UInt8.ofNat ((8+body.length) / 256),UInt8.ofNat (8+body.length)]) E htb) qy (by rw[hl];simp only[List.length_cons,List.length_nil];omega) (by rw[hl];simp only[List.length_cons,List.length_nil];omega)) E E ?_
  refine rg ?_;conv=>whnf
  refine⟨by unfold I64;omega,?_⟩
  conv=>whnf
  exact Ar [(1000,46)] qx ⟨⟨E,E,E,E,E,E,E,E,Y⟩,⟨.inl (congrArg (Ob.row 1 Ak) hs),E,Y⟩,E,E⟩
 ·have hs:Co (ws.take 4)=Co (ws.take 3)++[UInt8.ofNat (0 / 256),UInt8.ofNat 0]:=by subst hws;exact E8 [src,dst,8+body.length] 0
  have hl:=hwl (ws.take 3)
  have hl2:(ws.take 3).length≤4:=by rw[List.length_take];omega
  have htb:=Dw 0
  (refine rg ?_;(conv=>whnf);refine aT ?_;refine rg ?_;conv=>whnf)
  refine Ah (Eb (k:=.int .i64) Γ.toTy E E E Tryz.underlying3 E E qx qx E) E E ?_
  refine rg ?_;conv=>whnf
  refine⟨by decide,?_⟩
  conv=>whnf
  refine Ah (Al Γ.toTy 46 E E E E E (.row E) (.lit (e:=Ak) (l:=[UInt8.ofNat (0 / 256),UInt8.ofNat 0]) E htb) qy (by rw[hl];simp only[List.length_cons,List.length_nil];omega) (by rw[hl];simp only[List.length_cons,List.length_nil];omega)) E E ?_
  refine rg ?_;conv=>whnf
  refine⟨by unfold I64;omega,?_⟩
  conv=>whnf
  exact Ar [(1000,46)] qx ⟨⟨E,E,E,E,E,E,E,E,Y⟩,⟨.inl (congrArg (Ob.row 1 Ak) hs),E,Y⟩,E,E⟩
 have hl:=hwl (ws.take 4)
 have e:ws.take 4=[src,dst,8+body.length,0]:=by rw[hws];rfl
 rw[e]at hl ⊢
 have hl3:(Co [src,dst,8+body.length,0]).length=8:=hl
 (refine rg ?_;(conv=>whnf);refine aF ?_;refine rg ?_;conv=>whnf)
 refine Ah (Al Γ.toTy 50 E E E E E (.row E) .sl qy (by rw[hl3];simp;omega) (by rw[hl3];omega)) E E ?_
 refine At 50 E ?_
 refine rg ?_;conv=>whnf
 exact Ac E (.cons .tmp (.cons .tmp .nil)) E E
theorem Ahb (a b:Nat) (ha:a<18446744073709551616) (hb:b<18446744073709551616):Sy.Spec Tryz.prog 311 [A7 a,A7 b] [] (Aa (udpPort a b:Nat)) []:=Ab Γ hm 100 F311 Tryz.ntmps311 rfl fun F hF=>by
 have hx:=bits_xor_u64_nat a b ha hb
 have hmd:((a ^^^ b:Nat):Int).tmod 16384=(((a ^^^ b) % 16384:Nat):Int):=by rw[Int.tmod_eq_emod_of_nonneg qn];omega
 have hl:=Nat.mod_lt (a ^^^ b) (show 0<16384 by decide)
 have hw:IntKind.i64.wrap (((a ^^^ b) % 16384:Nat):Int)=(((a ^^^ b) % 16384:Nat):Int):=by rw[IntKind.wrap_i64];omega
 conv=>whnf
 refine⟨by decide,?_⟩
 rw[hx,hmd]
 conv=>whnf
 rw[hw]
 refine⟨by unfold I64;omega,?_⟩
 conv=>whnf
 refine Ac E (.cons .tmp .nil) ?_ E
 refine congrArg (fun z:Int=>SV.val (.int .i64 z)) ?_
 rw[udpPort]
 omega
theorem Aej (v:Int) (h:Qn v=true):Sy.Spec Tryz.prog 309 [Aa v] [] (.tup [.sl 1 Ak [],Aa 17]) []:=Ab Γ hm 100 F309 Tryz.ntmps309 rfl fun F hF=>by
 simp only[Qn,Bool.or_eq_true,decide_eq_true_eq]at h
 conv=>whnf
 refine⟨fun h1=>?_,fun h1=>?_⟩
 ·(refine rg ?_;(conv=>whnf);refine aT ?_;refine rg ?_;conv=>whnf)
  refine Ao 2 1 Ak E ?_
  exact Ac E (.cons .tmp (.cons .tmp .nil)) E E
 refine rg ?_;conv=>whnf
 refine⟨fun h2=>?_,fun h2=>absurd (of_decide_eq_false h2) (by have:=of_decide_eq_false h1;omega)⟩
 refine rg ?_;conv=>whnf
 refine Ao 2 1 Ak E ?_
 exact Ac E (.cons .tmp (.cons .tmp .nil)) E E
theorem Ag4 {v:Int} (h:Qn v=false):1≤v∧v≤16777215:=by
 simp only[Qn,Bool.or_eq_false_iff,decide_eq_false_iff_not]at h
 omega
theorem Agf (k:Nat):(J7 k).map Ak=[SV.val (.int .u8 8),SV.val (.int .u8 0),SV.val (.int .u8 0),SV.val (.int .u8 0),SV.val (.int .u8 (IntKind.u8.wrap ((k:Int).fdiv (2 ^ (min (Int.toNat 16) IntKind.i64.bits))))),
  SV.val (.int .u8 (IntKind.u8.wrap ((k:Int).fdiv (2 ^ (min (Int.toNat 8) IntKind.i64.bits))))),SV.val (.int .u8 (IntKind.u8.wrap (k:Int))),SV.val (.int .u8 0)]:=by
 have h1:IntKind.u8.wrap ((k:Int).fdiv (2 ^ (min (Int.toNat 16) IntKind.i64.bits)))=((UInt8.ofNat (k / 65536)).toNat:Int):=by
  show IntKind.u8.wrap ((k:Int).fdiv 65536)=_
  rw[Int.fdiv_eq_ediv_of_nonneg _ qx,IntKind.wrap_u8]
  simp
 have h2:IntKind.u8.wrap ((k:Int).fdiv (2 ^ (min (Int.toNat 8) IntKind.i64.bits)))=((UInt8.ofNat (k / 256)).toNat:Int):=by
  show IntKind.u8.wrap ((k:Int).fdiv 256)=_
  rw[Int.fdiv_eq_ediv_of_nonneg _ qx,IntKind.wrap_u8]
  simp
 have h3:=u8_of k
 rw[h1,h2,h3]
 rfl
theorem Ai5 (k:Nat) (h:1≤k∧k≤16777215):Sy.Spec Tryz.prog 309 [Aa k] [] (.tup [.osl 0,Aa 0]) [(0,.row 1 Ak (J7 k))]:=Ab Γ hm 100 F309 Tryz.ntmps309 rfl fun F hF=>by
 have hl:=Agf k
 conv=>whnf
 refine⟨fun h1=>absurd (of_decide_eq_true h1) qn,fun _=>?_⟩
 refine rg ?_;conv=>whnf
 refine⟨fun h1=>absurd (of_decide_eq_true h1) qn,fun _=>?_⟩
 refine rg ?_;conv=>whnf
 refine⟨by decide,?_⟩
 conv=>whnf
 refine⟨by decide,?_⟩
 conv=>whnf
 refine Eg 18 Ak (J7 k) E hl ?_
 exact done E (.cons .tmp (.cons .tmp .nil)) [(0,18)] [(0,.row 1 Ak (J7 k))] (fun _ h=>h) E E ⟨Y,⟨.inl E,E,Y⟩,E,E⟩
theorem Agt (a b:List UInt8):((⟨a.toArray⟩:ByteArray) == (⟨b.toArray⟩:ByteArray))=decide (a=b):=by
 have key:=Go.MapKept.bytes_beq (⟨a.toArray⟩:ByteArray) ⟨b.toArray⟩
 by_cases h:a=b
 ·subst h
  rw[decide_eq_true rfl]
  exact key.2 E
 ·rw[decide_eq_false h]
  cases hb:((⟨a.toArray⟩:ByteArray) == (⟨b.toArray⟩:ByteArray)) with
  | false=>rfl
  | true =>
   have:=congrArg (fun z:ByteArray=>z.data.toList) (key.1 hb)
   exact absurd (by simpa using this) h
theorem Ahd (x y z:UInt8):bits .or .i64 (bits .or .i64 (IntKind.i64.wrap ((IntKind.i64.wrap (x.toNat:Int)) * 2 ^ min (Int.toNat 16) IntKind.i64.bits)) (IntKind.i64.wrap ((IntKind.i64.wrap (y.toNat:Int)) * 2 ^ min (Int.toNat 8) IntKind.i64.bits))) (IntKind.i64.wrap (z.toNat:Int))
  = (((x.toNat * 256+y.toNat) * 256+z.toNat:Nat):Int):=by
 have h1:=x.toNat_lt
 have h2:=y.toNat_lt
 have h3:=z.toNat_lt
 have e1:IntKind.i64.wrap (x.toNat:Int)=(x.toNat:Int):=by rw[IntKind.wrap_i64];omega
 have e2:IntKind.i64.wrap (y.toNat:Int)=(y.toNat:Int):=by rw[IntKind.wrap_i64];omega
 have e3:IntKind.i64.wrap (z.toNat:Int)=(z.toNat:Int):=by rw[IntKind.wrap_i64];omega
 rw[e1,e2,e3]
 have f1:IntKind.i64.wrap ((x.toNat:Int) * 2 ^ min (Int.toNat 16) IntKind.i64.bits)=((x.toNat * 65536:Nat):Int):=by
  show IntKind.i64.wrap ((x.toNat:Int) * 65536)=_
  rw[IntKind.wrap_i64]
  omega
 have f2:IntKind.i64.wrap ((y.toNat:Int) * 2 ^ min (Int.toNat 8) IntKind.i64.bits)=((y.toNat * 256:Nat):Int):=by
  show IntKind.i64.wrap ((y.toNat:Int) * 256)=_
  rw[IntKind.wrap_i64]
  omega
 rw[f1,f2,Cr _ _ qn qn]
 have g1:x.toNat * 65536 ||| y.toNat * 256=x.toNat * 65536+y.toNat * 256:=by
  have h:=Nat.two_pow_add_eq_or_of_lt (i:=16) (b:=y.toNat * 256) qn x.toNat
  rw[Nat.mul_comm x.toNat 65536]
  exact h.symm
 rw[g1,Cr _ _ qn qn]
 refine congrArg (fun n:Nat=>(n:Int)) ?_
 have h:256 * (x.toNat * 256+y.toNat)+z.toNat=256 * (x.toNat * 256+y.toNat) ||| z.toNat:=Nat.two_pow_add_eq_or_of_lt (i:=8) (b:=z.toNat) qn (x.toNat * 256+y.toNat)
 have e:x.toNat * 65536+y.toNat * 256=256 * (x.toNat * 256+y.toNat):=by omega
 rw[e,← h]
 omega
theorem vniS (b:List UInt8) (hb:b.length<100000):Sy.Spec Tryz.prog 340 [.sl 1 Ak b] [] (.tup [Aa (vniT b).1,.sl 1 Ak (vniT b).2.1,Aa (vniT b).2.2]) []:=Ab Γ hm 100 F340 Tryz.ntmps340 rfl fun F hF=>by
 have hres:=vniT.eq_1 b
 generalize vniT b=res at *
 conv=>whnf
 refine⟨fun h=>?_,fun h=>?_⟩
 ·rw[if_pos (by have:=of_decide_eq_true h;omega)]at hres
  subst hres
  refine rg ?_;conv=>whnf
  refine Ao 3 1 Ak E ?_
  exact Ac E (.cons .tmp (.cons .tmp (.cons .tmp .nil))) E E
 have h8:8≤b.length:=by have:=of_decide_eq_false h;omega
 rw[if_neg qn]at hres
 clear h
 have i4:(4:Int).toNat<b.length:=by show 4<_;omega
 have i5:(5:Int).toNat<b.length:=by show 5<_;omega
 have i6:(6:Int).toNat<b.length:=by show 6<_;omega
 have hv:bits .or .i64 (bits .or .i64 (IntKind.i64.wrap ((IntKind.i64.wrap ((b[(4:Int).toNat]'i4).toNat:Int)) * 2 ^ min (Int.toNat 16) IntKind.i64.bits)) (IntKind.i64.wrap ((IntKind.i64.wrap ((b[(5:Int).toNat]'i5).toNat:Int)) * 2 ^ min (Int.toNat 8) IntKind.i64.bits))) (IntKind.i64.wrap ((b[(6:Int).toNat]'i6).toNat:Int))
   = (numAt b 4 3:Int):=by
  rw[Ahd,numAt3 (show 4+3≤b.length by omega)]
  rfl
 have hvl:=I7 b 4 3
 refine rg ?_;conv=>whnf
 refine⟨E,by decide,i4,?_⟩
 conv=>whnf
 refine⟨by decide,?_⟩
 conv=>whnf
 refine⟨E,by decide,i5,?_⟩
 conv=>whnf
 refine⟨by decide,?_⟩
 conv=>whnf
 refine⟨E,by decide,i6,?_⟩
 conv=>whnf
 refine⟨qq,?_⟩
 rw[hv]
 generalize hvv:numAt b 4 3=v at *
 conv=>whnf
 by_cases h0:v=0
 ·rw[if_pos (.inl h0)]at hres
  subst hres
  have q:=Aej v (by rw[h0];decide)
  refine Ag q F309 E E E E E ?_
  (refine rg ?_;(conv=>whnf);refine aT ?_;refine rd qq ?_;conv=>whnf)
  refine⟨qq,?_⟩
  ((conv=>whnf);refine aT ?_;refine rg ?_;conv=>whnf)
  refine Ao 3 1 Ak E ?_
  exact Ac E (.cons .tmp (.cons .tmp (.cons .tmp .nil))) E E
 have q:=Ai5 v qn
 refine Ah (Ai [(0,55)] E F309 q E Y E ⟨.inr E,Y⟩) E E ?_
 refine At 55 E ?_
 (refine rg ?_;(conv=>whnf);refine aF ?_;refine rd qq ?_;conv=>whnf)
 refine Bs (Bu Γ.toTy (bs:=J7 v) E E E E E E E .sl) qq E ?_
 refine rd qq ?_;conv=>whnf
 refine Bs (Ch (lo:=0) (hi:=8) Γ.toTy E E E E (.inl ⟨E,E⟩) (.inr ⟨_,_,E,E⟩) qn h8) qq E ?_
 refine rd qq ?_;conv=>whnf
 refine Bs (Bu Γ.toTy (bs:=b.take 8) E E E E E E E .sl) qq E ?_
 refine rd qq ?_;conv=>whnf
 refine⟨qq,?_⟩
 conv=>whnf
 have hbe:=Agt (J7 v) (b.take 8)
 rw[hbe]
 by_cases he:b.take 8=J7 v
 rotate_left
 ·rw[if_pos (.inr he)]at hres
  subst hres
  rw[decide_eq_false (fun e=>he e.symm)]
  refine⟨fun _=>?_,fun h=>absurd h qx⟩
  refine rg ?_;conv=>whnf
  refine Ao 3 1 Ak E ?_
  exact Ac E (.cons .tmp (.cons .tmp (.cons .tmp .nil))) E E
 rw[if_neg (fun h=>h.elim h0 (fun h2=>h2 he))]at hres
 subst hres
 rw[decide_eq_true he.symm]
 have etk:(b.take b.length).drop 8=b.drop 8:=by rw[List.take_length]
 refine⟨fun h=>absurd h qx,fun _=>?_⟩
 refine rg ?_;conv=>whnf
 refine Ah (Ch (lo:=8) (hi:=b.length) Γ.toTy E E E E (.inr ⟨_,_,E,E⟩) (.inl ⟨E,E⟩) h8 (Nat.le_refl _)) E E ?_
 refine rg ?_;conv=>whnf
 refine Ah (Al Γ.toTy 45 E E E E E .nil .sl qy (by simp;omega) (by simp;omega)) E E ?_
 refine At 45 E ?_
 refine rg ?_;conv=>whnf
 refine Ac E (.cons .tmp (.cons .tmp (.cons .tmp .nil))) ?_ E
 show SV.tup [_,.sl 1 Ak (b.drop 8),_]=SV.tup [_,.sl 1 Ak ([]++(b.take b.length).drop 8),_]
 rw[etk]
 rfl
theorem Aan (a c v:Nat) (f:FrameM) (h:f.body.length≤1450):ipPutT (L2 a c v f)=(Tb (L2 a c v f),0):=by
 rw[ipPutT,if_neg (by rw[Hm];omega)]
theorem Abs (a b:Nat):udpPort a b≤65535:=by
 have:=Nat.mod_lt (a ^^^ b) (show 0<16384 by decide)
 unfold udpPort
 omega
theorem Aia (a c v:Nat) (f:FrameM) (ha:a<4294967296) (hc:c<4294967296) (h:f.body.length≤1450):FrameOK ⟨Hl c,Hl a,2048,Tb (L2 a c v f)⟩ :=
 ⟨Uz c hc,Uz a ha,by show (2048:Nat)≤65535;decide,by show (Tb (L2 a c v f)).length≤1504;rw[Kr,Hm];omega⟩
theorem Akc (a c:Nat) (v:Int) (f:FrameM) (ha:a<4294967296) (hc:c<4294967296) (hf:FrameOK f) :
  Sy.Spec Tryz.prog 253 [Cd a,Cd c,Aa v,Bv f] [] (.tup [.sl 1 Ak (wrapT a c v f).1,Aa (wrapT a c v f).2]) []:=Ab Γ hm 100 F253 Tryz.ntmps253 rfl fun F hF=>by
 have hres:=wrapT.eq_1 a c v f
 generalize wrapT a c v f=res at *
 have q0:=Ld f
 have hd:=hf.dst
 have hs:=hf.src
 have hb:=hf.body
 have hpl:=Ii f
 conv=>whnf
 refine B0 7 4 (Bv f) E E E ?_
 by_cases ht:f.typ=33024
 ·rw[if_pos ht]at hres
  subst hres
  rw[decide_eq_true ht]at q0
  refine rg ?_;conv=>whnf
  refine Ag q0 F166 E E E E E ?_
  (refine rg ?_;(conv=>whnf);refine aT ?_;refine rg ?_;conv=>whnf)
  refine Ao 8 1 Ak E ?_
  exact Ac E (.cons .tmp (.cons .tmp .nil)) E E
 rw[if_neg ht]at hres
 rw[decide_eq_false ht]at q0
 refine rg ?_;conv=>whnf
 refine Ag q0 F166 E E E E E ?_
 (refine rg ?_;(conv=>whnf);refine aF ?_;refine rg ?_;conv=>whnf)
 refine Ah (Ai [(0,55)] E F33 (Lq f hf) E Y E ⟨.inr E,Y⟩) E E ?_
 refine At 55 E ?_
 (refine rg ?_;(conv=>whnf);refine aF ?_;refine rg ?_;conv=>whnf)
 cases hv:Qn v
 rotate_left
 ·rw[if_pos hv]at hres
  subst hres
  refine Ag (Aej v hv) F309 E E E E E ?_
  (refine rg ?_;(conv=>whnf);refine aT ?_;refine rg ?_;conv=>whnf)
  refine Ao 8 1 Ak E ?_
  exact Ac E (.cons .tmp (.cons .tmp .nil)) E E
 rw[if_neg (by rw[hv];decide)]at hres
 have hvg:=Ag4 hv
 obtain ⟨k,rfl⟩:=Int.eq_ofNat_of_zero_le (show 0≤v by omega)
 rw[Int.toNat_natCast]at hres
 refine Ah (Ai [(0,56)] E F309 (Ai5 k qn) E Y E ⟨.inr E,Y⟩) E E ?_
 (refine rg ?_;(conv=>whnf);refine aF ?_;refine rg ?_;conv=>whnf)
 refine⟨fun h=>?_,fun h=>?_⟩
 ·rw[if_pos (by have:=of_decide_eq_true h;omega)]at hres
  subst hres
  refine rg ?_;conv=>whnf
  refine Ao 8 1 Ak E ?_
  exact Ac E (.cons .tmp (.cons .tmp .nil)) E E
 have hl:f.body.length≤1450:=by have:=of_decide_eq_false h;omega
 rw[if_neg qn]at hres
 subst hres
 clear h
 have qp:=Ahb f.dst f.src qn qn
 have hpo:=Abs f.dst f.src
 have qu:=Akg (udpPort f.dst f.src) 4789 (J7 k++Vs f) hpo qx (by rw[List.length_append,Hw,hpl];omega)
 have hwb:(L2 a c k f).body=Aha (udpPort f.dst f.src) 4789 (J7 k++Vs f):=rfl
 have qi:=Aeh (L2 a c k f) (Ag2 a c k f ha hc) (by rw[Hm];omega)
 rw[Aan a c k f hl]at qi
 have qe:=Lq _ (Aia a c k f ha hc hl)
 refine rg ?_;conv=>whnf
 refine Ag qp F311 E E E E E ?_
 refine rg ?_;conv=>whnf
 refine Ah (Al Γ.toTy 46 E E E E E (.row E) .sl qx (by rw[Hw,hpl];simp;omega) (by rw[Hw,hpl];omega)) E E ?_
 refine At 46 E ?_
 refine rg ?_;conv=>whnf
 refine Ag qu F310 E E E E E ?_
 refine rg ?_;conv=>whnf
 refine Ag qi F248 E E E E E ?_
 refine rg ?_;conv=>whnf
 refine Ag (Aap c hc) F244 E E E E E ?_
 refine rg ?_;conv=>whnf
 refine Ag (Aap a ha) F244 E E E E E ?_
 refine rg ?_;conv=>whnf
 refine Ah (Ai [(0,57)] E F33 qe E Y E ⟨.inr E,Y⟩) E E ?_
 refine At 57 E ?_
 refine rg ?_;conv=>whnf
 exact Ac E (.cons .tmp (.cons .tmp .nil)) E E
def Cm (p:PacketM) (v e:Int):List SV:=[Aa p.tos,Aa p.id,Aa p.ttl,Aa p.proto,Cd p.src,Cd p.dst,.sl 1 Ak p.body,Aa v,Aa e]
def B7 (is:Bool) (re e:Int):Int:=if is=true∧re=0 then e else re
theorem Qa (p:PacketM) (v re:Int) (is:Bool) (e:Int):Sy.Spec Tryz.prog 338 [.ptr 0 0,Ad is,Aa e] [(0,.box (Cm p v re))] (.tup []) [(0,.box (Cm p v (B7 is re e)))]:=Ab Γ hm 100 F338 Tryz.ntmps338 rfl fun F hF=>by
 cases is
 ·have h:B7 false re e=re:=by simp[B7]
  rw[h]
  ((conv=>whnf);refine aF ?_;refine rg ?_;(conv=>whnf);refine aF ?_;refine rg ?_;conv=>whnf)
  exact Bg E .nil [] [(0,.box (Cm p v re))] (fun _ h=>h) E E ⟨Y,⟨.inl E,E,Y⟩,E,E⟩
 ·((conv=>whnf);refine aT ?_;refine rg ?_;conv=>whnf)
  refine⟨fun h=>?_,fun h=>?_⟩
  ·have h2:B7 true re e=e:=by show (if true=true∧re=0 then e else re)=e;rw[if_pos ⟨rfl,by simpa using h⟩]
   rw[h2]
   refine rg ?_;conv=>whnf
   exact Bg E .nil [] [(0,.box (Cm p v e))] (fun _ h=>h) E E ⟨Y,⟨.inl E,E,Y⟩,E,E⟩
  ·have h2:B7 true re e=re:=by
    show (if true=true∧re=0 then e else re)=re
    rw[if_neg (fun h3=>by
     have h4:¬ re=0:=by simpa using h
     exact h4 h3.2)]
   rw[h2]
   refine rg ?_;conv=>whnf
   exact Bg E .nil [] [(0,.box (Cm p v re))] (fun _ h=>h) E E ⟨Y,⟨.inl E,E,Y⟩,E,E⟩
theorem Akq (b:List UInt8) (hb:b.length<100000):Sy.Spec Tryz.prog 316 [.ptr 0 0,.sl 1 Ak b] [(0,.box (Cm noP 0 0))] (.tup []) [(0,.box (Cm (outerT b).1 0 (outerT b).2))]:=Ab Γ hm 100 F316 Tryz.ntmps316 rfl fun F hF=>by
 have hres:=outerT.eq_1 b
 generalize outerT b=res at *
 have q1:=My b hb
 have hbad:=@takeF_bad b
 have hok:=@Zf b
 generalize takeF b=tk at *
 obtain ⟨f,e⟩:=tk
 dsimp only at hres q1 hbad hok
 conv=>whnf
 refine Ag q1 F165 E E E E E ?_
 refine rg ?_;conv=>whnf
 refine Ah (Ai [(0,0)] E F338 (Qa noP 0 0 true e) E ⟨E,Y⟩ E ⟨.inl E,Y⟩) E E ?_
 rw[show B7 true 0 e=e by simp[B7]]
 refine rg ?_;conv=>whnf
 refine Ah (Ai [(0,0)] E F338 (Qa noP 0 e ((f.typ:Int) != 2048) 11) E ⟨E,Y⟩ E ⟨.inl E,Y⟩) E E ?_
 by_cases he:e=0
 rotate_left
 ·rw[if_pos he]at hres
  subst hres
  rw[show B7 ((f.typ:Int) != 2048) e 11=e by simp[B7,he]]
  refine rg ?_;conv=>whnf
  refine⟨fun h=>absurd (show e=0 by simpa using h) he,fun _=>?_⟩
  refine rg ?_;conv=>whnf
  exact Bg E .nil [] [(0,.box (Cm noP 0 e))] (fun _ h=>h) E E ⟨Y,⟨.inl E,E,Y⟩,E,E⟩
 subst he
 rw[if_neg qy]at hres
 by_cases ht:f.typ=2048
 rotate_left
 ·rw[if_pos ht]at hres
  subst hres
  have hb2:((f.typ:Int) != 2048)=true:=by simp;omega
  rw[hb2,show B7 true 0 11=11 by simp[B7]]
  (refine rg ?_;(conv=>whnf);refine aF ?_;refine rg ?_;conv=>whnf)
  exact Bg E .nil [] [(0,.box (Cm noP 0 11))] (fun _ h=>h) E E ⟨Y,⟨.inl E,E,Y⟩,E,E⟩
 rw[if_neg (fun h=>h ht)]at hres
 have hb2:((f.typ:Int) != 2048)=false:=by simp;omega
 rw[hb2,show B7 false 0 11=0 by simp[B7]]
 have hfb:=(hok rfl).body
 have q2:=Aeg f.body qn
 have hib:=@Alw f.body
 generalize ipTakeT f.body=ip at *
 obtain ⟨p,e2⟩:=ip
 dsimp only at hres q2 hib
 (refine rg ?_;(conv=>whnf);refine aT ?_;refine rg ?_;conv=>whnf)
 refine Ag q2 F245 E E E E E ?_
 refine rg ?_;conv=>whnf
 refine Ah (Ai [(0,0)] E F338 (Qa p 0 0 true e2) E ⟨E,Y⟩ E ⟨.inl E,Y⟩) E E ?_
 rw[show B7 true 0 e2=e2 by simp[B7]]
 refine rg ?_;conv=>whnf
 refine Ah (Ai [(0,0)] E F338 (Qa p 0 e2 ((p.proto:Int) != 17) 11) E ⟨E,Y⟩ E ⟨.inl E,Y⟩) E E ?_
 have hfin:res=(p,B7 ((p.proto:Int) != 17) e2 11):=by
  by_cases h2:e2=0
  ·subst h2
   rw[if_neg qy]at hres
   rw[hres]
   simp only[B7]
   by_cases h3:p.proto=17
   ·rw[if_neg (by simp[h3]),if_neg (by simp[h3])]
   ·rw[if_pos h3,if_pos (by simp;omega)]
  ·rw[if_pos h2]at hres
   rw[hres,hib h2,show B7 ((noP.proto:Int) != 17) e2 11=e2 by simp[B7,h2]]
 rw[hfin]
 refine rg ?_;conv=>whnf
 exact Bg E .nil [] [(0,.box (Cm p 0 (B7 ((p.proto:Int) != 17) e2 11)))] (fun _ h=>h) E E ⟨Y,⟨.inl E,E,Y⟩,E,E⟩
def frameT (p:PacketM) (e:Int):FrameM × Int × Int :=
 if e≠0 then (noF,0,e) else if (udpTakeT p.body).2.2.2≠0 then (noF,0,(udpTakeT p.body).2.2.2) else if (udpTakeT p.body).2.1≠4789 then (noF,0,11)
 else if (vniT (udpTakeT p.body).2.2.1).2.2≠0 then (noF,(vniT (udpTakeT p.body).2.2.1).1,(vniT (udpTakeT p.body).2.2.1).2.2)
 else ((takeF (vniT (udpTakeT p.body).2.2.1).2.1).1,(vniT (udpTakeT p.body).2.2.1).1,
  if (takeF (vniT (udpTakeT p.body).2.2.1).2.1).2≠0 then (takeF (vniT (udpTakeT p.body).2.2.1).2.1).2 else if (takeF (vniT (udpTakeT p.body).2.2.1).2.1).1.typ=33024 then 15 else 0)
theorem frameS (p:PacketM) (e:Int) (hb:p.body.length<100000):Sy.Spec Tryz.prog 317 [.ptr 0 0] [(0,.box (Cm p 0 e))] (Bv (frameT p e).1) [(0,.box (Cm p (frameT p e).2.1 (frameT p e).2.2))]:=Ab Γ hm 100 F317 Tryz.ntmps317 rfl fun F hF=>by
 have hres:=frameT.eq_1 p e
 generalize frameT p e=res at *
 have q1:=Ag9 p.body hb
 have hul:=@Aka p.body
 generalize udpTakeT p.body=u at *
 obtain ⟨u1,u2,u3,u4⟩:=u
 dsimp only at hres q1 hul
 have q2:=vniS u3 qn
 have hvl:=@vniT_body u3
 generalize vniT u3=w at *
 obtain ⟨w1,w2,w3⟩:=w
 dsimp only at hres q2 hvl
 have q3:=My w2 qn
 have hbad:=@takeF_bad w2
 generalize takeF w2=t at *
 obtain ⟨f,t2⟩:=t
 dsimp only at hres q3 hbad
 conv=>whnf
 refine⟨fun h=>?_,fun h=>?_⟩
 ·rw[if_pos (by simpa using h)]at hres
  subst hres
  refine rg ?_;conv=>whnf
  refine A0 2 zF E (.cons (.refl _) (.cons (.refl _) (.cons (.refl _) (.cons .nil .nil)))) ?_
  exact done E (.cons (.cell E E E E) .nil) [] [(0,.box (Cm p 0 e))] (fun _ h=>h) E E ⟨Y,⟨.inl E,E,Y⟩,E,E⟩
 have he:e=0:=by simpa using h
 clear h
 subst he
 rw[if_neg qy]at hres
 refine rg ?_;conv=>whnf
 refine Ag q1 F339 E E E E E ?_
 refine rg ?_;conv=>whnf
 refine Ah (Ai [(0,0)] E F338 (Qa p 0 0 true u4) E ⟨E,Y⟩ E ⟨.inl E,Y⟩) E E ?_
 rw[show B7 true 0 u4=u4 by simp[B7]]
 refine rg ?_;conv=>whnf
 refine Ah (Ai [(0,0)] E F338 (Qa p 0 u4 (u2 != 4789) 11) E ⟨E,Y⟩ E ⟨.inl E,Y⟩) E E ?_
 by_cases h4:u4=0
 rotate_left
 ·rw[if_pos h4]at hres
  subst hres
  rw[show B7 (u2 != 4789) u4 11=u4 by simp[B7,h4]]
  refine rg ?_;conv=>whnf
  refine⟨fun h=>absurd (show u4=0 by simpa using h) h4,fun _=>?_⟩
  refine rg ?_;conv=>whnf
  refine⟨fun _=>?_,fun h=>absurd (show u4=0 by simpa using h) h4⟩
  refine rg ?_;conv=>whnf
  refine A0 2 zF E (.cons (.refl _) (.cons (.refl _) (.cons (.refl _) (.cons .nil .nil)))) ?_
  exact done E (.cons (.cell E E E E) .nil) [] [(0,.box (Cm p 0 u4))] (fun _ h=>h) E E ⟨Y,⟨.inl E,E,Y⟩,E,E⟩
 subst h4
 rw[if_neg qy]at hres
 by_cases h2:u2=4789
 rotate_left
 ·rw[if_pos h2]at hres
  subst hres
  rw[show B7 (u2 != 4789) 0 11=11 by simp[B7,h2]]
  (refine rg ?_;(conv=>whnf);refine aF ?_;refine rg ?_;(conv=>whnf);refine aT ?_;refine rg ?_;conv=>whnf)
  refine A0 2 zF E (.cons (.refl _) (.cons (.refl _) (.cons (.refl _) (.cons .nil .nil)))) ?_
  exact done E (.cons (.cell E E E E) .nil) [] [(0,.box (Cm p 0 11))] (fun _ h=>h) E E ⟨Y,⟨.inl E,E,Y⟩,E,E⟩
 rw[if_neg (fun h=>h h2)]at hres
 rw[show B7 (u2 != 4789) 0 11=0 by simp[B7,h2]]
 (refine rg ?_;(conv=>whnf);refine aT ?_;refine rg ?_;conv=>whnf)
 refine Ag q2 F340 E E E E E ?_
 refine rg ?_;conv=>whnf
 refine Ah (Ai [(0,0)] E F338 (Qa p w1 0 true w3) E ⟨E,Y⟩ E ⟨.inl E,Y⟩) E E ?_
 rw[show B7 true 0 w3=w3 by simp[B7]]
 refine rg ?_;conv=>whnf
 refine⟨fun h=>?_,fun h=>?_⟩
 ·rw[if_pos (by simpa using h)]at hres
  subst hres
  refine rg ?_;conv=>whnf
  refine A0 2 zF E (.cons (.refl _) (.cons (.refl _) (.cons (.refl _) (.cons .nil .nil)))) ?_
  exact done E (.cons (.cell E E E E) .nil) [] [(0,.box (Cm p w1 w3))] (fun _ h=>h) E E ⟨Y,⟨.inl E,E,Y⟩,E,E⟩
 have h3:w3=0:=by simpa using h
 clear h
 subst h3
 rw[if_neg qy]at hres
 refine rg ?_;conv=>whnf
 refine Ag q3 F165 E E E E E ?_
 refine rg ?_;conv=>whnf
 refine Ah (Ai [(0,0)] E F338 (Qa p w1 0 true t2) E ⟨E,Y⟩ E ⟨.inl E,Y⟩) E E ?_
 rw[show B7 true 0 t2=t2 by simp[B7]]
 refine rg ?_;conv=>whnf
 refine Ag (Ld f) F166 E E E E E ?_
 refine rg ?_;conv=>whnf
 refine Ah (Ai [(0,0)] E F338 (Qa p w1 t2 (decide (f.typ=33024)) 15) E ⟨E,Y⟩ E ⟨.inl E,Y⟩) E E ?_
 have hfin:B7 (decide (f.typ=33024)) t2 15=if t2≠0 then t2 else if f.typ=33024 then 15 else 0:=by
  by_cases k1:t2=0
  ·subst k1
   rw[if_neg qy]
   by_cases k2:f.typ=33024<;>simp[B7,k2]
  ·rw[if_pos k1]
   simp[B7,k1]
 rw[← hfin]at hres
 subst hres
 refine rg ?_;conv=>whnf
 exact done E (.cons (.cell E E E E) .nil) [] [(0,.box (Cm p w1 (B7 (decide (f.typ=33024)) t2 15)))] (fun _ h=>h) E E ⟨Y,⟨.inl E,E,Y⟩,E,E⟩
theorem Xk (b:List UInt8):Bp b=if (frameT (outerT b).1 (outerT b).2).2.2≠0 then (0,0,0,noF,(frameT (outerT b).1 (outerT b).2).2.2)
  else ((outerT b).1.src,(outerT b).1.dst,(frameT (outerT b).1 (outerT b).2).2.1,(frameT (outerT b).1 (outerT b).2).1,0):=by
 unfold Bp
 generalize outerT b=o
 obtain ⟨p,e⟩:=o
 dsimp only
 by_cases he:e=0
 rotate_left
 ·rw[if_pos he]
  have h1:frameT p e=(noF,0,e):=by rw[frameT,if_pos he]
  rw[h1,if_pos he]
 subst he
 rw[if_neg qy]
 unfold Iz frameT
 rw[if_neg (show ¬ (0:Int)≠0 by simp)]
 generalize udpTakeT p.body=u
 obtain ⟨u1,u2,u3,u4⟩:=u
 dsimp only
 by_cases h4:u4=0
 rotate_left
 ·rw[if_pos h4,if_pos h4,if_pos h4]
  dsimp only
  rw[if_pos h4]
 subst h4
 simp only[ne_eq,not_true_eq_false,if_false]
 by_cases h2:u2=4789
 rotate_left
 ·simp[h2]
 simp only[h2,not_true_eq_false,if_false]
 generalize vniT u3=w
 obtain ⟨w1,w2,w3⟩:=w
 dsimp only
 by_cases h3:w3=0
 rotate_left
 ·simp[h3]
 simp only[h3,not_true_eq_false,if_false]
 generalize takeF w2=t
 obtain ⟨f,t2⟩:=t
 dsimp only
 by_cases k1:t2=0
 ·by_cases k2:f.typ=33024<;>simp[k1,k2]
 ·simp[k1]
theorem Aez (b:List UInt8) (hb:b.length<100000) :
  Sy.Spec Tryz.prog 259 [.sl 1 Ak b] [] (.tup [Cd (Bp b).1,Cd (Bp b).2.1,Aa (Bp b).2.2.1,Bv (Bp b).2.2.2.1,Aa (Bp b).2.2.2.2]) []:=Ab Γ hm 100 F259 Tryz.ntmps259 rfl fun F hF=>by
 have hres:=Xk b
 generalize Bp b=res at *
 have q1:=Akq b hb
 have hol:=(Qz b).2
 generalize outerT b=o at *
 obtain ⟨p,e⟩:=o
 dsimp only at hres q1 hol
 have q2:=frameS p e qn
 generalize frameT p e=fr at *
 obtain ⟨f,v,e2⟩:=fr
 dsimp only at hres q2
 conv=>whnf
 refine A0 9 (Cm noP 0 0) E (.cons (.refl _) (.cons (.refl _) (.cons (.refl _) (.cons (.refl _) (.cons (.refl _) (.cons (.refl _) (.cons .nil (.cons (.refl _) (.cons (.refl _) .nil))))))))) ?_
 refine rg ?_;conv=>whnf
 refine Ah (Ai [(0,9)] E F316 q1 E ⟨E,Y⟩ E ⟨.inl E,Y⟩) E E ?_
 refine rg ?_;conv=>whnf
 refine Ah (Ai [(0,9)] E F317 q2 E ⟨E,Y⟩ E ⟨.inl E,Y⟩) E E ?_
 refine rg ?_;conv=>whnf
 refine⟨fun h=>?_,fun h=>?_⟩
 ·rw[if_pos (by simpa using h)]at hres
  subst hres
  refine rg ?_;conv=>whnf
  refine⟨qq,?_⟩
  conv=>whnf
  refine A0 5 zF E (.cons (.refl _) (.cons (.refl _) (.cons (.refl _) (.cons .nil .nil)))) ?_
  exact Ac E (.cons .tmp (.cons .tmp (.cons .tmp (.cons (.cell E E E E) (.cons .tmp .nil))))) E E
 rw[if_neg (by simpa using h)]at hres
 subst hres
 refine rg ?_;conv=>whnf
 refine⟨qq,?_⟩
 conv=>whnf
 exact Ac E (.cons .tmp (.cons .tmp (.cons .tmp (.cons (.cell E E E E) (.cons .tmp .nil))))) E E
theorem O1 (l:List Device) (p:Device→Bool) (f:FuncId) (first cap:List SV) (hc:(SV.clo (.func f) first cap).inn []=true) (hf:∀ x∈l,Hj Tryz.prog f (first++[Bh x]++cap) (Ad (p x))) (hl:Am l) :
  Sy.Spec Tryz.prog 318 [.sl 5 Bh l,.clo (.func f) first cap] [] (Aa (Dl p l)) []:=Ab Γ hm 100 F318 Tryz.ntmps318 rfl fun F hF=>by
 unfold Am at hl
 have hin:∀ x:Device,B1 [] (first++[Bh x]++cap)=true:=fun x=>Cn hc rfl
 conv=>whnf
 refine Bc l.length (fun j=>Em (fun _ x=>!(p x)) l j) (fun j=>[(0,.sl 5 Bh l),(1,.clo (.func f) first cap),(7,Aa l.length),(8,Aa j)]) (fun _=>[]) [] (Be _ _) ⟨⟨E,E,A2 _,hc,E,E,E,E,Y⟩,Y,E,E⟩ ?_
 intro j hj hI
 refine rg ?_;conv=>whnf
 refine⟨fun h=>?_,fun h=>?_⟩
 ·have h:=of_decide_eq_true h
  have hj2:j<l.length:=by omega
  refine rg ?_;conv=>whnf
  refine⟨E,by omega,by omega,?_⟩
  conv=>whnf
  refine Dv (hf l[j] (List.getElem_mem hj2)) E E E (by simp only[hin];rfl) E E ?_
  refine rg ?_;conv=>whnf
  refine⟨fun h2=>?_,fun h2=>?_⟩
  ·refine rg ?_;conv=>whnf
   refine Ac E (.cons .tmp .nil) (congrArg Aa ?_) E
   exact Ed hj2 (fun i hi hij=>by simpa using hI i hi hij) h2
  ·refine rg ?_;conv=>whnf
   refine⟨by unfold I64;omega,?_⟩
   conv=>whnf
   exact Ba [] hI hj2 (Bb hI hj2 (by simp[h2])) ⟨⟨E,E,A2 _,hc,E,E,E,E,Y⟩,Y,E,E⟩
 ·have h:=of_decide_eq_false h
  refine rg ?_;conv=>whnf
  refine Ac E (.cons .tmp .nil) (congrArg Aa ?_) E
  exact Ez (fun i hi=>by simpa using hI i hi qn)
theorem Yp {n:Net} (hb:Af n=true) {d:Int} (hd:DomIn n d):0≤(n.domains[d.toNat]'hd.2).dev∧(n.domains[d.toNat]'hd.2).dev.toNat<n.devices.length:=by
 simp only[Af,Bool.and_eq_true]at hb
 have:=Abg hb.1.1.1.1.1.1.1.2 hd.2
 have:=Bm this
 omega
theorem Y3 {n:Net} (hb:Af n=true) {d:Int} (hd:DomIn n d):Hk n d=(n.devices[(n.domains[d.toNat]'hd.2).dev.toNat]'(Yp hb hd).2).vtep:=by
 rw[Hk,An hd.2,An (Yp hb hd).2]
theorem Y2 {n:Net} (hm:n.Num) (hb:Af n=true) {d:Int} (hd:DomIn n d):0≤Hk n d∧Hk n d<4294967296:=by
 rw[Y3 hb hd]
 exact hm.vtep _ (List.getElem_mem _)
theorem Ms (n:Net) (hb:Af n=true) (d:Int) (hd:DomIn n d):Sy.Spec Tryz.prog 254 [Aq n,Aa d] [] (Cd (Hk n d)) []:=Ab Γ hm 100 F254 Tryz.ntmps254 rfl fun F hF=>by
 have hv:=Y3 hb hd
 have h2:=Yp hb hd
 obtain ⟨x,hx⟩:∃ x,n.domains[d.toNat]'hd.2=x:=⟨_,rfl⟩
 rw[hx]at h2
 simp only[hx]at hv
 obtain ⟨y,hy⟩:∃ y,n.devices[x.dev.toNat]'h2.2=y:=⟨_,rfl⟩
 rw[hy]at hv
 rw[hv]
 conv=>whnf
 refine⟨E,hd.1,hd.2,?_⟩
 rw[hx]
 conv=>whnf
 refine⟨E,h2.1,h2.2,?_⟩
 rw[hy]
 conv=>whnf
 refine⟨qq,?_⟩
 conv=>whnf
 exact Ac E (.cons .tmp .nil) E E
theorem Acr (n:Net) (hn:n.Fin) (hm0:n.Num) (dom peer:Int) (f:FrameM) (h:FrameOK f) :
  Sy.Spec Tryz.prog 178 [Aq n,Aa dom,Aa peer,Bv f] [] (.tup [.sl 1 Ak (meshT n dom peer f).1,Aa (meshT n dom peer f).2]) []:=Ab Γ hm 100 F178 Tryz.ntmps178 rfl fun F hF=>by
 have hres:=meshT.eq_1 n dom peer f
 generalize meshT n dom peer f=res at *
 have hr:=Bk n hn
 have hpS:=Il peer n.domains.length
 have hdS:=Il dom n.domains.length
 conv=>whnf
 refine B0 4 8 (Aq n) E E E ?_
 refine B0 7 4 (Bv f) E E E ?_
 refine rg ?_;conv=>whnf
 refine Ag hpS F250 E E E E E ?_
 cases hpl:Aj peer n.domains.length
 ·rw[if_pos (.inl hpl)]at hres
  subst hres
  (refine rg ?_;(conv=>whnf);refine aT ?_;refine rg ?_;(conv=>whnf);refine aT ?_;refine rg ?_;(conv=>whnf);refine aT ?_;refine rg ?_;conv=>whnf)
  refine Ao 8 1 Ak E ?_
  exact Ac E (.cons .tmp (.cons .tmp .nil)) E E
 (refine rg ?_;(conv=>whnf);refine aF ?_;refine rg ?_;conv=>whnf)
 refine Ag hdS F250 E E E E E ?_
 cases hdl:Aj dom n.domains.length
 ·rw[if_pos (.inr (.inl hdl))]at hres
  subst hres
  (refine rg ?_;(conv=>whnf);refine aT ?_;refine rg ?_;(conv=>whnf);refine aT ?_;refine rg ?_;conv=>whnf)
  refine Ao 8 1 Ak E ?_
  exact Ac E (.cons .tmp (.cons .tmp .nil)) E E
 (refine rg ?_;(conv=>whnf);refine aF ?_;refine rg ?_;conv=>whnf)
 refine Ag hr F67 E E E E E ?_
 cases hbn:Af n
 ·rw[if_pos (.inr (.inr hbn))]at hres
  subst hres
  (refine rg ?_;(conv=>whnf);refine aT ?_;refine rg ?_;conv=>whnf)
  refine Ao 8 1 Ak E ?_
  exact Ac E (.cons .tmp (.cons .tmp .nil)) E E
 rw[if_neg (by simp[hbn,hpl,hdl])]at hres
 have hd:=H5 hdl
 have hp:=H5 hpl
 have hd0:=hd.1
 have hkd:=hd.2
 have e2:nth n.domains dom=n.domains[dom.toNat]:=An hkd
 have hpe:=hn.peers _ (List.getElem_mem hkd)
 have va:=Y2 hm0 hbn hd
 have vb:=Y2 hm0 hbn hp
 have qa:=Ms n hbn dom hd
 have qb:=Ms n hbn peer hp
 generalize Hk n dom=a at *
 generalize Hk n peer=c at *
 obtain ⟨a,rfl⟩:=Int.eq_ofNat_of_zero_le va.1
 obtain ⟨c,rfl⟩:=Int.eq_ofNat_of_zero_le vb.1
 rw[Int.toNat_natCast,Int.toNat_natCast]at hres
 obtain ⟨d,hdd⟩:∃ d,n.domains[dom.toNat]'hkd=d:=⟨_,rfl⟩
 rw[hdd]at e2 hpe
 rw[e2]at hres
 have qc:=C6 d.peers peer hpe
 have qw:=Akc a c d.vni f qn qn h
 (refine rg ?_;(conv=>whnf);refine aF ?_;refine rg ?_;conv=>whnf)
 refine⟨E,hd0,hkd,?_⟩
 rw[hdd]
 conv=>whnf
 refine Ag qc F86 E E E E E ?_
 cases hi:inB d.peers peer
 ·rw[if_pos hi]at hres
  subst hres
  (refine rg ?_;(conv=>whnf);refine aT ?_;refine rg ?_;conv=>whnf)
  refine Ao 8 1 Ak E ?_
  exact Ac E (.cons .tmp (.cons .tmp .nil)) E E
 rw[if_neg (by rw[hi];decide)]at hres
 subst hres
 (refine rg ?_;(conv=>whnf);refine aF ?_;refine rg ?_;conv=>whnf)
 refine Ay qa F254 E E E qq E ?_
 refine rd qq ?_;conv=>whnf
 refine Ay qb F254 E E E qq E ?_
 refine rd qq ?_;conv=>whnf
 refine⟨E,hd0,hkd,?_⟩
 rw[hdd]
 conv=>whnf
 refine Ay qw F253 E E E qq E ?_
 refine rd qq ?_;conv=>whnf
 refine⟨qq,?_⟩
 conv=>whnf
 exact Ac E (.cons .tmp (.cons .tmp .nil)) E E
theorem endsC1 (dst:Int) (d:Device):Sy.Spec Tryz.prog 319 [Bh d,.ref 1 (Cd dst) 0] [] (Ad (decide (d.vtep=dst))) []:=Ab Γ hm 100 F319 Tryz.ntmps319 rfl fun F hF=>by
 conv=>whnf
 refine Ac E (.cons .tmp .nil) (congrArg Ad ?_) E
 rw[Bool.eq_iff_iff]
 simp
theorem endsC2 (dev vni:Int) (d:Domain):Sy.Spec Tryz.prog 320 [Au d,.ref 1 (Aa dev) 0,.ref 1 (Aa vni) 0] [] (Ad (decide (d.dev=dev) && decide (d.vni=vni))) []:=Ab Γ hm 100 F320 Tryz.ntmps320 rfl fun F hF=>by
 conv=>whnf
 refine⟨fun h=>?_,fun h=>?_⟩
 ·have h1:d.dev=dev:=by simpa using h
  refine rg ?_;conv=>whnf
  refine Ac E (.cons .tmp .nil) (congrArg Ad ?_) E
  rw[decide_eq_true h1,Bool.true_and,Bool.eq_iff_iff]
  simp
 ·have h1:¬ d.dev=dev:=by simpa using h
  refine rg ?_;conv=>whnf
  refine Ac E (.cons .tmp .nil) (congrArg Ad ?_) E
  rw[decide_eq_false h1,Bool.false_and]
theorem endsC3 (n:Net) (hb:Af n=true) (src:Int) (k:Int) (hk:DomIn n k):Sy.Spec Tryz.prog 322 [Aa k,.ref 8 (Aq n) 0,.ref 1 (Cd src) 0] [] (Ad (decide (Hk n k=src))) []:=Ab Γ hm 100 F322 Tryz.ntmps322 rfl fun F hF=>by
 have q:=Ms n hb k hk
 conv=>whnf
 refine Ay q F254 E E E qq E ?_
 refine rd qq ?_;conv=>whnf
 refine⟨qq,?_⟩
 conv=>whnf
 refine Ac E (.cons .tmp .nil) (congrArg Ad ?_) E
 rw[Bool.eq_iff_iff]
 simp
theorem endsS (n:Net) (hn:n.Fin) (hb:Af n=true) (src dst:Nat) (vni:Int) :
  Sy.Spec Tryz.prog 260 [Aq n,Cd src,Cd dst,Aa vni] [] (.tup [Aa (endsT n src dst vni).1,Aa (endsT n src dst vni).2]) []:=Ab Γ hm 100 F260 Tryz.ntmps260 rfl fun F hF=>by
 have hres:=endsT.eq_1 n src dst vni
 dsimp only at hres
 generalize endsT n src dst vni=res at *
 have q1:=O1 n.devices (fun d=>decide (d.vtep=(dst:Int))) 319 [] [.ref 1 (Cd dst) 0] rfl (fun d _=>⟨⟨_,_,F319⟩,endsC1 dst d⟩) hn.devices
 generalize Dl (fun d:Device=>decide (d.vtep=(dst:Int))) n.devices=dev at *
 have q2:=Es n.domains (fun d=>decide (d.dev=dev) && decide (d.vni=vni)) 320 [] [.ref 1 (Aa dev) 0,.ref 1 (Aa vni) 0] rfl (fun d _=>⟨⟨_,_,F320⟩,endsC2 dev vni d⟩) hn.domains
 have hlt:=E7 (fun d:Domain=>decide (d.dev=dev) && decide (d.vni=vni)) n.domains
 generalize Dl (fun d:Domain=>decide (d.dev=dev) && decide (d.vni=vni)) n.domains=dom at *
 conv=>whnf
 refine B0 4 8 (Aq n) E E E ?_
 refine B0 5 1 (Cd src) E E E ?_
 refine B0 6 1 (Cd dst) E E E ?_
 refine B0 7 1 (Aa vni) E E E ?_
 refine rg ?_;conv=>whnf
 refine Ag q1 F318 E E E E E ?_
 refine rg ?_;conv=>whnf
 refine B0 10 1 (Aa dev) E E E ?_
 refine rg ?_;conv=>whnf
 refine Ag q2 F262 E E E E E ?_
 refine rg ?_;conv=>whnf
 refine⟨fun h=>?_,fun h=>?_⟩
 ·rw[if_pos (.inl (of_decide_eq_true h))]at hres
  subst hres
  (refine rg ?_;(conv=>whnf);refine aT ?_;refine rg ?_;conv=>whnf)
  exact Ac E (.cons .tmp (.cons .tmp .nil)) E E
 have h1:=of_decide_eq_false h
 clear h
 refine rg ?_;conv=>whnf
 refine⟨fun h=>?_,fun h=>?_⟩
 ·rw[if_pos (.inr (of_decide_eq_true h))]at hres
  subst hres
  refine rg ?_;conv=>whnf
  exact Ac E (.cons .tmp (.cons .tmp .nil)) E E
 have h2:=of_decide_eq_false h
 clear h
 rw[if_neg (fun h=>h.elim h1 h2)]at hres
 have hd0:0≤dom:=by omega
 have hkd:dom.toNat<n.domains.length:=by omega
 have e2:nth n.domains dom=n.domains[dom.toNat]:=An hkd
 have hpe:=hn.peers _ (List.getElem_mem hkd)
 have hpin:∀ k∈(n.domains[dom.toNat]'hkd).peers,DomIn n k:=fun k hk=>Z2 hb hkd hk
 obtain ⟨d,hdd⟩:∃ d,n.domains[dom.toNat]'hkd=d:=⟨_,rfl⟩
 rw[hdd]at e2 hpe hpin
 rw[e2]at hres
 have q3:=H9 d.peers (fun k=>decide (Hk n k=(src:Int))) 322 [] [.ref 8 (Aq n) 0,.ref 1 (Cd src) 0] rfl (fun k hk=>⟨⟨_,_,F322⟩,endsC3 n hb src k (hpin k hk)⟩) hpe
 have hlt2:=E7 (fun k:Int=>decide (Hk n k=(src:Int))) d.peers
 generalize Dl (fun k:Int=>decide (Hk n k=(src:Int))) d.peers=i at *
 refine rg ?_;conv=>whnf
 refine⟨E,hd0,hkd,?_⟩
 rw[hdd]
 conv=>whnf
 refine Ag q3 F321 E E E E E ?_
 refine rg ?_;conv=>whnf
 refine⟨fun h=>?_,fun h=>?_⟩
 ·rw[if_pos (of_decide_eq_true h)]at hres
  subst hres
  refine rg ?_;conv=>whnf
  exact Ac E (.cons .tmp (.cons .tmp .nil)) E E
 have h3:=of_decide_eq_false h
 clear h
 rw[if_neg h3]at hres
 have hki:i.toNat<d.peers.length:=by omega
 rw[An hki]at hres
 subst hres
 refine rg ?_;conv=>whnf
 refine⟨E,by omega,hki,?_⟩
 conv=>whnf
 exact Ac E (.cons .tmp (.cons .tmp .nil)) E E
theorem Acu (n:Net) (hn:n.Fin) (b:List UInt8) (hb:b.length<100000) :
  Sy.Spec Tryz.prog 183 [Aq n,.sl 1 Ak b] [] (.tup [Aa (comeT n b).1,Aa (comeT n b).2.1,Bv (comeT n b).2.2.1,Aa (comeT n b).2.2.2]) []:=Ab Γ hm 100 F183 Tryz.ntmps183 rfl fun F hF=>by
 have hres:=comeT.eq_1 n b
 generalize comeT n b=res at *
 have hr:=Bk n hn
 conv=>whnf
 refine B0 2 8 (Aq n) E E E ?_
 refine rg ?_;conv=>whnf
 refine Ag hr F67 E E E E E ?_
 cases hbn:Af n
 ·rw[if_pos hbn]at hres
  subst hres
  (refine rg ?_;(conv=>whnf);refine aT ?_;refine rg ?_;conv=>whnf)
  refine A0 6 zF E (.cons (.refl _) (.cons (.refl _) (.cons (.refl _) (.cons .nil .nil)))) ?_
  exact Ac E (.cons .tmp (.cons .tmp (.cons (.cell E E E E) (.cons .tmp .nil)))) E E
 rw[if_neg (by rw[hbn];decide)]at hres
 have q1:=Aez b hb
 have huo:=Tt b
 generalize Bp b=u at *
 obtain ⟨src,dst,vni,f,e⟩:=u
 dsimp only at hres q1 huo
 have hsrc:=huo.2.2.2.src
 (refine rg ?_;(conv=>whnf);refine aF ?_;refine rg ?_;conv=>whnf)
 refine Ag q1 F259 E E E E E ?_
 refine rg ?_;conv=>whnf
 refine⟨fun h=>?_,fun h=>?_⟩
 ·rw[if_pos (by simpa using h)]at hres
  subst hres
  refine rg ?_;conv=>whnf
  refine A0 6 zF E (.cons (.refl _) (.cons (.refl _) (.cons (.refl _) (.cons .nil .nil)))) ?_
  exact Ac E (.cons .tmp (.cons .tmp (.cons (.cell E E E E) (.cons .tmp .nil)))) E E
 rw[if_neg (by simpa using h)]at hres
 clear h
 have q2:=endsS n hn hbn src dst vni
 generalize endsT n src dst vni=en at *
 obtain ⟨fr,dom⟩:=en
 dsimp only at hres q2
 refine rg ?_;conv=>whnf
 refine Ag q2 F260 E E E E E ?_
 refine rg ?_;conv=>whnf
 refine⟨fun h=>?_,fun h=>?_⟩
 ·rw[if_pos (of_decide_eq_true h)]at hres
  subst hres
  refine rg ?_;conv=>whnf
  refine A0 6 zF E (.cons (.refl _) (.cons (.refl _) (.cons (.refl _) (.cons .nil .nil)))) ?_
  exact Ac E (.cons .tmp (.cons .tmp (.cons (.cell E E E E) (.cons .tmp .nil)))) E E
 rw[if_neg (of_decide_eq_false h)]at hres
 clear h
 have qg:=I9 f.src qn
 refine rg ?_;conv=>whnf
 refine Ag qg F162 E E E E E ?_
 cases hg:E1 f.src
 rotate_left
 ·rw[if_pos hg]at hres
  subst hres
  (refine rg ?_;(conv=>whnf);refine aT ?_;refine rg ?_;conv=>whnf)
  refine A0 6 zF E (.cons (.refl _) (.cons (.refl _) (.cons (.refl _) (.cons .nil .nil)))) ?_
  exact Ac E (.cons .tmp (.cons .tmp (.cons (.cell E E E E) (.cons .tmp .nil)))) E E
 rw[if_neg (by rw[hg];decide)]at hres
 subst hres
 (refine rg ?_;(conv=>whnf);refine aF ?_;refine rg ?_;conv=>whnf)
 refine⟨qq,?_⟩
 conv=>whnf
 exact Ac E (.cons .tmp (.cons .tmp (.cons (.cell E E E E) (.cons .tmp .nil)))) E E
theorem Alg {n:Net} (hb:Af n=true) {d:Int} (hd:DomIn n d) (hi:0≤(n.domains[d.toNat]'hd.2).irb) :
  ∃ h:(n.domains[d.toNat]'hd.2).irb.toNat<n.irbs.length,(n.irbs[(n.domains[d.toNat]'hd.2).irb.toNat]'h).domain=d:=by
 simp only[Af,Bool.and_eq_true]at hb
 have:=allB_iff.1 hb.1.1.1.1.1.1.1.2 _ hd.2
 simp only[K7,Bool.and_eq_true,Bool.or_eq_true,beq_iff_eq]at this
 have h2:=this.1.2
 rcases h2 with h2 | ⟨h2,h3⟩
 ·omega
 ·have h4:=Bm h2
  have h5:(n.domains[d.toNat]'hd.2).irb.toNat<n.irbs.length:=by omega
  rw[An h5]at h3
  have:=hd.1
  exact⟨h5,by omega⟩
theorem Y4 (n:Net) (hn:n.Fin) (hm0:n.Num) (dom:Int) (m:Nat) :
  Sy.Spec Tryz.prog 173 [Aq n,Aa dom,A7 m] [] (.tup [Aa (routerT n dom m).1,Ad (routerT n dom m).2]) []:=Ab Γ hm 100 F173 Tryz.ntmps173 rfl fun F hF=>by
 have hres:=routerT.eq_1 n dom m
 generalize routerT n dom m=res at *
 have hr:=Bk n hn
 conv=>whnf
 refine⟨fun h=>?_,fun h=>?_⟩
 ·have hp:Aj dom n.domains.length=false:=by
   cases hx:Aj dom n.domains.length
   ·rfl
   ·have:=Bm hx;have:=of_decide_eq_true h;omega
  rw[if_pos (.inl hp)]at hres
  subst hres
  (refine rg ?_;(conv=>whnf);refine aT ?_;refine rg ?_;(conv=>whnf);refine aT ?_;refine rg ?_;conv=>whnf)
  exact Ac E (.cons .tmp (.cons .tmp .nil)) E E
 have h0:0≤dom:=by have:=of_decide_eq_false h;omega
 clear h
 refine rg ?_;conv=>whnf
 refine⟨fun h=>?_,fun h=>?_⟩
 ·have hp:Aj dom n.domains.length=false:=by
   cases hx:Aj dom n.domains.length
   ·rfl
   ·have:=Bm hx;have:=of_decide_eq_true h;omega
  rw[if_pos (.inl hp)]at hres
  subst hres
  (refine rg ?_;(conv=>whnf);refine aT ?_;refine rg ?_;conv=>whnf)
  exact Ac E (.cons .tmp (.cons .tmp .nil)) E E
 have h1:dom<n.domains.length:=by have:=of_decide_eq_false h;omega
 clear h
 have hpl:Aj dom n.domains.length=true:=Cu ⟨h0,h1⟩
 refine rg ?_;conv=>whnf
 refine Ag hr F67 E E E E E ?_
 cases hbn:Af n
 ·rw[if_pos (.inr hbn)]at hres
  subst hres
  (refine rg ?_;(conv=>whnf);refine aT ?_;refine rg ?_;conv=>whnf)
  exact Ac E (.cons .tmp (.cons .tmp .nil)) E E
 rw[if_neg (by simp[hbn,hpl])]at hres
 have hd:=H5 hpl
 have e2:nth n.domains dom=n.domains[dom.toNat]'hd.2:=An hd.2
 have hir:=Alg hbn hd
 obtain ⟨d,hdd⟩:∃ d,n.domains[dom.toNat]'hd.2=d:=⟨_,rfl⟩
 simp only[hdd]at e2 hir
 rw[e2]at hres
 (refine rg ?_;(conv=>whnf);refine aF ?_;refine rg ?_;conv=>whnf)
 refine⟨E,hd.1,hd.2,?_⟩
 rw[hdd]
 conv=>whnf
 refine⟨fun h=>?_,fun h=>?_⟩
 ·rw[if_pos (.inl (of_decide_eq_true h))]at hres
  subst hres
  (refine rg ?_;(conv=>whnf);refine aT ?_;refine rg ?_;conv=>whnf)
  exact Ac E (.cons .tmp (.cons .tmp .nil)) E E
 have hi0:0≤d.irb:=by have:=of_decide_eq_false h;omega
 clear h
 obtain ⟨hi1,hi2⟩:=hir hi0
 have ha:=hm0.addr _ (List.getElem_mem hi1)
 rw[An hi1]at hres
 obtain ⟨x,hx⟩:∃ x,n.irbs[d.irb.toNat]'hi1=x:=⟨_,rfl⟩
 rw[hx]at ha hres
 obtain ⟨a,hae⟩:=Int.eq_ofNat_of_zero_le ha.1
 have qh:=Aap a qn
 rw[← hae]at qh
 refine rg ?_;conv=>whnf
 refine⟨E,hi0,hi1,?_⟩
 rw[hx]
 conv=>whnf
 refine Ag qh F244 E E E E E ?_
 refine rg ?_;conv=>whnf
 refine⟨fun h=>?_,fun h=>?_⟩
 ·have hne:Hl x.addr≠m:=fun e=>by
   rw[e]at h
   simp at h
  rw[if_pos (.inr hne)]at hres
  subst hres
  refine rg ?_;conv=>whnf
  exact Ac E (.cons .tmp (.cons .tmp .nil)) E E
 ·have heq:Hl x.addr=m:=by
   have:(Hl x.addr:Int)=(m:Int):=by simpa using h
   omega
  rw[if_neg (fun h=>h.elim qn (fun h2=>h2 heq))]at hres
  subst hres
  refine rg ?_;conv=>whnf
  exact Ac E (.cons .tmp (.cons .tmp .nil)) E E
theorem Vt {n:Net} {i:Int} (h:Aj i n.irbs.length=true):InIrbs n i:=by
 have:=Bm h
 exact⟨this.1,by omega⟩
theorem Ak9 {p:PacketM} (h:PacketOK p):PacketOK (Ac3 p):=⟨h.tos,h.id,by have:=h.ttl;show p.ttl-1≤255;omega,h.proto,h.src,h.dst⟩
theorem Acz (p:PacketM):ipPutT (Ac3 p)=if 1480<p.body.length then ([],14) else (Tb (Ac3 p),0):=rfl
theorem Afi (n:Net) (hn:n.Fin) (hm0:n.Num) (irb:Int) (f:FrameM) (hf:FrameOK f) :
  Sy.Spec Tryz.prog 174 [Aq n,Aa irb,Bv f] [] (.tup [Aa (hopT n irb f).1,Bv (hopT n irb f).2.1,Aa (hopT n irb f).2.2]) []:=Ab Γ hm 100 F174 Tryz.ntmps174 rfl fun F hF=>by
 have hres:=hopT.eq_1 n irb f
 generalize hopT n irb f=res at *
 have hr:=Bk n hn
 have hb:=hf.body
 conv=>whnf
 refine⟨fun h=>?_,fun h=>?_⟩
 ·have hp:Aj irb n.irbs.length=false:=by
   cases hx:Aj irb n.irbs.length
   ·rfl
   ·have:=Bm hx;have:=of_decide_eq_true h;omega
  rw[if_pos (.inl hp)]at hres
  subst hres
  (refine rg ?_;(conv=>whnf);refine aT ?_;refine rg ?_;(conv=>whnf);refine aT ?_;refine rg ?_;conv=>whnf)
  refine A0 7 zF E (.cons (.refl _) (.cons (.refl _) (.cons (.refl _) (.cons .nil .nil)))) ?_
  exact Ac E (.cons .tmp (.cons (.cell E E E E) (.cons .tmp .nil))) E E
 have h0:0≤irb:=by have:=of_decide_eq_false h;omega
 clear h
 refine rg ?_;conv=>whnf
 refine⟨fun h=>?_,fun h=>?_⟩
 ·have hp:Aj irb n.irbs.length=false:=by
   cases hx:Aj irb n.irbs.length
   ·rfl
   ·have:=Bm hx;have:=of_decide_eq_true h;omega
  rw[if_pos (.inl hp)]at hres
  subst hres
  (refine rg ?_;(conv=>whnf);refine aT ?_;refine rg ?_;conv=>whnf)
  refine A0 7 zF E (.cons (.refl _) (.cons (.refl _) (.cons (.refl _) (.cons .nil .nil)))) ?_
  exact Ac E (.cons .tmp (.cons (.cell E E E E) (.cons .tmp .nil))) E E
 have h1:irb<n.irbs.length:=by have:=of_decide_eq_false h;omega
 clear h
 have hpl:Aj irb n.irbs.length=true:=Cu ⟨h0,h1⟩
 refine rg ?_;conv=>whnf
 refine Ag hr F67 E E E E E ?_
 cases hbn:Af n
 ·rw[if_pos (.inr hbn)]at hres
  subst hres
  (refine rg ?_;(conv=>whnf);refine aT ?_;refine rg ?_;conv=>whnf)
  refine A0 7 zF E (.cons (.refl _) (.cons (.refl _) (.cons (.refl _) (.cons .nil .nil)))) ?_
  exact Ac E (.cons .tmp (.cons (.cell E E E E) (.cons .tmp .nil))) E E
 rw[if_neg (by simp[hbn,hpl])]at hres
 refine B0 3 8 (Aq n) E E E ?_
 refine B0 5 4 (Bv f) E E E ?_
 (refine rg ?_;(conv=>whnf);refine aF ?_;refine rg ?_;conv=>whnf)
 refine⟨fun h=>?_,fun h=>?_⟩
 ·rw[if_pos (by have:¬ (f.typ:Int)=2048:=(by simpa using h);omega)]at hres
  subst hres
  refine rg ?_;conv=>whnf
  refine A0 7 zF E (.cons (.refl _) (.cons (.refl _) (.cons (.refl _) (.cons .nil .nil)))) ?_
  exact Ac E (.cons .tmp (.cons (.cell E E E E) (.cons .tmp .nil))) E E
 rw[if_neg (by have:(f.typ:Int)=2048:=(by simpa using h);omega)]at hres
 clear h
 have q1:=Aeg f.body qn
 have hok:=@Ux f.body
 generalize ipTakeT f.body=tk at *
 obtain ⟨p,e⟩:=tk
 dsimp only at hres q1 hok
 refine rg ?_;conv=>whnf
 refine Ag q1 F245 E E E E E ?_
 refine rg ?_;conv=>whnf
 by_cases he:e=0
 rotate_left
 ·rw[if_pos he]at hres
  subst hres
  refine⟨fun h=>absurd (show e=0 by simpa using h) he,fun _=>?_⟩
  refine rg ?_;conv=>whnf
  refine⟨fun _=>?_,fun h=>absurd (show e=0 by simpa using h) he⟩
  refine rg ?_;conv=>whnf
  refine A0 7 zF E (.cons (.refl _) (.cons (.refl _) (.cons (.refl _) (.cons .nil .nil)))) ?_
  exact Ac E (.cons .tmp (.cons (.cell E E E E) (.cons .tmp .nil))) E E
 subst he
 rw[if_neg qy]at hres
 obtain ⟨hpo,hpb⟩:=hok rfl
 have hpt:=hpo.ttl
 have hpd:=hpo.dst
 have q2:=ipHopS p qn hpt
 (refine⟨fun _=>?_,fun h=>False.elim (absurd h qx)⟩;refine rg ?_;conv=>whnf)
 by_cases ht:p.ttl≤1
 ·rw[if_pos ht]at hres
  subst hres
  rw[hop1,if_pos ht]at q2
  refine Ag q2 F246 E E E E E ?_
  (refine rg ?_;(conv=>whnf);refine aT ?_;refine rg ?_;conv=>whnf)
  refine A0 7 zF E (.cons (.refl _) (.cons (.refl _) (.cons (.refl _) (.cons .nil .nil)))) ?_
  exact Ac E (.cons .tmp (.cons (.cell E E E E) (.cons .tmp .nil))) E E
 rw[if_neg ht]at hres
 rw[hop1,if_neg ht]at q2
 refine Ag q2 F246 E E E E E ?_
 have q3:=Ak3 n hn hbn irb p.dst (Vt hpl)
 have hth:=fun h=>@Aad n irb p.dst h
 generalize lookT n irb p.dst=lk at *
 obtain ⟨to,ok⟩:=lk
 dsimp only at hres q3 hth
 (refine rg ?_;(conv=>whnf);refine aF ?_;refine rg ?_;conv=>whnf)
 refine Ag q3 F247 E E E E E ?_
 cases ok
 ·rw[if_pos rfl]at hres
  subst hres
  (refine rg ?_;(conv=>whnf);refine aT ?_;refine rg ?_;conv=>whnf)
  refine A0 7 zF E (.cons (.refl _) (.cons (.refl _) (.cons (.refl _) (.cons .nil .nil)))) ?_
  exact Ac E (.cons .tmp (.cons (.cell E E E E) (.cons .tmp .nil))) E E
 rw[if_neg qx]at hres
 have hto:=hth rfl
 have hpp:=Acz p
 have q4:=Aeh (Ac3 p) (Ak9 hpo) (by show p.body.length<100000;omega)
 rw[hpp]at q4
 clear hpp
 by_cases hl:1480<p.body.length
 ·rw[if_pos hl]at hres q4
  subst hres
  (refine rg ?_;(conv=>whnf);refine aF ?_;refine rg ?_;conv=>whnf)
  refine Ag q4 F248 E E E E E ?_
  (refine rg ?_;(conv=>whnf);refine aT ?_;refine rg ?_;conv=>whnf)
  refine A0 7 zF E (.cons (.refl _) (.cons (.refl _) (.cons (.refl _) (.cons .nil .nil)))) ?_
  exact Ac E (.cons .tmp (.cons (.cell E E E E) (.cons .tmp .nil))) E E
 rw[if_neg hl]at hres q4
 have ha:=hm0.addr _ (List.getElem_mem hto.2)
 rw[An hto.2]at hres
 obtain ⟨x,hx⟩:∃ x,n.irbs[to.toNat]'hto.2=x:=⟨_,rfl⟩
 rw[hx]at ha hres
 obtain ⟨a,hae⟩:=Int.eq_ofNat_of_zero_le ha.1
 have qh:=Aap a qn
 rw[← hae]at qh
 have qd:=Aap p.dst hpd
 subst hres
 (refine rg ?_;(conv=>whnf);refine aF ?_;refine rg ?_;conv=>whnf)
 refine Ag q4 F248 E E E E E ?_
 (refine rg ?_;(conv=>whnf);refine aF ?_;refine rg ?_;conv=>whnf)
 refine⟨E,hto.1,hto.2,?_⟩
 rw[hx]
 conv=>whnf
 refine Ay qd F244 E E E qq E ?_
 refine rd qq ?_;conv=>whnf
 refine⟨E,hto.1,hto.2,?_⟩
 rw[hx]
 conv=>whnf
 refine Ay qh F244 E E E qq E ?_
 refine rd qq ?_;conv=>whnf
 refine⟨qq,?_⟩
 conv=>whnf
 exact Ac E (.cons .tmp (.cons (.cell E E E E) (.cons .tmp .nil))) E E
theorem Adc (f:FrameM) (hb:f.body.length<100000):Sy.Spec Tryz.prog 261 [Bv f] [] (Bv f) []:=Ab Γ hm 100 F261 Tryz.ntmps261 rfl fun F hF=>by
 conv=>whnf
 refine Ah (Bt Γ.toTy (d:=7) (n:=f.body.length) Ak 0 E E E E E E E E qn qn E E E) E E ?_
 refine rg ?_;conv=>whnf
 refine Ah (Q3 Γ.toTy (l:=List.replicate f.body.length 0) (m:=f.body) E E E E E .sl) E E ?_
 refine rg ?_;conv=>whnf
 refine At 7 E ?_
 refine rg ?_;conv=>whnf
 refine Ac E (.cons (.cell E E E E) .nil) ?_ E
 show SV.agg [_,_,_,.sl 1 Ak f.body]=SV.agg [_,_,_,.sl 1 Ak (f.body.take (List.replicate f.body.length (0:UInt8)).length++(List.replicate f.body.length (0:UInt8)).drop f.body.length)]
 have e:f.body.take (List.replicate f.body.length (0:UInt8)).length++(List.replicate f.body.length (0:UInt8)).drop f.body.length=f.body:=by
  rw[List.length_replicate,List.take_length,List.drop_eq_nil_of_le qy,List.append_nil]
 rw[e]
 rfl
theorem Ys (q:QueuedM) (hb:q.frame.body.length<100000):Sy.Spec Tryz.prog 185 [A4 q] [] (A4 q) []:=Ab Γ hm 100 F185 Tryz.ntmps185 rfl fun F hF=>by
 have qc:=Adc q.frame hb
 conv=>whnf
 refine Ag qc F261 E E E E E ?_
 refine rg ?_;conv=>whnf
 exact Ac E (.cons (.cell E E E E) .nil) E E
def Lc (l:List QueuedM):Prop:=∀ q∈l,q.frame.body.length<100000
theorem Alm (l:List QueuedM) (hl:l.length<1000000) (hb:Lc l):Sy.Spec Tryz.prog 184 [.sl 7 A4 l] [] (.osl 0) [(0,.row 7 A4 l)]:=Ab Γ hm 100 F184 Tryz.ntmps184 rfl fun F hF=>by
 conv=>whnf
 refine Ca 3 1000 7 A4 E E ?_
 refine A1 l.length (fun j=>[(3,.osl 1000),(6,.sl 7 A4 l),(7,Aa l.length),(8,Aa j)]) (fun j=>[(1000,.row 7 A4 (l.take j))]) [] ⟨⟨E,E,E,E,E,E,E,E,Y⟩,⟨.inl E,E,Y⟩,E,E⟩ ?_
 intro j hj
 refine rg ?_;conv=>whnf
 refine⟨fun h=>?_,fun h=>?_⟩
 ·have hlt:j<l.length:=by have:=of_decide_eq_true h;omega
  have hj0:((j:Nat):Int).toNat<l.length:=by simpa using hlt
  obtain ⟨q,hq⟩:∃ q,l[j]=q:=⟨_,rfl⟩
  have e1:l[((j:Nat):Int).toNat]'hj0=q:=hq
  have hs:l.take (j+1)=l.take j++[q]:=by rw[List.take_succ_eq_append_getElem hlt,hq]
  have hqb:=hb q (by rw[← hq];exact List.getElem_mem hlt)
  have hll:(l.take j).length=j:=by rw[List.length_take];omega
  clear h
  refine rg ?_;conv=>whnf
  refine⟨E,by omega,hj0,?_⟩
  rw[e1]
  conv=>whnf
  refine Ag (Ys q hqb) F185 E E E E E ?_
  refine rg ?_;conv=>whnf
  refine Ah (Al Γ.toTy 16 E E E E E (.row E) (.lit (e:=A4) (l:=[q]) E E) qy (by rw[hll];simp;omega) (by rw[hll];simp;omega)) E E ?_
  refine rg ?_;conv=>whnf
  refine⟨by unfold I64;omega,?_⟩
  conv=>whnf
  exact Ar [(1000,16)] hlt ⟨⟨E,E,E,E,E,E,E,E,Y⟩,⟨.inl (congrArg (Ob.row 7 A4) hs),E,Y⟩,E,E⟩
 ·have hjj:j=l.length:=by have:=of_decide_eq_false h;omega
  subst hjj
  rw[List.take_length]
  refine rg ?_;conv=>whnf
  exact done E (.cons .tmp .nil) [(0,1000)] [(0,.row 7 A4 l)] (fun _ h=>h) E E ⟨Y,⟨.inl E,E,Y⟩,E,E⟩
theorem Zw (l:List QueuedM) (q:QueuedM) (hl:l.length<1000000) (hb:Lc l) (hqb:q.frame.body.length<100000) :
  Sy.Spec Tryz.prog 170 [.sl 7 A4 l,A4 q] [] (.tup [.sl 7 A4 (pushT l q).1,Ad (pushT l q).2]) []:=Ab Γ hm 100 F170 Tryz.ntmps170 rfl fun F hF=>by
 have hres:=pushT.eq_1 l q
 generalize pushT l q=res at *
 conv=>whnf
 refine Ah (Ai [(0,55)] E F184 (Alm l hl hb) E Y E ⟨.inr E,Y⟩) E E ?_
 refine rg ?_;conv=>whnf
 refine⟨fun h=>?_,fun h=>?_⟩
 ·rw[if_pos (by have:=of_decide_eq_true h;omega)]at hres
  subst hres
  refine rg ?_;conv=>whnf
  refine At 55 E ?_
  exact Ac E (.cons .tmp (.cons .tmp .nil)) E E
 ·rw[if_neg (by have:=of_decide_eq_false h;omega)]at hres
  subst hres
  refine rg ?_;conv=>whnf
  refine Ag (Ys q hqb) F185 E E E E E ?_
  refine rg ?_;conv=>whnf
  refine Ah (Al Γ.toTy 17 E E E E E (.row E) (.lit (e:=A4) (l:=[q]) E E) qx (by simp;omega) (by simp;omega)) E E ?_
  refine At 17 E ?_
  refine rg ?_;conv=>whnf
  exact Ac E (.cons .tmp (.cons .tmp .nil)) E E
theorem Ug (l:List QueuedM) (at_:Int) (hl:l.length<1000000) (hb:Lc l) :
  Sy.Spec Tryz.prog 106 [.sl 7 A4 l,Aa at_] [] (.tup [A4 (takeT l at_).1,.sl 7 A4 (takeT l at_).2.1,Ad (takeT l at_).2.2]) []:=Ab Γ hm 100 F106 Tryz.ntmps106 rfl fun F hF=>by
 have hres:=takeT.eq_1 l at_
 generalize takeT l at_=res at *
 conv=>whnf
 refine⟨fun h=>?_,fun h=>?_⟩
 ·rw[if_pos (.inl (of_decide_eq_true h))]at hres
  subst hres
  (refine rg ?_;(conv=>whnf);refine aT ?_;refine rg ?_;conv=>whnf)
  refine Ah (Ai [(0,55)] E F184 (Alm l hl hb) E Y E ⟨.inr E,Y⟩) E E ?_
  refine At 55 E ?_
  refine rg ?_;conv=>whnf
  refine A0 4 [Aa 0,Aa 0,Aa 0,A7 0,A7 0,Aa 0,.sl 1 Ak []] E (.cons (.refl _) (.cons (.refl _) (.cons (.refl _) (.cons (.refl _) (.cons (.refl _) (.cons (.refl _) (.cons .nil .nil))))))) ?_
  exact Ac E (.cons (.cell E E E E) (.cons .tmp (.cons .tmp .nil))) E E
 have h0:0≤at_:=by have:=of_decide_eq_false h;omega
 clear h
 refine rg ?_;conv=>whnf
 refine⟨fun h=>?_,fun h=>?_⟩
 ·rw[if_pos (.inr (of_decide_eq_true h))]at hres
  subst hres
  refine rg ?_;conv=>whnf
  refine Ah (Ai [(0,55)] E F184 (Alm l hl hb) E Y E ⟨.inr E,Y⟩) E E ?_
  refine At 55 E ?_
  refine rg ?_;conv=>whnf
  refine A0 4 [Aa 0,Aa 0,Aa 0,A7 0,A7 0,Aa 0,.sl 1 Ak []] E (.cons (.refl _) (.cons (.refl _) (.cons (.refl _) (.cons (.refl _) (.cons (.refl _) (.cons (.refl _) (.cons .nil .nil))))))) ?_
  exact Ac E (.cons (.cell E E E E) (.cons .tmp (.cons .tmp .nil))) E E
 have h1:at_<l.length:=by have:=of_decide_eq_false h;omega
 clear h
 have hk:at_.toNat<l.length:=by omega
 have hne:l≠[]:=fun e=>by rw[e]at hk;simp at hk
 have hkk:((at_.toNat:Nat):Int)=at_:=by omega
 rw[if_neg qn,List.getElem?_eq_getElem hk,Option.getD_some]at hres
 obtain ⟨q,hq⟩:∃ q,l[at_.toNat]'hk=q:=⟨_,rfl⟩
 rw[hq]at hres
 have hqb:=hb q (by rw[← hq];exact List.getElem_mem hk)
 refine G_dat 0 90 E hne ?_
 intro B off cap hcap
 refine run Γ hm 3 ?_
 conv=>whnf
 refine Bs (Su 90 (.inl E) E E) qq E ?_
 refine rd qq ?_;conv=>whnf
 refine⟨E,h0,hk,?_⟩
 rw[hq]
 conv=>whnf
 refine Ay (Ys q hqb) F185 E E E qq E ?_
 refine rd qq ?_;conv=>whnf
 refine Bs (V4 (hi:=at_.toNat) Γ.toTy E E E E (congrArg (fun z=>SV.val (.int .i64 z)) hkk.symm) (congrArg (fun z=>SV.val (.int .i64 z)) hkk.symm) qn) qq E ?_
 refine Bs (Su 90 (.inl E) E E) qq E ?_
 refine rd qq ?_;conv=>whnf
 refine⟨by unfold I64;omega,?_⟩
 conv=>whnf
 refine Bs (Ch (lo:=at_.toNat+1) (hi:=l.length) Γ.toTy E E E E (.inr ⟨_,_,E,congrArg (fun z=>SV.val (.int .i64 z)) qn⟩) (.inl ⟨E,E⟩) qn (Nat.le_refl _)) qq E ?_
 have hll:((l.take l.length).drop (at_.toNat+1)).length=l.length-(at_.toNat+1):=by rw[List.length_drop,List.length_take];omega
 refine Bs (Wa Γ.toTy 90 E E E E E E (Nat.le_of_lt hk) E (by rw[hll];omega) (by rw[hll];omega)) qq E ?_
 have he:l.take at_.toNat++(l.take l.length).drop (at_.toNat+1)=l.eraseIdx at_.toNat:=by rw[List.take_length,List.eraseIdx_eq_take_drop_succ]
 have hel:(l.take at_.toNat++(l.take l.length).drop (at_.toNat+1)).length<1000000:=by rw[he,List.length_eraseIdx];split<;>omega
 have heb:Lc (l.take at_.toNat++(l.take l.length).drop (at_.toNat+1)):=by rw[he];exact fun x hx=>hb x (List.mem_of_mem_eraseIdx hx)
 refine rd qq ?_;conv=>whnf
 refine Bs (Ai [(0,55)] E F184 (Alm _ hel heb) E Y E ⟨.inr E,Y⟩) qq E ?_
 refine rd qq ?_;conv=>whnf
 refine⟨qq,?_⟩
 conv=>whnf
 refine At 55 E ?_
 refine Ac E (.cons (.cell E E E E) (.cons .tmp (.cons .tmp .nil))) ?_ E
 subst hres
 show SV.tup [_,.sl 7 A4 (l.eraseIdx at_.toNat),_]=SV.tup [_,.sl 7 A4 (l.take at_.toNat++(l.take l.length).drop (at_.toNat+1)),_]
 rw[he]
 rfl
end Go.Sy.YtmelpejjondedaaGreat
