/-
  Sy34 Sy35 K30 K31 K32 K33 K34 Sy24 T1 T2 T3 T4 V6 V7 V8 T5 T6 T7 T8 T9 T10 T11 T12 T13 T15: parts of a proof, joined by program.
-/
import Derived.Test.YteinjapglfkamaaGreatXB5
import Derived.Test.YteinjapglfkamaaGreatXB3
namespace Go.Sy
theorem Ag8 {C:Cx} {kk:List KI} {s:SS} (q:Nat) (r:List Nat) {sz:Nat} {α:Type} {e:α→SV} {l:List α} (h:s.h q=.row sz e l) (hl:l≠[]) (hr:∀ i∈r,s.σ i=.osl q)
  (hg:∀ b cap,l.length≤cap→G C kk ⟨freezeσ s.σ (.val (.slice (some ⟨b,0,none⟩) l.length cap)) r,upd s.h q (.pin b l.length cap sz e l)⟩):G C kk s:=fun κ a w hs=>by
 have hob:=hs.obj q
 rw[h]at hob
 rcases hob with ⟨_,h1⟩ | hrow
 ·exact absurd h1 hl
 obtain ⟨b,cap,cs,T,fr,e1,e2,e3,e4,e5,e6⟩:=hrow
 refine hg b cap e5 κ a w ⟨hs.defers,hs.size,hs.inv,hs.ctx,fun i=>?_,fun j=>?_⟩
 ·refine freezeσ_ok r _ i (hs.slot i) (fun hi=>?_)
  have:=hs.slot i
  rw[hr i hi]at this
  simp only[Rd,e1]at this
  simp only[Rd]
  exact this
 ·show ObOK κ w j (upd s.h q _ j)
  by_cases hj:j=q
  ·subst hj;rw[Bc];exact⟨e1,b,cap,cs,T,fr,e1,e2,e3,e4,e5,e6⟩
  ·rw[Bv _ _ hj];exact hs.obj j
theorem Vd {C:Cx} {kk:List KI} {s:SS} (q d:Nat) (r:List Nat) (m:Nat) {b n cap sz:Nat} {α:Type} {e:α→SV} {l:List α} (h:s.h q=.pin b n cap sz e l) (hd:s.h d=.fresh) (hm:m≤l.length)
  (hr:∀ i∈r,s.σ i=.val (.slice (some ⟨b,0,none⟩) m cap)) (hg:G C kk ⟨freezeσ s.σ (.osl d) r,upd (upd s.h q .non) d (.row sz e (l.take m))⟩):G C kk s:=fun κ a w hs=>by
 have hob:=hs.obj q
 rw[h]at hob
 have hnew:κ d=.new:=by have:=hs.obj d;rwa [hd]at this
 obtain ⟨e0,b',cap',cs,T,fr,e1,e2,e3,e4,e5,e6⟩:=hob
 rw[e0]at e1
 cases e1
 have hln:l.length≤n:=by
  by_cases h0:l.length=0
  ·omega
  ·have:=(e6 (l.length-1) _ ⟨by omega,rfl⟩).1
   omega
 obtain ⟨st,inv⟩:=Jn (n':=m) (w':=w) hs.inv e0 hnew rfl rfl rfl rfl (fun _ _=>rfl)
 have hlt:(l.take m).length=m:=by rw[List.length_take];omega
 refine hg _ a w ⟨hs.defers,hs.size,inv,hs.ctx.step inv st,fun j=>?_,fun j=>?_⟩
 ·refine freezeσ_ok r _ j (Rd.step st _ _ (hs.slot j)) (fun hj=>?_)
  have:=hs.slot j
  rw[hr j hj]at this
  simp only[Rd]at this
  simp[Rd,An,this]
 ·show ObOK _ w j (upd (upd s.h q .non) d _ j)
  by_cases hj:j=d
  ·subst hj;rw[Bc]
   refine .inr ⟨b,cap,cs,T,fr,by rw[An,hlt],e2,e3,e4,by omega,fun i x hx=>?_⟩
   obtain ⟨hi,rfl⟩:=hx
   obtain ⟨_,u,q2,q3⟩:=e6 i (e l[i]) ⟨by omega,rfl⟩
   refine⟨hi,u,?_,q3⟩
   rw[List.getElem_take]
   exact RdD.keep st.keeps _ _ q2
  ·rw[Bv _ _ hj]
   by_cases hj2:j=q
   ·subst hj2;rw[Bc];trivial
   ·rw[Bv _ _ hj2];exact ObOK.step st (fun e=>e.elim hj2 hj) _ (hs.obj j)
theorem Co {P:Program} (Γ:Ty P) {o:Oper} {s:SS} {t:TypeId} {ti:TI} {et:TypeId} {sz eb b n cap lo hi:Nat} {ez:List Value} {x:Operand} {lx hx:Option Operand}
  (h:o.op=.slice t x lx hx none) (ht:Γ.get t=some ti) (hk:ti.k=.slice et sz eb ez) (hxe:ev s x=.val (.slice (some ⟨b,0,none⟩) n cap)) (hlo:BoundIs s lx 0 lo) (hhi:BoundIs s hx n hi) (h1:lo≤hi) (h2:hi≤cap) :
  Good P o s ⟨.val (.slice (some (if cap=lo then ⟨b,0,none⟩ else ⟨b,lo * sz,none⟩)) (hi-lo) (cap-lo)),[],[]⟩ :=
 Good.pure fun κ a w _ hr _=>by
  have r1:=hr x (by simp[h,Op.operands])
  rw[hxe]at r1
  obtain ⟨hu,i,zv,q1,q2,q3,q4,q5⟩:=Bw Γ ht hk
  have b1:=hlo.val (a:=a) (fun y hy=>hr y (by simp[h,Op.operands,hy]))
  have b2:=hhi.val (a:=a) (fun y hy=>hr y (by simp[h,Op.operands,hy]))
  have hb:=Ei (P:=P) w (len:=n) (cap:=cap) b1 b2 h1 h2
  refine⟨.slice (some (if cap=lo then ⟨b,0,none⟩ else ⟨b,lo * sz,none⟩)) (hi-lo) (cap-lo),?_,by simp only[Rd]⟩
  by_cases hc:cap=lo
  ·subst hc
   simp[execOp,h,r1.val,Instr.sliceAt,Instr.slice,run_underlying hu,hb,sizeOf,typeInfo,q1]
  ·simp[execOp,h,r1.val,Instr.sliceAt,Instr.slice,run_underlying hu,hb,sizeOf,typeInfo,q1,q2,hc,Addr.add_lit]
theorem X0 {P:Program} (Γ:Ty P) {o:Oper} {s:SS} {t:TypeId} {ti:TI} {et:TypeId} {sz eb b n cap lo hi mm:Nat} {ez:List Value} {x:Operand} {lx hx mx:Operand} {k1 k2 k3:IntKind}
  (h:o.op=.slice t x (some lx) (some hx) (some mx)) (ht:Γ.get t=some ti) (hk:ti.k=.slice et sz eb ez) (hxe:ev s x=.val (.slice (some ⟨b,0,none⟩) n cap)) (hlo:ev s lx=.val (.int k1 lo)) (hhi:ev s hx=.val (.int k2 hi)) (hmx:ev s mx=.val (.int k3 mm))
  (h1:lo≤hi) (h2:hi≤mm) (h3:mm≤cap):Good P o s ⟨.top,[],[]⟩ :=
 Good.pure fun κ a w _ hr _=>by
  have r1:=hr x (by simp[h,Op.operands])
  have r2:=hr lx (by simp[h,Op.operands])
  have r3:=hr hx (by simp[h,Op.operands])
  have r4:=hr mx (by simp[h,Op.operands])
  rw[hxe]at r1
  rw[hlo]at r2
  rw[hhi]at r3
  rw[hmx]at r4
  obtain ⟨hu,i,zv,q1,q2,q3,q4,q5⟩:=Bw Γ ht hk
  have hb:(Instr.sliceBounds true n cap (some (a.eval lx)) (some (a.eval hx)) (some (a.eval mx))).run P w=.ok (lo,hi,mm) w:=by
   rw[r2.val,r3.val,r4.val]
   simp[Instr.sliceBounds,Instr.sliceBound,asIntOf,h1,h2,h3]
  refine⟨.slice (some (if mm=lo then ⟨b,0,none⟩ else ⟨b,lo * sz,none⟩)) (hi-lo) (mm-lo),?_,by simp only[Rd]⟩
  by_cases hc:mm=lo
  ·subst hc
   simp[execOp,h,r1.val,Instr.sliceAt,Instr.slice,run_underlying hu,hb,sizeOf,typeInfo,q1]
  ·simp[execOp,h,r1.val,Instr.sliceAt,Instr.slice,run_underlying hu,hb,sizeOf,typeInfo,q1,q2,hc,Addr.add_lit]
theorem Lg {κ:Ka} {w w':World} {k b n cap:Nat} (hi:Inv κ w) (hk:κ k=.row b n cap) (hos:w'.os=w.os) (ht:w'.tape=w.tape) (ho:w'.output=w.output)
  (hs:w'.heap.size=w.heap.size) (hb:∀ i,i≠b→w'.heap[i]? = w.heap[i]?):Step (fun j=>j=k) κ w κ w'∧Inv κ w':=by
 have hkb:(κ k).block? = some b:=by rw[hk];rfl
 refine⟨⟨by omega,hos,ht,ho,E,fun c hm=>hb c (fun e=>hi.apart k b hkb (e ▸ hm)),fun c _ hn=>hb c (fun e=>hn (.inl ⟨k,e ▸ hkb⟩)),fun j c hj hjc=>hb c (fun e=>hj ?_),fun _ _=>rfl,fun _ _=>.inr (.inl E),fun _ h=>.inl h⟩,
  ⟨hi.inj,fun j c h=>by rw[hs];exact hi.bnd j c h,hi.apart,fun c h=>by rw[hs];exact hi.mbnd c h⟩⟩
 subst e
 exact hi.inj j k _ hjc hkb
theorem Abh {cs:List Value} {sz n:Nat} (h:∀ i,i<n→∃ u:Value,u.cells.size=sz∧Ones u.cells.toList∧∀ j,j<sz→cs[i * sz+j]? = u.cells[j]?) {p:Nat} (hp:p<n * sz) {v:Value} (hv:cs[p]? = some v):v.oneCell'=true:=by
 have h0:0<sz:=by
  rcases Nat.eq_zero_or_pos sz with rfl | h
  ·simp at hp
  ·exact h
 obtain ⟨u,h1,h2,h3⟩:=h (p / sz) (Nat.div_lt_of_lt_mul (by rw[Nat.mul_comm];exact hp))
 have h4:=h3 (p % sz) (Nat.mod_lt _ h0)
 rw[Nat.mul_comm,Nat.div_add_mod,hv]at h4
 obtain ⟨hl,he⟩:=Array.getElem?_eq_some_iff.1 h4.symm
 refine h2 v ?_
 rw[← he]
 exact Array.getElem_mem_toList hl
theorem Uy {P:Program} (Γ:Ty P) {o:Oper} {s:SS} (q:Nat) {t:TypeId} {ti:TI} {et:TypeId} {sz eb b n cap i j:Nat} {ez:List Value} {x y:Operand} {α:Type} {e:α→SV} {l:List α} {B:Option Addr} {c:Nat}
  (h:o.op=.call ⟨.builtin .append,#[x,y],#[t,t]⟩) (ht:Γ.get t=some ti) (hk:ti.k=.slice et sz eb ez) (hx:ev s x=.val (.slice (some ⟨b,0,none⟩) i cap))
  (hy:ev s y=.val (.slice B (n-j) c)) (hB:B=some (if cap=j then ⟨b,0,none⟩ else ⟨b,j * sz,none⟩)) (hob:s.h q=.pin b n cap sz e l) (hl:l.length=n) (hij:i≤j) (hj:j≤n) :
  Good P o s ⟨.val (.slice (some ⟨b,0,none⟩) (i+(n-j)) cap),[],[(q,.pin b n cap sz e (l.take i++l.drop j))]⟩:=by
 intro κ a w hinv hr ho N Q hN
 have r1:=hr x (by simp[h,Op.operands,Call.operands])
 have r2:=hr y (by simp[h,Op.operands,Call.operands])
 rw[hx]at r1
 rw[hy]at r2
 subst hB
 have hq:=ho q (.inr (by simp[Up.ws]))
 rw[hob]at hq
 obtain ⟨e0,b',cap',cs,T,fr,e1,e2,e3,e4,e5,e6⟩:=hq
 rw[e0]at e1
 cases e1
 obtain ⟨hu,ii,zv,q1,q2,q3,q4,q5⟩:=Bw Γ ht hk
 have hall:∀ i,i<n→∃ u:Value,u.cells.size=sz∧Ones u.cells.toList∧∀ j,j<sz→cs[i * sz+j]? = u.cells[j]?:=fun i hi=>by
  obtain ⟨_,u,_,u2⟩:=e6 i (e l[i]) ⟨by omega,rfl⟩
  exact⟨u,u2⟩
 obtain ⟨news,hnews⟩:∃ news,news=(cs.drop (j * sz)).take ((n-j) * sz):=⟨_,rfl⟩
 have hmul:(n-j) * sz+j * sz=n * sz:=by rw[← Nat.add_mul];congr 1;omega
 have hnc:n * sz≤cap * sz:=Nat.mul_le_mul_right sz e5
 have hijs:i * sz≤j * sz:=Nat.mul_le_mul_right sz hij
 have hnl:news.length=(n-j) * sz:=by rw[hnews,List.length_take,List.length_drop];omega
 have hget:∀ p,p<(n-j) * sz→news[p]? = cs[j * sz+p]?:=fun p hp=>by
  rw[hnews,List.getElem?_take,if_pos hp,List.getElem?_drop]
 have hones:Ones news:=fun v hv=>by
  obtain ⟨p,hp,he⟩:=List.getElem_of_mem hv
  have h1:news[p]? = some v:=by rw[List.getElem?_eq_getElem hp,he]
  rw[hnl]at hp
  rw[hget p hp]at h1
  exact Abh hall qn h1
 obtain ⟨w',f1,f2,f3,f4,f5,f6,f7⟩:=B9 P b (i * sz) T fr news 0 cs w e2 e3 qn hones
 obtain ⟨st,inv⟩:=Lg hinv e0 f3 f4 f5 f6 f7
 have hroom:i+(n-j)≤cap:=by omega
 have hcell:∀ p v,cs[p]? = some v→w.cell? ⟨b,p,none⟩=some v:=fun p v hp=>by
  simp[World.cell?,e2,hp]
 have hc:(Builtin.firstCells sz (n-j) (.slice (some (if cap=j then ⟨b,0,none⟩ else ⟨b,j * sz,none⟩)) (n-j) c)).run P w=.ok news.toArray w:=by
  by_cases hcj:cap=j
  ·have h0:n-j=0:=by omega
   rw[if_pos hcj,h0]
   have h1:news=[]:=by rw[h0]at hnl;simpa using hnl
   rw[h1]
   exact run_firstCells_some (P:=P) w sz 0 ⟨b,0,none⟩ 0 c [] qy (fun j v hj=>by simp at hj)
  ·rw[if_neg hcj]
   refine run_firstCells_some (P:=P) w sz (n-j) ⟨b,j * sz,none⟩ (n-j) c news hnl (fun p v hp=>?_)
   rw[Addr.add_lit]
   have hlt:p<(n-j) * sz:=by
    rw[← hnl];exact(List.getElem?_eq_some_iff.1 hp).1
   rw[hget p hlt]at hp
   exact hcell _ _ hp
 have hrun:(execOp a.eval o).run P w=.ok (.value (.slice (some ⟨b,0,none⟩) (i+(n-j)) cap)) w':=by
  simp[execOp,h,resolve,invoke,builtin,Builtin.append_,r1.val,r2.val,run_underlying hu,sizeOf,typeInfo,q1,q2,Builtin.lenOf,hroom,hc,Addr.add_lit,f1]
 simp only[Oper.wp,hrun,Oper.upon]
 refine hN _ κ w' (st.weaken (fun k hk=>by subst hk;simp[Up.ws])) inv (by simp only[Rd]) (fun p hp=>?_)
 simp only[List.mem_singleton]at hp
 subst hp
 refine⟨e0,b,cap,_,T,fr,e0,f2,by rw[Bn];exact e3,by rw[Bn];exact e4,e5,?_⟩
 rintro k z ⟨hk0,rfl⟩
 have hset:=Ia cs news (i * sz+0)
 have hlen:(l.take i++l.drop j).length=i+(n-j):=by rw[List.length_append,List.length_take,List.length_drop];omega
 rw[hlen]at hk0
 by_cases hki:k<i
 ·obtain ⟨_,u,u1,u2,u3,u4⟩:=e6 k (e l[k]) ⟨by omega,rfl⟩
  have:(k+1) * sz≤i * sz:=Nat.mul_le_mul_right sz qn
  rw[Nat.add_mul,Nat.one_mul]at this
  refine⟨by omega,u,?_,u2,u3,fun p hp=>?_⟩
  ·rw[List.getElem_append_left (by rw[List.length_take];omega),List.getElem_take]
   exact RdD.keep st.keeps _ _ u1
  ·rw[hset _ qn,if_neg qn,u4 p hp]
 ·obtain ⟨_,u,u1,u2,u3,u4⟩:=e6 (j+(k-i)) (e l[j+(k-i)]) ⟨by omega,rfl⟩
  have hks:k * sz=i * sz+(k-i) * sz:=by rw[← Nat.add_mul];congr 1;omega
  have hjs:(j+(k-i)) * sz=j * sz+(k-i) * sz:=by rw[← Nat.add_mul]
  have:(k-i+1) * sz≤(n-j) * sz:=Nat.mul_le_mul_right sz qn
  rw[Nat.add_mul,Nat.one_mul]at this
  refine⟨by omega,u,?_,u2,u3,fun p hp=>?_⟩
  ·rw[List.getElem_append_right (by rw[List.length_take];omega),List.getElem_drop]
   have hidx:j+(k-(l.take i).length)=j+(k-i):=by rw[List.length_take];omega
   simp only[hidx]
   exact RdD.keep st.keeps _ _ u1
  ·rw[hset _ qn,if_pos qn,← u4 p hp,hjs]
   rw[show k * sz+p-(i * sz+0)=(k-i) * sz+p by omega,hget _ qn]
   congr 1
   omega
theorem Io {P:Program} (Γ:Ty P) {o:Oper} {s:SS} (q:Nat) {t:TypeId} {ti:TI} {et:TypeId} {sz eb b n cap k m c:Nat} {ez:List Value} {x:Operand} {α:Type} {e:α→SV} {l:List α} {B:Option Addr}
  (h:o.op=.call ⟨.builtin .clear,#[x],#[t]⟩) (ht:Γ.get t=some ti) (hk:ti.k=.slice et sz eb ez) (hez:ez.length=sz) (hz1:∀ v∈ez,v.oneCell'=true) (hx:ev s x=.val (.slice B m c)) (hB:B=some (if cap=k then ⟨b,0,none⟩ else ⟨b,k * sz,none⟩))
  (hob:s.h q=.pin b n cap sz e l) (hkl:k≤l.length) (hm:k+m≤cap) :
  Good P o s ⟨.tup [],[],[(q,.pin b n cap sz e (l.take k))]⟩:=by
 intro κ a w hinv hr ho N Q hN
 have r1:=hr x (by simp[h,Op.operands,Call.operands])
 rw[hx]at r1
 subst hB
 have hq:=ho q (.inr (by simp[Up.ws]))
 rw[hob]at hq
 obtain ⟨e0,b',cap',cs,T,fr,e1,e2,e3,e4,e5,e6⟩:=hq
 rw[e0]at e1
 cases e1
 obtain ⟨hu,ii,zv,q1,q2,q3,q4,q5⟩:=Bw Γ ht hk
 have hzs:zv.cells.size=sz:=by rw[← hez,← q5];simp
 have hlt:(l.take k).length=k:=by rw[List.length_take];omega
 by_cases hm0:m=0
 ·subst hm0
  have hrun:(execOp a.eval o).run P w=.ok (.value (.tuple #[])) w:=by
   simp[execOp,h,resolve,invoke,builtin,Builtin.clear_,r1.val,run_underlying hu]
  simp only[Oper.wp,hrun,Oper.upon]
  refine hN _ κ w (Step.refl _ κ w) hinv (by simp[Rd,RdL]) (fun p hp=>?_)
  simp only[List.mem_singleton]at hp
  subst hp
  refine⟨e0,b,cap,cs,T,fr,e0,e2,e3,e4,e5,?_⟩
  rintro p z ⟨hp0,rfl⟩
  rw[List.getElem_take]
  exact e6 p (e l[p]) ⟨by omega,E⟩
 obtain ⟨m,rfl⟩:∃ p,m=p+1:=⟨m-1,by omega⟩
 rw[if_neg qn]at r1
 obtain ⟨news,hnews⟩:∃ news,news=(Builtin.zeroCells zv.cells (m+1)).toList:=⟨_,rfl⟩
 have hnl:news.length=(m+1) * sz:=by rw[hnews,Array.length_toList,Od,hzs]
 have hones:Ones news:=fun v hv=>by
  rw[hnews,Array.mem_toList_iff]at hv
  refine hz1 v ?_
  rw[← q5]
  simp only[Builtin.zeroCells,Array.mem_map,Array.mem_range]at hv
  obtain ⟨p,hp,rfl⟩:=hv
  have h0:0<zv.cells.size:=by
   rcases Nat.eq_zero_or_pos zv.cells.size with h | h
   ·rw[h]at hp;simp at hp
   ·exact h
  have hlt2:p % zv.cells.size<zv.cells.size:=Nat.mod_lt _ h0
  rw[getElem!_pos zv.cells _ hlt2]
  exact Array.getElem_mem_toList hlt2
 have hmul:k * sz+(m+1) * sz≤cap * sz:=by rw[← Nat.add_mul];exact Nat.mul_le_mul_right sz hm
 obtain ⟨w',f1,f2,f3,f4,f5,f6,f7⟩:=B9 P b (k * sz) T fr news 0 cs w e2 e3 qn hones
 obtain ⟨st,inv⟩:=Lg hinv e0 f3 f4 f5 f6 f7
 have hrun:(execOp a.eval o).run P w=.ok (.value (.tuple #[])) w':=by
  simp[execOp,h,resolve,invoke,builtin,Builtin.clear_,r1.val,run_underlying hu,zeroValue,typeInfo,q1,q4,← hnews,f1]
 simp only[Oper.wp,hrun,Oper.upon]
 refine hN _ κ w' (st.weaken (fun k hk=>by subst hk;simp[Up.ws])) inv (by simp[Rd,RdL]) (fun p hp=>?_)
 simp only[List.mem_singleton]at hp
 subst hp
 refine⟨e0,b,cap,_,T,fr,e0,f2,by rw[Bn];exact e3,by rw[Bn];exact e4,e5,?_⟩
 rintro p z ⟨hp0,rfl⟩
 have hset:=Ia cs news (k * sz+0)
 obtain ⟨h0,u,u1,u2,u3,u4⟩:=e6 p (e l[p]) ⟨by omega,rfl⟩
 have:(p+1) * sz≤k * sz:=Nat.mul_le_mul_right sz qn
 rw[Nat.add_mul,Nat.one_mul]at this
 refine⟨h0,u,?_,u2,u3,fun j hj=>?_⟩
 ·rw[List.getElem_take]
  exact RdD.keep st.keeps _ _ u1
 ·have hcl:k * sz≤cs.length:=by omega
  rw[hset _ qn,if_neg qn,u4 j hj]
theorem G_dat {C:Cx} {kk:List KI} {s:SS} (i q:Nat) {sz:Nat} {α:Type} {e:α→SV} {l:List α} (h:s.σ i=.sl sz e l) (hl:l≠[])
  (hg:∀ b off cap,l.length≤cap→G C kk ⟨upd s.σ i (.val (.slice (some ⟨b,off,none⟩) l.length cap)),upd s.h q (.dat (.slice (some ⟨b,off,none⟩) l.length cap) sz e l)⟩):G C kk s:=fun κ a w hs=>by
 have h1:=hs.slot i
 rw[h]at h1
 have h1':=h1
 simp only[Rd,RdD]at h1
 rcases h1 with ⟨h2,_⟩ | ⟨b,off,cap,h2,h3,_⟩
 ·exact absurd h2 hl
 ·refine hg b off cap h3 κ a w ⟨hs.defers,hs.size,hs.inv,hs.ctx,fun j=>?_,fun j=>?_⟩
  ·show Rd κ w (upd s.σ i (.val (.slice (some ⟨b,off,none⟩) l.length cap)) j) _
   by_cases hj:j=i
   ·subst hj;rw[Bc];simp only[Rd];exact h2
   ·rw[Bv _ _ hj];exact hs.slot j
  ·show ObOK κ w j (upd s.h q (.dat (.slice (some ⟨b,off,none⟩) l.length cap) sz e l) j)
   by_cases hj:j=q
   ·subst hj;rw[Bc];rw[h2]at h1';exact h1'
   ·rw[Bv _ _ hj];exact hs.obj j
theorem X1 {P:Program} (Γ:Ty P) {o:Oper} {s:SS} {t:TypeId} {ti:TI} {et:TypeId} {sz eb b off n cap hi:Nat} {ez:List Value} {x hx mx:Operand} {k2 k3:IntKind}
  (h:o.op=.slice t x none (some hx) (some mx)) (ht:Γ.get t=some ti) (hk:ti.k=.slice et sz eb ez) (hxe:ev s x=.val (.slice (some ⟨b,off,none⟩) n cap)) (hhi:ev s hx=.val (.int k2 hi)) (hmx:ev s mx=.val (.int k3 hi))
  (h3:hi≤cap):Good P o s ⟨.val (.slice (some ⟨b,off,none⟩) hi hi),[],[]⟩ :=
 Good.pure fun κ a w _ hr _=>by
  have r1:=hr x (by simp[h,Op.operands])
  have r3:=hr hx (by simp[h,Op.operands])
  have r4:=hr mx (by simp[h,Op.operands])
  rw[hxe]at r1
  rw[hhi]at r3
  rw[hmx]at r4
  obtain ⟨hu,i,zv,q1,q2,q3,q4,q5⟩:=Bw Γ ht hk
  have hb:(Instr.sliceBounds true n cap none (some (a.eval hx)) (some (a.eval mx))).run P w=.ok (0,hi,hi) w:=by
   rw[r3.val,r4.val]
   simp[Instr.sliceBounds,Instr.sliceBound,asIntOf,h3]
  refine⟨.slice (some ⟨b,off,none⟩) hi hi,?_,by simp only[Rd]⟩
  by_cases hc:hi=0
  ·subst hc
   simp[execOp,h,r1.val,Instr.sliceAt,Instr.slice,run_underlying hu,hb,sizeOf,typeInfo,q1]
  ·simp[execOp,h,r1.val,Instr.sliceAt,Instr.slice,run_underlying hu,hb,sizeOf,typeInfo,q1,q2,hc,Addr.add_lit]
theorem X7 {P:Program} (Γ:Ty P) {o:Oper} {s:SS} (q:Nat) {t:TypeId} {ti:TI} {et:TypeId} {sz eb b off n cap:Nat} {ez:List Value} {x y:Operand} {α:Type} {e:α→SV} {l l':List α}
  (h:o.op=.call ⟨.builtin .append,#[x,y],#[t,t]⟩) (ht:Γ.get t=some ti) (hk:ti.k=.slice et sz eb ez) (hez:ez.length=sz) (hx:ev s x=.val (.slice (some ⟨b,off,none⟩) n n))
  (hq:s.h q=.dat (.slice (some ⟨b,off,none⟩) l.length cap) sz e l) (hn:n≤l.length) (hy:ev s y=.sl sz e l') (hbytes:(n+l'.length) * eb≤140737488355328) (h63:n+l'.length≤9223372036854775807) :
  Good P o s ⟨.sl sz e (l.take n++l'),[q],[]⟩:=by
 intro κ a w hinv hr ho N Q hN
 have r1:=hr x (by simp[h,Op.operands,Call.operands])
 have r2:=hr y (by simp[h,Op.operands,Call.operands])
 rw[hx]at r1
 rw[hy]at r2
 have hq1:=ho q (.inl qy)
 rw[hq]at hq1
 have hq1:Rd κ w (.sl sz e l) (.slice (some ⟨b,off,none⟩) l.length cap):=hq1
 obtain ⟨hu,ii,zv,q1,q2,q3,q4,q5⟩:=Bw Γ ht hk
 have hzs:zv.cells.size=sz:=by rw[← hez,← q5];simp
 have htl:(l.take n).length=n:=by rw[List.length_take];omega
 have hbase:Rd κ w (.sl sz e (l.take n)) (.slice (some ⟨b,off,none⟩) n n):=by
  simp only[Rd,RdD]at hq1 ⊢
  rcases hq1 with ⟨h0,_⟩ | ⟨b2,off2,cap2,h2,h3,h4,h5,h6⟩
  ·have hn0:n=0:=by rw[h0]at hn;simpa using hn
   subst hn0
   exact .inl ⟨by simp,_,_,E⟩
  ·cases h2
   refine .inr ⟨b,off,n,by rw[htl],by rw[htl];exact Nat.le_refl _,h4,h5,fun i hi=>?_⟩
   obtain ⟨u,h7,h8⟩:=h6 i qn
   exact⟨u,by rw[List.getElem_take];exact h7,h8⟩
 have hrb:=hbase.src
 have hru:=r2.src
 rw[htl]at hrb
 obtain ⟨m,hm⟩:∃ m,l'.length=m:=⟨_,rfl⟩
 rw[hm]at hru hbytes h63
 generalize hve:a.eval y=u at *
 obtain ⟨ad,c,news,hu2,hnl,hn1,hnc,hng⟩:∃ (a:Option Addr) (c:Nat) (news:List Value),u=.slice a m c∧news.length=m * sz∧Ones news∧(∀ W:World,(∀ p:Addr,p.block<w.heap.size→W.cell? p=w.cell? p)→(Builtin.firstCells sz m u).run P W=.ok news.toArray W) ∧
   (∀ j x,rowF e l' j x→j<m∧∃ q:Value,RdD (Own κ) w x q∧q.cells.size=sz∧Ones q.cells.toList∧∀ l,l<sz→news[j * sz+l]? = q.cells[l]?):=by
  rcases hru with ⟨rfl,hno,a,c,rfl⟩ | ⟨b,o,c,news,rfl,h1,h2,h3,h4⟩
  ·refine⟨a,c,[],E,by simp,by simp[Ones],fun W _=>?_,fun j x h=>absurd h (hno j x)⟩
   cases a<;>simp[Builtin.firstCells,loadCells,loadCellsFrom]
  ·refine⟨some ⟨b,o,none⟩,c,news,E,h1,h2,fun W hW=>?_,fun j x hx=>h4 j x hx⟩
   exact run_firstCells_some (P:=P) W sz m ⟨b,o,none⟩ m c news h1 (fun j q hj=>by
    rw[Addr.add_lit]
    have h5:=h3 j q hj
    rw[hW _ (by exact World.block_lt_of_cell? w _ h5),h5])
 subst hu2
 by_cases hm0:m=0
 ·subst hm0
  have hl':l'=[]:=List.eq_nil_of_length_eq_zero hm
  subst hl'
  have hc:=hnc w (fun _ _=>rfl)
  have hnn:news=[]:=by simpa using hnl
  subst hnn
  have hrun:(execOp a.eval o).run P w=.ok (.value (.slice (some ⟨b,off,none⟩) n n)) w:=by
   simp[execOp,h,resolve,invoke,builtin,Builtin.append_,r1.val,hve,run_underlying hu,sizeOf,typeInfo,q1,q2,Builtin.lenOf,hc,storeCells]
  simp only[Oper.wp,hrun,Oper.upon]
  refine hN _ κ w (Step.refl _ κ w) hinv ?_ (fun p hp=>by cases hp)
  rw[List.append_nil]
  exact hbase
 obtain ⟨olds,hol,hof,hfo⟩:∃ olds:List Value,olds.length=n * sz∧(∀ j x,rowF e (l.take n) j x→j<n→∃ q:Value,RdD (Own κ) w x q∧q.cells.size=sz∧Ones q.cells.toList∧∀ l,l<sz→olds[j * sz+l]? = q.cells[l]?) ∧
   (Builtin.firstCells sz n (.slice (some ⟨b,off,none⟩) n n)).run P w.drew=.ok olds.toArray w.drew:=by
  rcases hrb with ⟨rfl,hno,_⟩ | ⟨b2,o2,c2,olds,he,g1,g2,g3,g4⟩
  ·exact⟨[],by simp,fun j x _ hj=>absurd hj qn,run_firstCells_some (P:=P) w.drew sz 0 ⟨b,off,none⟩ 0 0 [] qy (fun j v hj=>by simp at hj)⟩
  ·cases he
   exact⟨olds,g1,fun j x hx _=>(g4 j x hx).2,run_firstCells_some (P:=P) w.drew sz n ⟨b,off,none⟩ n n olds g1 (fun j v hj=>by
    have:=g3 j v hj
    rw[Addr.add_lit];simpa using this)⟩
 have hcap:n+m≤grownCap w (n+m) n et:=grownCap_ge w (n+m) n et
 have h48:¬ (281474976710656<Builtin.nextslicecap (n+m) n * ii.bytes):=by
  have:=growslice_fits (need:=n+m) (old:=n) (bytes:=ii.bytes) qn (by rw[q3];exact hbytes)
  omega
 have h63':¬ (9223372036854775807<(n:Int)+(m:Int)):=by omega
 have hroom:¬ n+m≤n:=by omega
 have hc:=hnc w.drew (fun _ _=>rfl)
 obtain ⟨w',hw'⟩:∃ w',w.drew.alloc (.cells (olds.toArray++news.toArray++Builtin.zeroCells zv.cells (grownCap w (n+m) n et-(n+m))) et)=w':=⟨_,rfl⟩
 have hrun:(execOp a.eval o).run P w=.ok (.value (.slice (some ⟨w.heap.size,0,none⟩) (n+m) (grownCap w (n+m) n et))) w':=by
  rw[← hw']
  simp[execOp,h,resolve,invoke,builtin,Builtin.append_,r1.val,hve,run_underlying hu,sizeOf,typeInfo,zeroValue,q4,q1,q2,Builtin.lenOf,h63',h48,Question.forced,hfo,hc,newRow,grownCap]
  rw[if_neg hroom]
  have ea:∀ Z:Array Value,olds.toArray++(news.toArray++Z)=(olds++news).toArray++Z:=fun Z=>by apply Array.ext';simp
  rw[ea]
 have g0:Grew w w':=by rw[← hw'];exact(Grew.drew w).trans (Grew.alloc _ _)
 obtain ⟨st,inv⟩:=Ahj hinv g0
 have hblk:w'.heap[w.heap.size]? = some (.cells (olds++news++(Builtin.zeroCells zv.cells (grownCap w (n+m) n et-(n+m))).toList).toArray et):=by
  rw[← hw']
  have:(w.drew.alloc (.cells (olds.toArray++news.toArray++Builtin.zeroCells zv.cells (grownCap w (n+m) n et-(n+m))) et)).heap[w.heap.size]? = some (.cells (olds.toArray++news.toArray++Builtin.zeroCells zv.cells (grownCap w (n+m) n et-(n+m))) et):=heap_alloc_new w.drew _
  rw[this]
  congr 2
  apply Array.ext'
  simp
 have hsz:w.heap.size<w'.heap.size:=by rw[← hw'];simp
 simp only[Oper.wp,hrun,Oper.upon]
 refine hN _ κ w' (st.weaken (fun _ h=>h.elim)) inv ?_ (fun p hp=>by cases hp)
 simp only[Rd,RdD]
 have hlen:(l.take n++l').length=n+m:=by rw[List.length_append,htl,hm]
 refine .inr ⟨w.heap.size,0,grownCap w (n+m) n et,by rw[hlen],by rw[hlen];exact hcap,?_,hsz,fun j hj=>?_⟩
 ·rintro (⟨k,hk⟩ | hk)
  ·exact Nat.lt_irrefl _ (hinv.bnd k _ hk)
  ·exact Nat.lt_irrefl _ (hinv.mbnd _ hk)
 ·rw[hlen]at hj
  by_cases hjn:j<n
  ·obtain ⟨qv,g1,g2,g3,g4⟩:=hof j (e (l.take n)[j]) ⟨by omega,rfl⟩ hjn
   refine⟨qv,by rw[List.getElem_append_left qn];exact RdD.keep st.keeps _ _ g1,g2,g3,fun p hp=>?_⟩
   have:(j+1) * sz≤n * sz:=Nat.mul_le_mul_right sz qn
   rw[Nat.add_mul,Nat.one_mul]at this
   rw[cell_of_row w' _ _ _ et (0,0) hblk,List.getElem?_toArray,List.append_assoc,List.getElem?_append_left qn,Nat.zero_add]
   exact g4 p hp
  ·obtain ⟨_,qv,g1,g2,g3,g4⟩:=hng (j-n) (e (l'[j-n]'qn)) ⟨by omega,rfl⟩
   refine⟨qv,?_,g2,g3,fun p hp=>?_⟩
   ·rw[List.getElem_append_right qn]
    simp only[htl]
    exact RdD.keep st.keeps _ _ g1
   ·have e1:j * sz=n * sz+(j-n) * sz:=by rw[← Nat.add_mul];congr 1;omega
    have:(j-n+1) * sz≤m * sz:=Nat.mul_le_mul_right sz qn
    rw[Nat.add_mul,Nat.one_mul]at this
    rw[cell_of_row w' _ _ _ et (0,0) hblk,List.getElem?_toArray,List.append_assoc,List.getElem?_append_right qn,List.getElem?_append_left qn,← g4 p hp]
    congr 1
    omega
theorem Uf {P:Program} {o:Oper} {s:SS} (q:Nat) {sz:Nat} {α:Type} {e:α→SV} {l:List α} {v:Value} {x:Operand} (h:o.op=.move x∨o.op=.assign x) (hx:ev s x=.val v) (hq:s.h q=.dat v sz e l):Good P o s ⟨.sl sz e l,[q],[]⟩ :=
 Good.pure fun κ a w _ hr ho=>by
  have hq1:=ho q qy
  rw[hq]at hq1
  have hr1:=hr x (by rcases h with h | h<;>simp[h,Op.operands])
  rw[hx]at hr1
  refine⟨a.eval x,?_,?_⟩
  ·rcases h with h | h<;>simp[execOp,h]
  ·rw[hr1.val];exact hq1
theorem Wx {f g:Nat→Option (Nat × Nat)}:∀ (ps:List (Nat × Value)) (cs:Array Value),(∀ p∈ps,f p.1=g p.1)→Instr.fill f cs ps=Instr.fill g cs ps
 | [],cs,_=>rfl
 | (i,v)::ps,cs,h=>by
  have h1:=h (i,v) qy
  simp only[Instr.fill]
  dsimp only at h1
  rw[h1]
  cases g i with
  | none=>rfl
  | some os =>
   dsimp only
   split
   ·rfl
   ·exact Wx ps _ (fun p hp=>h p (by simp[hp]))
theorem Acy {P:Program} (Γ:Ty P) {o:Oper} {s:SS} {t et:TypeId} {ti:TI} {len esz:Nat} {ps:List (Nat × Operand)} {out:List SV} (h:o.op=.build t ps.toArray) (ht:Γ.get t=some ti) (hk:ti.k=.array et len esz)
  (h1:Ub ti.zero=true) (hps:(ps.all fun p=>Nat.blt p.1 len)=true) (hf:Wy ((List.range len).map fun i=>(i * esz,esz)) (ti.zero.map .val) (ps.map fun p=>(p.1,ev s p.2))=some out):Good P o s ⟨.agg out,[],[]⟩ :=
 Good.pure fun κ a w _ hr _=>by
  obtain ⟨d,info,z,k1,k2,k3,k4,k5,k6⟩:=Γ.ok t ti ht
  obtain ⟨hu,i,q1,q2⟩:=Mb Γ ht hk
  have hops:∀ p∈ps,Rd κ w (ev s p.2) (a.eval p.2):=fun p hp=>hr p.2 (by
   simp only[h,Op.operands]
   simp only[List.mem_toArray,List.mem_map]
   exact⟨p,hp,E⟩)
  obtain ⟨r,r1,r2,r3⟩:=Aaf (κ:=κ) (w:=w) (a:=a) ps _ out z.cells (by rw[k6];exact S3 _) (by rw[k6];exact Ls h1) hops hf
  refine⟨.agg r,?_,?_⟩
  ·have hcg:=Wx (f:=fun i=>some (i * esz,esz)) (g:=fun i=>((List.range len).map fun i=>(i * esz,esz))[i]?) (ps.map fun p=>(p.1,a.eval p.2)) z.cells (fun p hp=>by
    obtain ⟨x,hx,rfl⟩:=List.mem_map.1 hp
    have hlt:x.1<len:=Nat.le_of_ble_eq_true (List.all_eq_true.1 hps x hx)
    dsimp only
    rw[List.getElem?_map,List.getElem?_range hlt]
    rfl)
   simp only[execOp,h,Sem.run_bind,Instr.build,zeroValue,typeInfo,run_program,Result.andThen_ok,k3,k5,Sem.run_pure,run_underlying hu,sizeOf,q1,q2,List.map_toArray]
   rw[hcg,r1]
   simp
  ·simp only[Rd]
   exact⟨r.toList,by simp,r3,r2⟩
mutual
def rnb (k d:Nat):SV→SV
 | .ptr j o=>bif Nat.beq j k then .ptr d o else .ptr j o
 | .agg l=>.agg (Vy k d l)
 | .tup l=>.tup (Vy k d l)
 | .ifc t y=>.ifc t (rnb k d y)
 | .clo f g l=>.clo f (Vy k d g) (Vy k d l)
 | y=>y
def Vy (k d:Nat):List SV→List SV
 | []=>[]
 | y::l=>rnb k d y::Vy k d l
end
mutual
theorem Aeg {κ κ':Ka} {w:World} {K:Nat→Prop} {k d:Nat} (st:Step K κ w κ' w) (hx:∀ o v,Rd κ w (.ptr k o) v→Rd κ' w (.ptr d o) v):∀ (y:SV) (v:Value),Rd κ w y v→Rd κ' w (rnb k d y) v
 | .ptr j o,v,h=>by
  unfold rnb
  by_cases hk:j=k
  ·subst hk;rw[show Nat.beq j j=true from Nat.beq_refl j];exact hx o v h
  ·rw[show Nat.beq j k=false from by cases hb:Nat.beq j k with | false=>rfl | true=>exact absurd (Nat.eq_of_beq_eq_true hb) hk];exact Rd.step st _ _ h
 | .agg l,v,h=>by
  simp only[Rd]at h
  unfold rnb
  simp only[Rd]
  obtain ⟨cs,h1,h2,h3⟩:=h
  exact⟨cs,h1,h2,Ki st hx l cs h3⟩
 | .tup l,v,h=>by
  simp only[Rd]at h
  unfold rnb
  simp only[Rd]
  obtain ⟨cs,h1,h3⟩:=h
  exact⟨cs,h1,Ki st hx l cs h3⟩
 | .ifc t y,v,h=>by
  simp only[Rd]at h
  unfold rnb
  simp only[Rd]
  obtain ⟨u,h1,h3⟩:=h
  exact⟨u,h1,Aeg st hx y u h3⟩
 | .clo f g l,v,h=>by
  simp only[Rd]at h
  unfold rnb
  simp only[Rd]
  obtain ⟨fs,cs,h1,h2,h3⟩:=h
  exact⟨fs,cs,h1,Ki st hx g fs h2,Ki st hx l cs h3⟩
 | .top,v,h=>by unfold rnb;exact Rd.step st _ _ h
 | .val u,v,h=>by unfold rnb;exact Rd.step st _ _ h
 | .sl sz e l,v,h=>by unfold rnb;exact Rd.step st _ _ h
 | .ref sz z o,v,h=>by unfold rnb;exact Rd.step st _ _ h
 | .rpt k sz i o,v,h=>by unfold rnb;exact Rd.step st _ _ h
 | .osl k,v,h=>by unfold rnb;exact Rd.step st _ _ h
theorem Ki {κ κ':Ka} {w:World} {K:Nat→Prop} {k d:Nat} (st:Step K κ w κ' w) (hx:∀ o v,Rd κ w (.ptr k o) v→Rd κ' w (.ptr d o) v):∀ (l:List SV) (vs:List Value),RdL κ w l vs→RdL κ' w (Vy k d l) vs
 | [],vs,h=>by
  unfold Vy
  simpa [RdL] using h
 | y::l,vs,h=>by
  simp only[RdL]at h
  unfold Vy
  simp only[RdL]
  obtain ⟨v,r,h1,h2,h3⟩:=h
  exact⟨v,r,h1,Aeg st hx y v h2,Ki st hx l r h3⟩
end
def rnbO (k d:Nat):Ob→Ob
 | .box l=>.box (Vy k d l)
 | o=>o
theorem Ad8 {κ:Ka} {w:World} {k d b:Nat} (hi:Inv κ w) (hk:κ k=.blk b) (hd:κ d=.new) :
  Step (fun j=>j=k∨j=d) κ w (Cr (Cr κ k .dead) d (.blk b)) w∧Inv (Cr (Cr κ k .dead) d (.blk b)) w:=by
 have hkd:k≠d:=fun e=>by subst e;rw[hk]at hd;cases hd
 have hkb:(κ k).block? = some b:=by rw[hk];rfl
 have key:∀ j c,((Cr (Cr κ k .dead) d (.blk b)) j).block? = some c→(j=d∧c=b)∨(j≠d∧j≠k∧(κ j).block? = some c):=by
  intro j c h
  by_cases hj:j=d
  ·subst hj;rw[An]at h;exact .inl ⟨rfl,by simpa [Ent.block?] using h.symm⟩
  ·rw[Bm _ _ hj]at h
   by_cases hj2:j=k
   ·subst hj2;rw[An]at h;cases h
   ·rw[Bm _ _ hj2]at h;exact .inr ⟨hj,hj2,h⟩
 refine⟨⟨Nat.le_refl _,E,E,E,E,fun _ _=>rfl,fun _ _ _=>rfl,fun _ _ _ _=>rfl,fun j hj=>?_,?_,?_⟩,⟨?_,?_,?_,fun c h=>hi.mbnd c h⟩⟩
 ·rw[Bm _ _ (fun e=>hj (.inr e)),Bm _ _ (fun e=>hj (.inl e))]
 ·rintro j (rfl | rfl)
  ·exact .inr (.inr (by rw[Bm _ _ hkd,An]))
  ·exact .inl hd
 ·rintro c (⟨j,hj⟩ | hj)
  ·rcases key j c hj with ⟨_,rfl⟩ | ⟨_,_,h⟩
   ·exact .inl (.inl ⟨k,hkb⟩)
   ·exact .inl (.inl ⟨j,h⟩)
  ·exact .inl (.inr hj)
 ·intro i j c h1 h2
  rcases key i c h1 with ⟨a1,a2⟩ | ⟨a1,a2,a3⟩<;>rcases key j c h2 with ⟨b1,b2⟩ | ⟨b1,b2,b3⟩
  ·exact a1.trans b1.symm
  ·subst a2;exact absurd (hi.inj j k _ b3 hkb) b2
  ·subst b2;exact absurd (hi.inj i k _ a3 hkb) a2
  ·exact hi.inj i j c a3 b3
 ·intro j c h
  rcases key j c h with ⟨_,rfl⟩ | ⟨_,_,h⟩
  ·exact hi.bnd k _ hkb
  ·exact hi.bnd j c h
 ·intro j c h
  rcases key j c h with ⟨_,rfl⟩ | ⟨_,_,h⟩
  ·exact hi.apart k _ hkb
  ·exact hi.apart j c h
theorem H8 {C:Cx} {kk:List KI} {s:SS} (k d:Nat) {l:List SV} (h:s.h k=.box l) (hd:s.h d=.fresh) (hkd:k≠d)
  (hg:G C kk ⟨fun i=>rnb k d (s.σ i),upd (fun j=>bif Nat.beq j k then .non else rnbO k d (s.h j)) d (.box (Vy k d l))⟩):G C kk s:=fun κ a w hs=>by
 have hob:=hs.obj k
 rw[h]at hob
 have hnew:κ d=.new:=by have:=hs.obj d;rwa [hd]at this
 obtain ⟨b,cs,T,fr,e1,e2,e3,e4,e5⟩:=hob
 obtain ⟨st,inv⟩:=Ad8 hs.inv e1 hnew
 have hne:∀ j,j≠k→j≠d→(Cr (Cr κ k .dead) d (.blk b)) j=κ j:=fun j h1 h2=>by rw[Bm _ _ h2,Bm _ _ h1]
 have hv:∀ o v,Rd κ w (.ptr k o) v→Rd (Cr (Cr κ k .dead) d (.blk b)) w (.ptr d o) v:=fun o v hv=>by
  simp only[Rd,e1]at hv
  simp only[Rd,An]
  exact hv
 refine hg _ a w ⟨hs.defers,hs.size,inv,hs.ctx.step inv st,fun j=>Aeg st hv _ _ (hs.slot j),fun j=>?_⟩
 show ObOK _ w j (upd (fun j=>bif Nat.beq j k then .non else rnbO k d (s.h j)) d (.box (Vy k d l)) j)
 by_cases hj:j=d
 ·subst hj
  rw[Bc]
  exact⟨b,cs,T,fr,An _ _ _,e2,e3,e4,Ki st hv l cs e5⟩
 ·rw[Bv _ _ hj]
  by_cases hj2:j=k
  ·subst hj2;rw[show Nat.beq j j=true from Nat.beq_refl j];trivial
  ·rw[show Nat.beq j k=false from by cases hb:Nat.beq j k with | false=>rfl | true=>exact absurd (Nat.eq_of_beq_eq_true hb) hj2]
   have hb:=ObOK.step st (fun e=>e.elim hj2 hj) _ (hs.obj j)
   have h0:=hs.obj j
   show ObOK _ w j (rnbO k d (s.h j))
   cases hh:s.h j with
   | box m =>
    rw[hh]at h0 hb
    obtain ⟨b2,cs2,T2,fr2,f1,f2,f3,f4,f5⟩:=h0
    exact⟨b2,cs2,T2,fr2,(hne j hj2 hj).trans f1,f2,f3,f4,Ki st hv m cs2 f5⟩
   | fresh=>rw[hh]at hb;exact hb
   | non=>rw[hh]at hb;exact hb
   | row sz' e' l'=>rw[hh]at hb;exact hb
   | lit sz' svs=>rw[hh]at hb;exact hb
   | glob sz' x' g'=>rw[hh]at hb;exact hb
   | pin b' n' cap' sz' e' l'=>rw[hh]at hb;exact hb
   | dat v' sz' e' l'=>rw[hh]at hb;exact hb
end Go.Sy
namespace Go.Sy.YteinjapglfkamaaGreat
open Go.Proofs
attribute [local irreducible] Go.Sy.G Go.Sy.DR
set_option maxRecDepth 100000
set_option maxHeartbeats 4000000
def udpU (b:List UInt8):Nat→List SV
 | 0=>[Aa 0,Aa 0,Aa 0,Aa 0]
 | 1=>[Aa (numAt b 0 2),Aa 0,Aa 0,Aa 0]
 | 2=>[Aa (numAt b 0 2),Aa (numAt b 2 2),Aa 0,Aa 0]
 | 3=>[Aa (numAt b 0 2),Aa (numAt b 2 2),Aa (numAt b 4 2),Aa 0]
 | _=>[Aa (numAt b 0 2),Aa (numAt b 2 2),Aa (numAt b 4 2),Aa (numAt b 6 2)]
theorem Ajy (b:List UInt8) (hb:b.length<100000):Sy.Spec Tryz.prog 381 [.sl 1 Ae b] [] (.tup [Aa (udpTakeT b).1,Aa (udpTakeT b).2.1,.sl 1 Ae (udpTakeT b).2.2.1,Aa (udpTakeT b).2.2.2]) []:=cT F381 Tryz.ntmps381 fun F hF=>by
 have hres:=udpTakeT.eq_1 b
 generalize udpTakeT b=res at *
 conv=>whnf
 refine⟨fun h=>?_,fun h=>?_⟩
 ·rw[if_pos (qA h)]at hres
  subst hres
  refine oO ?_
  refine Ak 4 1 Ae E ?_
  exact dN
 have h8:8≤b.length:=qB h
 rw[if_neg qn]at hres
 clear h
 have hp0:=D6 (b[0]'qn) (b[1]'qn)
 rw[← Oz (show 0+2≤b.length by omega)]at hp0
 have hp1:=D6 (b[2]'qn) (b[3]'qn)
 rw[← Oz (show 2+2≤b.length by omega)]at hp1
 have hp2:=D6 (b[4]'qn) (b[5]'qn)
 rw[← Oz (show 4+2≤b.length by omega)]at hp2
 have hp3:=D6 (b[6]'qn) (b[7]'qn)
 rw[← Oz (show 6+2≤b.length by omega)]at hp3
 refine oO ?_
 refine Az 4 (fun j=>[(0,.sl 1 Ae b),(6,.ptr 6 0),(11,Aa j)]) (fun j=>[(6,.box (udpU b j))]) [] ⟨⟨E,E,E,E,E,E,Y⟩,⟨.inl E,E,Y⟩,E,E⟩ ?_
 intro j hj
 have hcase:j=0∨j=1∨j=2∨j=3∨j=4:=by omega
 rcases hcase with rfl | rfl | rfl | rfl | rfl
 ·refine oT ?_
  refine iW ?_
  refine⟨E,by omega,by omega,?_⟩
  conv=>whnf
  refine⟨by decide,?_⟩
  conv=>whnf
  refine iW ?_
  refine iW ?_
  refine⟨E,by omega,by omega,?_⟩
  conv=>whnf
  refine⟨by decide,by decide,?_⟩
  conv=>whnf
  refine kW ?_
  refine iW ?_
  exact Ar [] qx ⟨⟨E,E,E,E,E,E,Y⟩,⟨.inl (congrArg (fun z:Int=>Ob.box [Aa z,Aa 0,Aa 0,Aa 0]) hp0.symm),E,Y⟩,E,E⟩
 ·refine oT ?_
  refine iW ?_
  refine⟨E,by omega,by omega,?_⟩
  conv=>whnf
  refine⟨by decide,?_⟩
  conv=>whnf
  refine iW ?_
  refine iW ?_
  refine⟨E,by omega,by omega,?_⟩
  conv=>whnf
  refine⟨by decide,by decide,?_⟩
  conv=>whnf
  refine kW ?_
  refine iW ?_
  exact Ar [] qx ⟨⟨E,E,E,E,E,E,Y⟩,⟨.inl (congrArg (fun z:Int=>Ob.box [Aa (numAt b 0 2),Aa z,Aa 0,Aa 0]) hp1.symm),E,Y⟩,E,E⟩
 ·refine oT ?_
  refine iW ?_
  refine⟨E,by omega,by omega,?_⟩
  conv=>whnf
  refine⟨by decide,?_⟩
  conv=>whnf
  refine iW ?_
  refine iW ?_
  refine⟨E,by omega,by omega,?_⟩
  conv=>whnf
  refine⟨by decide,by decide,?_⟩
  conv=>whnf
  refine kW ?_
  refine iW ?_
  exact Ar [] qx ⟨⟨E,E,E,E,E,E,Y⟩,⟨.inl (congrArg (fun z:Int=>Ob.box [Aa (numAt b 0 2),Aa (numAt b 2 2),Aa z,Aa 0]) hp2.symm),E,Y⟩,E,E⟩
 ·refine oT ?_
  refine iW ?_
  refine⟨E,by omega,by omega,?_⟩
  conv=>whnf
  refine⟨by decide,?_⟩
  conv=>whnf
  refine iW ?_
  refine iW ?_
  refine⟨E,by omega,by omega,?_⟩
  conv=>whnf
  refine⟨by decide,by decide,?_⟩
  conv=>whnf
  refine kW ?_
  refine iW ?_
  exact Ar [] qx ⟨⟨E,E,E,E,E,E,Y⟩,⟨.inl (congrArg (fun z:Int=>Ob.box [Aa (numAt b 0 2),Aa (numAt b 2 2),Aa (numAt b 4 2),Aa z]) hp3.symm),E,Y⟩,E,E⟩
 clear hp0 hp1 hp2 hp3
 refine oF ?_
 refine⟨by decide,by decide,?_⟩
 conv=>whnf
 refine⟨fun h=>?_,fun h=>?_⟩
 ·rw[if_pos (qA h)]at hres
  subst hres
  refine oO ?_
  refine Ak 4 1 Ae E ?_
  exact dN
 have hs8:8≤numAt b 4 2:=qB h
 rw[if_neg qn]at hres
 clear h
 refine oO ?_
 refine⟨by decide,by decide,?_⟩
 conv=>whnf
 refine⟨fun h=>?_,fun h=>?_⟩
 ·rw[if_pos (qA h)]at hres
  subst hres
  refine oO ?_
  refine Ak 4 1 Ae E ?_
  exact dN
 have hsl:numAt b 4 2≤b.length:=qB h
 rw[if_neg qn]at hres
 clear h
 refine oO ?_
 refine⟨by decide,by decide,?_⟩
 conv=>whnf
 refine⟨fun h=>?_,fun h=>?_⟩
 ·rw[if_pos (by have:(numAt b 6 2:Int)≠0:=(by simpa using h);omega)]at hres
  subst hres
  refine oO ?_
  refine Ak 4 1 Ae E ?_
  exact dN
 rw[if_neg (by have:(numAt b 6 2:Int)=0:=(by simpa using h);omega)]at hres
 subst hres
 clear h
 have qc:=Ky ((b.take (numAt b 4 2)).drop 8) (by rw[List.length_drop,List.length_take];omega)
 refine oO ?_
 refine⟨by decide,by decide,?_⟩
 conv=>whnf
 refine⟨by decide,by decide,?_⟩
 conv=>whnf
 refine⟨by decide,by decide,?_⟩
 conv=>whnf
 refine Bk (Cf (lo:=8) (hi:=numAt b 4 2) Γ.toTy E E E E (.inr ⟨_,_,E,E⟩) (.inr ⟨_,_,E,E⟩) hs8 hsl) qq E ?_
 refine oD ?_
 refine cD qc F290 ?_
 refine oD ?_
 refine kW ?_
 exact dN
theorem Amz (src dst:Nat) (body:List UInt8) (h1:src≤65535) (h2:dst≤65535) (h3:body.length≤1472):Sy.Spec Tryz.prog 351 [Aa src,Aa dst,.sl 1 Ae body] [] (.tup [.sl 1 Ae (Ajz src dst body),Aa 0]) []:=cT F351 Tryz.ntmps351 fun F hF=>by
 ((conv=>whnf);refine aF ?_;refine rg ?_;conv=>whnf)
 (refine⟨fun h=>False.elim (by simp at h;omega),fun _=>?_⟩;refine rg ?_;(conv=>whnf);refine aF ?_;refine rg ?_;(conv=>whnf);refine⟨fun h=>False.elim (by simp at h;omega),fun _=>?_⟩;refine rg ?_;(conv=>whnf);refine⟨fun h=>False.elim (by simp at h;omega),fun _=>?_⟩;refine rg ?_;conv=>whnf)
 refine iW ?_
 refine Cc 8 1000 1 Ae E E ?_
 refine Ad (Acy Γ.toTy E E E E E E) E E ?_
 refine oO ?_
 have key:∀ (x:Nat) (pre:List Nat),pre.length≤4→Bu (pre++[x])=Bu pre++[UInt8.ofNat (x / 256),UInt8.ofNat x]:=fun x pre _=>Hf pre x
 have hwl:∀ l:List Nat,(Bu l).length=2 * l.length:=I7
 obtain ⟨ws,hws⟩:∃ ws:List Nat,ws=[src,dst,8+body.length,0]:=⟨_,rfl⟩
 refine Az 4 (fun j=>[(2,.sl 1 Ae body),(8,.osl 1000),(35,.agg [Aa src,Aa dst,Aa (8+body.length:Nat),Aa 0]),(36,Aa j)]) (fun j=>[(1000,.row 1 Ae (Bu (ws.take j)))]) [] ⟨⟨E,E,E,E,E,E,E,E,Y⟩,⟨.inl (congrArg (Ob.row 1 Ae) (by simp[Bu])),E,Y⟩,E,E⟩ ?_
 intro j hj
 have hcase:j=0∨j=1∨j=2∨j=3∨j=4:=by omega
 rcases hcase with rfl | rfl | rfl | rfl | rfl
 ·have hs:Bu (ws.take 1)=Bu (ws.take 0)++[UInt8.ofNat (src / 256),UInt8.ofNat src]:=by subst hws;exact Hf [] src
  have hl:=hwl (ws.take 0)
  have hl2:(ws.take 0).length≤4:=by rw[List.length_take];omega
  have htb:=D1 src
  refine oT ?_
  refine Ad (El (k:=.int .i64) Γ.toTy E E E Tryz.underlying3 E E qx qx E) E E ?_
  refine oO ?_
  refine⟨by decide,?_⟩
  conv=>whnf
  refine Ad (Ah Γ.toTy 46 E E E E E (.row E) (.lit (e:=Ae) (l:=[UInt8.ofNat (src / 256),UInt8.ofNat src]) E htb) qy (by rw[hl];simp only[List.length_cons,List.length_nil];omega) (by rw[hl];simp only[List.length_cons,List.length_nil];omega)) E E ?_
  refine oO ?_
  refine iW ?_
  exact Ar [(1000,46)] qx ⟨⟨E,E,E,E,E,E,E,E,Y⟩,⟨.inl (congrArg (Ob.row 1 Ae) hs),E,Y⟩,E,E⟩
 ·have hs:Bu (ws.take 2)=Bu (ws.take 1)++[UInt8.ofNat (dst / 256),UInt8.ofNat dst]:=by subst hws;exact Hf [src] dst
  have hl:=hwl (ws.take 1)
  have hl2:(ws.take 1).length≤4:=by rw[List.length_take];omega
  have htb:=D1 dst
  refine oT ?_
  refine Ad (El (k:=.int .i64) Γ.toTy E E E Tryz.underlying3 E E qx qx E) E E ?_
  refine oO ?_
  refine⟨by decide,?_⟩
  conv=>whnf
  refine Ad (Ah Γ.toTy 46 E E E E E (.row E) (.lit (e:=Ae) (l:=[UInt8.ofNat (dst / 256),UInt8.ofNat dst]) E htb) qy (by rw[hl];simp only[List.length_cons,List.length_nil];omega) (by rw[hl];simp only[List.length_cons,List.length_nil];omega)) E E ?_
  refine oO ?_
  refine iW ?_
  exact Ar [(1000,46)] qx ⟨⟨E,E,E,E,E,E,E,E,Y⟩,⟨.inl (congrArg (Ob.row 1 Ae) hs),E,Y⟩,E,E⟩
 ·have hs:Bu (ws.take 3)=Bu (ws.take 2)++[UInt8.ofNat ((8+body.length) / 256),UInt8.ofNat (8+body.length)]:=by subst hws;exact Hf [src,dst] (8+body.length)
  have hl:=hwl (ws.take 2)
  have hl2:(ws.take 2).length≤4:=by rw[List.length_take];omega
  have htb:=D1 (8+body.length)
  refine oT ?_
  refine Ad (El (k:=.int .i64) Γ.toTy E E E Tryz.underlying3 E E qx qx E) E E ?_
  refine oO ?_
  refine⟨by decide,?_⟩
  conv=>whnf
  refine Ad (Ah Γ.toTy 46 E E E E E (.row E) (.lit (e:=Ae) (l:=[UInt8.ofNat ((8+body.length) / 256),UInt8.ofNat (8+body.length)]) E htb) qy (by rw[hl];simp only[List.length_cons,List.length_nil];omega) (by rw[hl];simp only[List.length_cons,List.length_nil];omega)) E E ?_
  refine oO ?_
  refine iW ?_
  exact Ar [(1000,46)] qx ⟨⟨E,E,E,E,E,E,E,E,Y⟩,⟨.inl (congrArg (Ob.row 1 Ae) hs),E,Y⟩,E,E⟩
 ·have hs:Bu (ws.take 4)=Bu (ws.take 3)++[UInt8.ofNat (0 / 256),UInt8.ofNat 0]:=by subst hws;exact Hf [src,dst,8+body.length] 0
  have hl:=hwl (ws.take 3)
  have hl2:(ws.take 3).length≤4:=by rw[List.length_take];omega
  have htb:=D1 0
  refine oT ?_
  refine Ad (El (k:=.int .i64) Γ.toTy E E E Tryz.underlying3 E E qx qx E) E E ?_
  refine oO ?_
  refine⟨by decide,?_⟩
  conv=>whnf
  refine Ad (Ah Γ.toTy 46 E E E E E (.row E) (.lit (e:=Ae) (l:=[UInt8.ofNat (0 / 256),UInt8.ofNat 0]) E htb) qy (by rw[hl];simp only[List.length_cons,List.length_nil];omega) (by rw[hl];simp only[List.length_cons,List.length_nil];omega)) E E ?_
  refine oO ?_
  refine iW ?_
  exact Ar [(1000,46)] qx ⟨⟨E,E,E,E,E,E,E,E,Y⟩,⟨.inl (congrArg (Ob.row 1 Ae) hs),E,Y⟩,E,E⟩
 have hl:=hwl (ws.take 4)
 have e:ws.take 4=[src,dst,8+body.length,0]:=by rw[hws];rfl
 rw[e]at hl ⊢
 have hl3:(Bu [src,dst,8+body.length,0]).length=8:=hl
 refine oF ?_
 refine Ad (Ah Γ.toTy 50 E E E E E (.row E) .sl qy (by rw[hl3];simp;omega) (by rw[hl3];omega)) E E ?_
 refine Aq 50 E ?_
 refine oO ?_
 exact dN
theorem Aj0 (a b:Nat) (ha:a<18446744073709551616) (hb:b<18446744073709551616):Sy.Spec Tryz.prog 352 [A5 a,A5 b] [] (Aa (udpPort a b:Nat)) []:=cT F352 Tryz.ntmps352 fun F hF=>by
 have hx:=bits_xor_u64_nat a b ha hb
 have hmd:((a ^^^ b:Nat):Int).tmod 16384=(((a ^^^ b) % 16384:Nat):Int):=by rw[Int.tmod_eq_emod_of_nonneg qn];omega
 have hl:=Nat.mod_lt (a ^^^ b) (show 0<16384 by decide)
 have hw:IntKind.i64.wrap (((a ^^^ b) % 16384:Nat):Int)=(((a ^^^ b) % 16384:Nat):Int):=by rw[IntKind.wrap_i64];omega
 conv=>whnf
 refine⟨by decide,?_⟩
 rw[hx,hmd]
 conv=>whnf
 rw[hw]
 refine iW ?_
 refine Am E (.cons .tmp .nil) ?_ E
 refine congrArg (fun z:Int=>SV.val (.int .i64 z)) ?_
 rw[udpPort]
 omega
theorem Agv (v:Int) (h:Ta v=true):Sy.Spec Tryz.prog 350 [Aa v] [] (.tup [.sl 1 Ae [],Aa 17]) []:=cT F350 Tryz.ntmps350 fun F hF=>by
 simp only[Ta,Bool.or_eq_true,decide_eq_true_eq]at h
 conv=>whnf
 refine⟨fun h1=>?_,fun h1=>?_⟩
 ·refine oT ?_
  refine Ak 2 1 Ae E ?_
  exact dN
 refine oO ?_
 refine⟨fun h2=>?_,fun h2=>absurd (of_decide_eq_false h2) (by have:=of_decide_eq_false h1;omega)⟩
 refine oO ?_
 refine Ak 2 1 Ae E ?_
 exact dN
theorem Aju {v:Int} (h:Ta v=false):1≤v∧v≤16777215:=by
 simp only[Ta,Bool.or_eq_false_iff,decide_eq_false_iff_not]at h
 omega
theorem Ait (k:Nat):(K6 k).map Ae=[SV.val (.int .u8 8),SV.val (.int .u8 0),SV.val (.int .u8 0),SV.val (.int .u8 0),SV.val (.int .u8 (IntKind.u8.wrap ((k:Int).fdiv (2 ^ (min (Int.toNat 16) IntKind.i64.bits))))),
  SV.val (.int .u8 (IntKind.u8.wrap ((k:Int).fdiv (2 ^ (min (Int.toNat 8) IntKind.i64.bits))))),SV.val (.int .u8 (IntKind.u8.wrap (k:Int))),SV.val (.int .u8 0)]:=by
 have h1:IntKind.u8.wrap ((k:Int).fdiv (2 ^ (min (Int.toNat 16) IntKind.i64.bits)))=((UInt8.ofNat (k / 65536)).toNat:Int):=by
  show IntKind.u8.wrap ((k:Int).fdiv 65536)=_
  rw[Int.fdiv_eq_ediv_of_nonneg _ qx,IntKind.wrap_u8]
  simp
 have h2:IntKind.u8.wrap ((k:Int).fdiv (2 ^ (min (Int.toNat 8) IntKind.i64.bits)))=((UInt8.ofNat (k / 256)).toNat:Int):=by
  show IntKind.u8.wrap ((k:Int).fdiv 256)=_
  rw[Int.fdiv_eq_ediv_of_nonneg _ qx,IntKind.wrap_u8]
  simp
 have h3:=Aoi k
 rw[h1,h2,h3]
 rfl
theorem Alq (k:Nat) (h:1≤k∧k≤16777215):Sy.Spec Tryz.prog 350 [Aa k] [] (.tup [.osl 0,Aa 0]) [(0,.row 1 Ae (K6 k))]:=cT F350 Tryz.ntmps350 fun F hF=>by
 have hl:=Ait k
 conv=>whnf
 refine⟨fun h1=>absurd (of_decide_eq_true h1) qn,fun _=>?_⟩
 refine oO ?_
 refine⟨fun h1=>absurd (of_decide_eq_true h1) qn,fun _=>?_⟩
 refine oO ?_
 refine⟨by decide,?_⟩
 conv=>whnf
 refine⟨by decide,?_⟩
 conv=>whnf
 refine Iw 18 Ae (K6 k) E hl ?_
 exact done E (.cons .tmp (.cons .tmp .nil)) [(0,18)] [(0,.row 1 Ae (K6 k))] (fun _ h=>h) E E ⟨Y,⟨.inl E,E,Y⟩,E,E⟩
theorem Ajf (a b:List UInt8):((⟨a.toArray⟩:ByteArray) == (⟨b.toArray⟩:ByteArray))=decide (a=b):=by
 have key:=Go.MapKept.bytes_beq (⟨a.toArray⟩:ByteArray) ⟨b.toArray⟩
 by_cases h:a=b
 ·subst h
  rw[decide_eq_true rfl]
  exact key.2 E
 ·rw[decide_eq_false h]
  cases hb:((⟨a.toArray⟩:ByteArray) == (⟨b.toArray⟩:ByteArray)) with
  | false=>rfl
  | true =>
   have:=congrArg (fun z:ByteArray=>z.data.toList) (key.1 hb)
   exact absurd (by simpa using this) h
theorem Aj2 (x y z:UInt8):bits .or .i64 (bits .or .i64 (IntKind.i64.wrap ((IntKind.i64.wrap (x.toNat:Int)) * 2 ^ min (Int.toNat 16) IntKind.i64.bits)) (IntKind.i64.wrap ((IntKind.i64.wrap (y.toNat:Int)) * 2 ^ min (Int.toNat 8) IntKind.i64.bits))) (IntKind.i64.wrap (z.toNat:Int))
  = (((x.toNat * 256+y.toNat) * 256+z.toNat:Nat):Int):=by
 have h1:=x.toNat_lt
 have h2:=y.toNat_lt
 have h3:=z.toNat_lt
 have e1:IntKind.i64.wrap (x.toNat:Int)=(x.toNat:Int):=by rw[IntKind.wrap_i64];omega
 have e2:IntKind.i64.wrap (y.toNat:Int)=(y.toNat:Int):=by rw[IntKind.wrap_i64];omega
 have e3:IntKind.i64.wrap (z.toNat:Int)=(z.toNat:Int):=by rw[IntKind.wrap_i64];omega
 rw[e1,e2,e3]
 have f1:IntKind.i64.wrap ((x.toNat:Int) * 2 ^ min (Int.toNat 16) IntKind.i64.bits)=((x.toNat * 65536:Nat):Int):=by
  show IntKind.i64.wrap ((x.toNat:Int) * 65536)=_
  rw[IntKind.wrap_i64]
  omega
 have f2:IntKind.i64.wrap ((y.toNat:Int) * 2 ^ min (Int.toNat 8) IntKind.i64.bits)=((y.toNat * 256:Nat):Int):=by
  show IntKind.i64.wrap ((y.toNat:Int) * 256)=_
  rw[IntKind.wrap_i64]
  omega
 rw[f1,f2,Cz _ _ qn qn]
 have g1:x.toNat * 65536 ||| y.toNat * 256=x.toNat * 65536+y.toNat * 256:=by
  have h:=Nat.two_pow_add_eq_or_of_lt (i:=16) (b:=y.toNat * 256) qn x.toNat
  rw[Nat.mul_comm x.toNat 65536]
  exact h.symm
 rw[g1,Cz _ _ qn qn]
 refine congrArg (fun n:Nat=>(n:Int)) ?_
 have h:256 * (x.toNat * 256+y.toNat)+z.toNat=256 * (x.toNat * 256+y.toNat) ||| z.toNat:=Nat.two_pow_add_eq_or_of_lt (i:=8) (b:=z.toNat) qn (x.toNat * 256+y.toNat)
 have e:x.toNat * 65536+y.toNat * 256=256 * (x.toNat * 256+y.toNat):=by omega
 rw[e,← h]
 omega
theorem vniS (b:List UInt8) (hb:b.length<100000):Sy.Spec Tryz.prog 382 [.sl 1 Ae b] [] (.tup [Aa (vniT b).1,.sl 1 Ae (vniT b).2.1,Aa (vniT b).2.2]) []:=cT F382 Tryz.ntmps382 fun F hF=>by
 have hres:=vniT.eq_1 b
 generalize vniT b=res at *
 conv=>whnf
 refine⟨fun h=>?_,fun h=>?_⟩
 ·rw[if_pos (qA h)]at hres
  subst hres
  refine oO ?_
  refine Ak 3 1 Ae E ?_
  exact dN
 have h8:8≤b.length:=qB h
 rw[if_neg qn]at hres
 clear h
 have i4:(4:Int).toNat<b.length:=by show 4<_;omega
 have i5:(5:Int).toNat<b.length:=by show 5<_;omega
 have i6:(6:Int).toNat<b.length:=by show 6<_;omega
 have hv:bits .or .i64 (bits .or .i64 (IntKind.i64.wrap ((IntKind.i64.wrap ((b[(4:Int).toNat]'i4).toNat:Int)) * 2 ^ min (Int.toNat 16) IntKind.i64.bits)) (IntKind.i64.wrap ((IntKind.i64.wrap ((b[(5:Int).toNat]'i5).toNat:Int)) * 2 ^ min (Int.toNat 8) IntKind.i64.bits))) (IntKind.i64.wrap ((b[(6:Int).toNat]'i6).toNat:Int))
   = (numAt b 4 3:Int):=by
  rw[Aj2,numAt3 (show 4+3≤b.length by omega)]
  rfl
 have hvl:=Jv b 4 3
 refine oO ?_
 refine⟨E,by decide,i4,?_⟩
 conv=>whnf
 refine⟨by decide,?_⟩
 conv=>whnf
 refine⟨E,by decide,i5,?_⟩
 conv=>whnf
 refine⟨by decide,?_⟩
 conv=>whnf
 refine⟨E,by decide,i6,?_⟩
 conv=>whnf
 refine⟨qq,?_⟩
 rw[hv]
 generalize hvv:numAt b 4 3=v at *
 conv=>whnf
 by_cases h0:v=0
 ·rw[if_pos (.inl h0)]at hres
  subst hres
  have q:=Agv v (by rw[h0];decide)
  refine c0 q F350 ?_
  (refine rg ?_;(conv=>whnf);refine aT ?_;refine oD ?_)
  refine⟨qq,?_⟩
  ((conv=>whnf);refine aT ?_;refine rg ?_;conv=>whnf)
  refine Ak 3 1 Ae E ?_
  exact dN
 have q:=Alq v qn
 refine Ad (Af [(0,55)] E F350 q E Y E ⟨.inr E,Y⟩) E E ?_
 refine Aq 55 E ?_
 (refine rg ?_;(conv=>whnf);refine aF ?_;refine oD ?_)
 refine Bk (H6 Γ.toTy (bs:=K6 v) E E E E E E E .sl) qq E ?_
 refine oD ?_
 refine Bk (Cf (lo:=0) (hi:=8) Γ.toTy E E E E (.inl ⟨E,E⟩) (.inr ⟨_,_,E,E⟩) qn h8) qq E ?_
 refine oD ?_
 refine Bk (H6 Γ.toTy (bs:=b.take 8) E E E E E E E .sl) qq E ?_
 refine oD ?_
 refine kW ?_
 have hbe:=Ajf (K6 v) (b.take 8)
 rw[hbe]
 by_cases he:b.take 8=K6 v
 rotate_left
 ·rw[if_pos (.inr he)]at hres
  subst hres
  rw[decide_eq_false (fun e=>he e.symm)]
  refine⟨fun _=>?_,fun h=>absurd h qx⟩
  refine oO ?_
  refine Ak 3 1 Ae E ?_
  exact dN
 rw[if_neg (fun h=>h.elim h0 (fun h2=>h2 he))]at hres
 subst hres
 rw[decide_eq_true he.symm]
 have etk:(b.take b.length).drop 8=b.drop 8:=by rw[List.take_length]
 refine⟨fun h=>absurd h qx,fun _=>?_⟩
 refine oO ?_
 refine Ad (Cf (lo:=8) (hi:=b.length) Γ.toTy E E E E (.inr ⟨_,_,E,E⟩) (.inl ⟨E,E⟩) h8 (Nat.le_refl _)) E E ?_
 refine oO ?_
 refine Ad (Ah Γ.toTy 45 E E E E E .nil .sl qy (by simp;omega) (by simp;omega)) E E ?_
 refine Aq 45 E ?_
 refine oO ?_
 refine Am E (.cons .tmp (.cons .tmp (.cons .tmp .nil))) ?_ E
 show SV.tup [_,.sl 1 Ae (b.drop 8),_]=SV.tup [_,.sl 1 Ae ([]++(b.take b.length).drop 8),_]
 rw[etk]
 rfl
theorem Aco (a c v:Nat) (f:FrameM) (h:f.body.length≤1450):ipPutT (M3 a c v f)=(Q8 (M3 a c v f),0):=by
 rw[ipPutT,if_neg (by rw[Hv];omega)]
theorem Ad4 (a b:Nat):udpPort a b≤65535:=by
 have:=Nat.mod_lt (a ^^^ b) (show 0<16384 by decide)
 unfold udpPort
 omega
theorem Ak1 (a c v:Nat) (f:FrameM) (ha:a<4294967296) (hc:c<4294967296) (h:f.body.length≤1450):FrameOK ⟨E2 c,E2 a,2048,Q8 (M3 a c v f)⟩ :=
 ⟨Wn c hc,Wn a ha,by show (2048:Nat)≤65535;decide,by show (Q8 (M3 a c v f)).length≤1504;rw[Lw,Hv];omega⟩
theorem Amx (a c:Nat) (v:Int) (f:FrameM) (ha:a<4294967296) (hc:c<4294967296) (hf:FrameOK f) :
  Sy.Spec Tryz.prog 303 [Bi a,Bi c,Aa v,B4 f] [] (.tup [.sl 1 Ae (wrapT a c v f).1,Aa (wrapT a c v f).2]) []:=cT F303 Tryz.ntmps303 fun F hF=>by
 have hres:=wrapT.eq_1 a c v f
 generalize wrapT a c v f=res at *
 have q0:=Mg f
 have hd:=hf.dst
 have hs:=hf.src
 have hb:=hf.body
 have hpl:=Et f
 conv=>whnf
 refine Ba 7 4 (B4 f) E E E ?_
 by_cases ht:f.typ=33024
 ·rw[if_pos ht]at hres
  subst hres
  rw[decide_eq_true ht]at q0
  refine oO ?_
  refine c0 q0 F182 ?_
  refine oT ?_
  refine Ak 8 1 Ae E ?_
  exact dN
 rw[if_neg ht]at hres
 rw[decide_eq_false ht]at q0
 refine oO ?_
 refine c0 q0 F182 ?_
 refine oF ?_
 refine Ad (Af [(0,55)] E F45 (H7 f hf) E Y E ⟨.inr E,Y⟩) E E ?_
 refine Aq 55 E ?_
 refine oF ?_
 cases hv:Ta v
 rotate_left
 ·rw[if_pos hv]at hres
  subst hres
  refine c0 (Agv v hv) F350 ?_
  refine oT ?_
  refine Ak 8 1 Ae E ?_
  exact dN
 rw[if_neg (by rw[hv];decide)]at hres
 have hvg:=Aju hv
 obtain ⟨k,rfl⟩:=Int.eq_ofNat_of_zero_le (show 0≤v by omega)
 rw[Int.toNat_natCast]at hres
 refine Ad (Af [(0,56)] E F350 (Alq k qn) E Y E ⟨.inr E,Y⟩) E E ?_
 refine oF ?_
 refine⟨fun h=>?_,fun h=>?_⟩
 ·rw[if_pos (qA h)]at hres
  subst hres
  refine oO ?_
  refine Ak 8 1 Ae E ?_
  exact dN
 have hl:f.body.length≤1450:=qB h
 rw[if_neg qn]at hres
 subst hres
 clear h
 have qp:=Aj0 f.dst f.src qn qn
 have hpo:=Ad4 f.dst f.src
 have qu:=Amz (udpPort f.dst f.src) 4789 (K6 k++Mz f) hpo qx (by rw[List.length_append,H5,hpl];omega)
 have hwb:(M3 a c k f).body=Ajz (udpPort f.dst f.src) 4789 (K6 k++Mz f):=rfl
 have qi:=Z6 (M3 a c k f) (Ajr a c k f ha hc) (by rw[Hv];omega)
 rw[Aco a c k f hl]at qi
 have qe:=H7 _ (Ak1 a c k f ha hc hl)
 refine oO ?_
 refine c0 qp F352 ?_
 refine oO ?_
 refine Ad (Ah Γ.toTy 46 E E E E E (.row E) .sl qx (by rw[H5,hpl];simp;omega) (by rw[H5,hpl];omega)) E E ?_
 refine Aq 46 E ?_
 refine oO ?_
 refine c0 qu F351 ?_
 refine oO ?_
 refine c0 qi F43 ?_
 refine oO ?_
 refine c0 (Yu c hc) F44 ?_
 refine oO ?_
 refine c0 (Yu a ha) F44 ?_
 refine oO ?_
 refine Ad (Af [(0,57)] E F45 qe E Y E ⟨.inr E,Y⟩) E E ?_
 refine Aq 57 E ?_
 refine oO ?_
 exact dN
def Cu (p:PacketM) (v e:Int):List SV:=[Aa p.tos,Aa p.id,Aa p.ttl,Aa p.proto,Bi p.src,Bi p.dst,.sl 1 Ae p.body,Aa v,Aa e]
def Ce (is:Bool) (re e:Int):Int:=if is=true∧re=0 then e else re
theorem So (p:PacketM) (v re:Int) (is:Bool) (e:Int):Sy.Spec Tryz.prog 380 [.ptr 0 0,Ab is,Aa e] [(0,.box (Cu p v re))] (.tup []) [(0,.box (Cu p v (Ce is re e)))]:=cT F380 Tryz.ntmps380 fun F hF=>by
 cases is
 ·have h:Ce false re e=re:=by simp[Ce]
  rw[h]
  ((conv=>whnf);refine aF ?_;refine rg ?_;(conv=>whnf);refine aF ?_;refine rg ?_;conv=>whnf)
  exact A6 E .nil [] [(0,.box (Cu p v re))] (fun _ h=>h) E E ⟨Y,⟨.inl E,E,Y⟩,E,E⟩
 ·((conv=>whnf);refine aT ?_;refine rg ?_;conv=>whnf)
  refine⟨fun h=>?_,fun h=>?_⟩
  ·have h2:Ce true re e=e:=by show (if true=true∧re=0 then e else re)=e;rw[if_pos ⟨rfl,by simpa using h⟩]
   rw[h2]
   refine oO ?_
   exact A6 E .nil [] [(0,.box (Cu p v e))] (fun _ h=>h) E E ⟨Y,⟨.inl E,E,Y⟩,E,E⟩
  ·have h2:Ce true re e=re:=by
    show (if true=true∧re=0 then e else re)=re
    rw[if_neg (fun h3=>by
     have h4:¬ re=0:=by simpa using h
     exact h4 h3.2)]
   rw[h2]
   refine oO ?_
   exact A6 E .nil [] [(0,.box (Cu p v re))] (fun _ h=>h) E E ⟨Y,⟨.inl E,E,Y⟩,E,E⟩
theorem Am9 (b:List UInt8) (hb:b.length<100000):Sy.Spec Tryz.prog 357 [.ptr 0 0,.sl 1 Ae b] [(0,.box (Cu noP 0 0))] (.tup []) [(0,.box (Cu (outerT b).1 0 (outerT b).2))]:=cT F357 Tryz.ntmps357 fun F hF=>by
 have hres:=outerT.eq_1 b
 generalize outerT b=res at *
 have q1:=Kw b hb
 have hbad:=@Ahe b
 have hok:=@Vm b
 generalize takeF b=tk at *
 obtain ⟨f,e⟩:=tk
 dsimp only at hres q1 hbad hok
 conv=>whnf
 refine c0 q1 F121 ?_
 refine oO ?_
 refine Ad (Af [(0,0)] E F380 (So noP 0 0 true e) E ⟨E,Y⟩ E ⟨.inl E,Y⟩) E E ?_
 rw[show Ce true 0 e=e by simp[Ce]]
 refine oO ?_
 refine Ad (Af [(0,0)] E F380 (So noP 0 e ((f.typ:Int) != 2048) 11) E ⟨E,Y⟩ E ⟨.inl E,Y⟩) E E ?_
 by_cases he:e=0
 rotate_left
 ·rw[if_pos he]at hres
  subst hres
  rw[show Ce ((f.typ:Int) != 2048) e 11=e by simp[Ce,he]]
  refine oO ?_
  refine⟨fun h=>absurd (show e=0 by simpa using h) he,fun _=>?_⟩
  refine oO ?_
  exact A6 E .nil [] [(0,.box (Cu noP 0 e))] (fun _ h=>h) E E ⟨Y,⟨.inl E,E,Y⟩,E,E⟩
 subst he
 rw[if_neg qy]at hres
 by_cases ht:f.typ=2048
 rotate_left
 ·rw[if_pos ht]at hres
  subst hres
  have hb2:((f.typ:Int) != 2048)=true:=by simp;omega
  rw[hb2,show Ce true 0 11=11 by simp[Ce]]
  refine oF ?_
  exact A6 E .nil [] [(0,.box (Cu noP 0 11))] (fun _ h=>h) E E ⟨Y,⟨.inl E,E,Y⟩,E,E⟩
 rw[if_neg (fun h=>h ht)]at hres
 have hb2:((f.typ:Int) != 2048)=false:=by simp;omega
 rw[hb2,show Ce false 0 11=0 by simp[Ce]]
 have hfb:=(hok rfl).body
 have q2:=Ags f.body qn
 have hib:=@Aok f.body
 generalize ipTakeT f.body=ip at *
 obtain ⟨p,e2⟩:=ip
 dsimp only at hres q2 hib
 refine oT ?_
 refine c0 q2 F297 ?_
 refine oO ?_
 refine Ad (Af [(0,0)] E F380 (So p 0 0 true e2) E ⟨E,Y⟩ E ⟨.inl E,Y⟩) E E ?_
 rw[show Ce true 0 e2=e2 by simp[Ce]]
 refine oO ?_
 refine Ad (Af [(0,0)] E F380 (So p 0 e2 ((p.proto:Int) != 17) 11) E ⟨E,Y⟩ E ⟨.inl E,Y⟩) E E ?_
 have hfin:res=(p,Ce ((p.proto:Int) != 17) e2 11):=by
  by_cases h2:e2=0
  ·subst h2
   rw[if_neg qy]at hres
   rw[hres]
   simp only[Ce]
   by_cases h3:p.proto=17
   ·rw[if_neg (by simp[h3]),if_neg (by simp[h3])]
   ·rw[if_pos h3,if_pos (by simp;omega)]
  ·rw[if_pos h2]at hres
   rw[hres,hib h2,show Ce ((noP.proto:Int) != 17) e2 11=e2 by simp[Ce,h2]]
 rw[hfin]
 refine oO ?_
 exact A6 E .nil [] [(0,.box (Cu p 0 (Ce ((p.proto:Int) != 17) e2 11)))] (fun _ h=>h) E E ⟨Y,⟨.inl E,E,Y⟩,E,E⟩
def frameT (p:PacketM) (e:Int):FrameM × Int × Int :=
 if e≠0 then (noF,0,e) else if (udpTakeT p.body).2.2.2≠0 then (noF,0,(udpTakeT p.body).2.2.2) else if (udpTakeT p.body).2.1≠4789 then (noF,0,11)
 else if (vniT (udpTakeT p.body).2.2.1).2.2≠0 then (noF,(vniT (udpTakeT p.body).2.2.1).1,(vniT (udpTakeT p.body).2.2.1).2.2)
 else ((takeF (vniT (udpTakeT p.body).2.2.1).2.1).1,(vniT (udpTakeT p.body).2.2.1).1,
  if (takeF (vniT (udpTakeT p.body).2.2.1).2.1).2≠0 then (takeF (vniT (udpTakeT p.body).2.2.1).2.1).2 else if (takeF (vniT (udpTakeT p.body).2.2.1).2.1).1.typ=33024 then 15 else 0)
theorem frameS (p:PacketM) (e:Int) (hb:p.body.length<100000):Sy.Spec Tryz.prog 358 [.ptr 0 0] [(0,.box (Cu p 0 e))] (B4 (frameT p e).1) [(0,.box (Cu p (frameT p e).2.1 (frameT p e).2.2))]:=cT F358 Tryz.ntmps358 fun F hF=>by
 have hres:=frameT.eq_1 p e
 generalize frameT p e=res at *
 have q1:=Ajy p.body hb
 have hul:=@Amt p.body
 generalize udpTakeT p.body=u at *
 obtain ⟨u1,u2,u3,u4⟩:=u
 dsimp only at hres q1 hul
 have q2:=vniS u3 qn
 have hvl:=@vniT_body u3
 generalize vniT u3=w at *
 obtain ⟨w1,w2,w3⟩:=w
 dsimp only at hres q2 hvl
 have q3:=Kw w2 qn
 have hbad:=@Ahe w2
 generalize takeF w2=t at *
 obtain ⟨f,t2⟩:=t
 dsimp only at hres q3 hbad
 conv=>whnf
 refine⟨fun h=>?_,fun h=>?_⟩
 ·rw[if_pos (by simpa using h)]at hres
  subst hres
  refine oO ?_
  refine A8 2 zF E (.cons (.refl _) (.cons (.refl _) (.cons (.refl _) (.cons .nil .nil)))) ?_
  exact done E (.cons (.cell E E E E) .nil) [] [(0,.box (Cu p 0 e))] (fun _ h=>h) E E ⟨Y,⟨.inl E,E,Y⟩,E,E⟩
 have he:e=0:=by simpa using h
 clear h
 subst he
 rw[if_neg qy]at hres
 refine oO ?_
 refine c0 q1 F381 ?_
 refine oO ?_
 refine Ad (Af [(0,0)] E F380 (So p 0 0 true u4) E ⟨E,Y⟩ E ⟨.inl E,Y⟩) E E ?_
 rw[show Ce true 0 u4=u4 by simp[Ce]]
 refine oO ?_
 refine Ad (Af [(0,0)] E F380 (So p 0 u4 (u2 != 4789) 11) E ⟨E,Y⟩ E ⟨.inl E,Y⟩) E E ?_
 by_cases h4:u4=0
 rotate_left
 ·rw[if_pos h4]at hres
  subst hres
  rw[show Ce (u2 != 4789) u4 11=u4 by simp[Ce,h4]]
  refine oO ?_
  refine⟨fun h=>absurd (show u4=0 by simpa using h) h4,fun _=>?_⟩
  refine oO ?_
  refine⟨fun _=>?_,fun h=>absurd (show u4=0 by simpa using h) h4⟩
  refine oO ?_
  refine A8 2 zF E (.cons (.refl _) (.cons (.refl _) (.cons (.refl _) (.cons .nil .nil)))) ?_
  exact done E (.cons (.cell E E E E) .nil) [] [(0,.box (Cu p 0 u4))] (fun _ h=>h) E E ⟨Y,⟨.inl E,E,Y⟩,E,E⟩
 subst h4
 rw[if_neg qy]at hres
 by_cases h2:u2=4789
 rotate_left
 ·rw[if_pos h2]at hres
  subst hres
  rw[show Ce (u2 != 4789) 0 11=11 by simp[Ce,h2]]
  (refine oF ?_;refine bT ?_)
  refine A8 2 zF E (.cons (.refl _) (.cons (.refl _) (.cons (.refl _) (.cons .nil .nil)))) ?_
  exact done E (.cons (.cell E E E E) .nil) [] [(0,.box (Cu p 0 11))] (fun _ h=>h) E E ⟨Y,⟨.inl E,E,Y⟩,E,E⟩
 rw[if_neg (fun h=>h h2)]at hres
 rw[show Ce (u2 != 4789) 0 11=0 by simp[Ce,h2]]
 refine oT ?_
 refine c0 q2 F382 ?_
 refine oO ?_
 refine Ad (Af [(0,0)] E F380 (So p w1 0 true w3) E ⟨E,Y⟩ E ⟨.inl E,Y⟩) E E ?_
 rw[show Ce true 0 w3=w3 by simp[Ce]]
 refine oO ?_
 refine⟨fun h=>?_,fun h=>?_⟩
 ·rw[if_pos (by simpa using h)]at hres
  subst hres
  refine oO ?_
  refine A8 2 zF E (.cons (.refl _) (.cons (.refl _) (.cons (.refl _) (.cons .nil .nil)))) ?_
  exact done E (.cons (.cell E E E E) .nil) [] [(0,.box (Cu p w1 w3))] (fun _ h=>h) E E ⟨Y,⟨.inl E,E,Y⟩,E,E⟩
 have h3:w3=0:=by simpa using h
 clear h
 subst h3
 rw[if_neg qy]at hres
 refine oO ?_
 refine c0 q3 F121 ?_
 refine oO ?_
 refine Ad (Af [(0,0)] E F380 (So p w1 0 true t2) E ⟨E,Y⟩ E ⟨.inl E,Y⟩) E E ?_
 rw[show Ce true 0 t2=t2 by simp[Ce]]
 refine oO ?_
 refine c0 (Mg f) F182 ?_
 refine oO ?_
 refine Ad (Af [(0,0)] E F380 (So p w1 t2 (decide (f.typ=33024)) 15) E ⟨E,Y⟩ E ⟨.inl E,Y⟩) E E ?_
 have hfin:Ce (decide (f.typ=33024)) t2 15=if t2≠0 then t2 else if f.typ=33024 then 15 else 0:=by
  by_cases k1:t2=0
  ·subst k1
   rw[if_neg qy]
   by_cases k2:f.typ=33024<;>simp[Ce,k2]
  ·rw[if_pos k1]
   simp[Ce,k1]
 rw[← hfin]at hres
 subst hres
 refine oO ?_
 exact done E (.cons (.cell E E E E) .nil) [] [(0,.box (Cu p w1 (Ce (decide (f.typ=33024)) t2 15)))] (fun _ h=>h) E E ⟨Y,⟨.inl E,E,Y⟩,E,E⟩
theorem Ze (b:List UInt8):Br b=if (frameT (outerT b).1 (outerT b).2).2.2≠0 then (0,0,0,noF,(frameT (outerT b).1 (outerT b).2).2.2)
  else ((outerT b).1.src,(outerT b).1.dst,(frameT (outerT b).1 (outerT b).2).2.1,(frameT (outerT b).1 (outerT b).2).1,0):=by
 unfold Br
 generalize outerT b=o
 obtain ⟨p,e⟩:=o
 dsimp only
 by_cases he:e=0
 rotate_left
 ·rw[if_pos he]
  have h1:frameT p e=(noF,0,e):=by rw[frameT,if_pos he]
  rw[h1,if_pos he]
 subst he
 rw[if_neg qy]
 unfold Jh frameT
 rw[if_neg (show ¬ (0:Int)≠0 by simp)]
 generalize udpTakeT p.body=u
 obtain ⟨u1,u2,u3,u4⟩:=u
 dsimp only
 by_cases h4:u4=0
 rotate_left
 ·rw[if_pos h4,if_pos h4,if_pos h4]
  dsimp only
  rw[if_pos h4]
 subst h4
 simp only[ne_eq,not_true_eq_false,if_false]
 by_cases h2:u2=4789
 rotate_left
 ·simp[h2]
 simp only[h2,not_true_eq_false,if_false]
 generalize vniT u3=w
 obtain ⟨w1,w2,w3⟩:=w
 dsimp only
 by_cases h3:w3=0
 rotate_left
 ·simp[h3]
 simp only[h3,not_true_eq_false,if_false]
 generalize takeF w2=t
 obtain ⟨f,t2⟩:=t
 dsimp only
 by_cases k1:t2=0
 ·by_cases k2:f.typ=33024<;>simp[k1,k2]
 ·simp[k1]
theorem Aha (b:List UInt8) (hb:b.length<100000) :
  Sy.Spec Tryz.prog 308 [.sl 1 Ae b] [] (.tup [Bi (Br b).1,Bi (Br b).2.1,Aa (Br b).2.2.1,B4 (Br b).2.2.2.1,Aa (Br b).2.2.2.2]) []:=cT F308 Tryz.ntmps308 fun F hF=>by
 have hres:=Ze b
 generalize Br b=res at *
 have q1:=Am9 b hb
 have hol:=(Tk b).2
 generalize outerT b=o at *
 obtain ⟨p,e⟩:=o
 dsimp only at hres q1 hol
 have q2:=frameS p e qn
 generalize frameT p e=fr at *
 obtain ⟨f,v,e2⟩:=fr
 dsimp only at hres q2
 conv=>whnf
 refine A8 9 (Cu noP 0 0) E (.cons (.refl _) (.cons (.refl _) (.cons (.refl _) (.cons (.refl _) (.cons (.refl _) (.cons (.refl _) (.cons .nil (.cons (.refl _) (.cons (.refl _) .nil))))))))) ?_
 refine oO ?_
 refine Ad (Af [(0,9)] E F357 q1 E ⟨E,Y⟩ E ⟨.inl E,Y⟩) E E ?_
 refine oO ?_
 refine Ad (Af [(0,9)] E F358 q2 E ⟨E,Y⟩ E ⟨.inl E,Y⟩) E E ?_
 refine oO ?_
 refine⟨fun h=>?_,fun h=>?_⟩
 ·rw[if_pos (by simpa using h)]at hres
  subst hres
  refine oO ?_
  refine kW ?_
  refine A8 5 zF E (.cons (.refl _) (.cons (.refl _) (.cons (.refl _) (.cons .nil .nil)))) ?_
  exact dN
 rw[if_neg (by simpa using h)]at hres
 subst hres
 refine oO ?_
 refine kW ?_
 exact dN
end Go.Sy.YteinjapglfkamaaGreat
namespace Go.Sy
structure Meth (P:Program) (t:TypeId) (name:String) (f:FuncId) (pr:Bool) (e:TypeId):Prop where
 row:∃ i m,P.info? t=some i∧i.methods.find? (·.name == name)=some m∧m.path=#[]∧m.func=some (f,pr)
 under:P.underlying t=some (.pointer e)
theorem Vu {P:Program} {t:TypeId} {name:String} {f:FuncId} {e:TypeId} (hm:Meth P t name f true e) (w:World) (v:Value):(Go.method (P.types.size+Made.depth) t v name).run P w=.ok (f,v) w:=by
 obtain ⟨⟨i,m,h1,h2,h3,h4⟩,hu⟩:=hm
 show (Go.method (P.types.size+99+1) t v name).run P w=_
 rw[Go.method]
 simp only[Sem.run_bind,run_typeInfo w h1,Result.andThen_ok,h2,h3,Go.follow,Sem.run_pure,h4,Go.receiverAt,run_underlying hu,Go.Place.get]
theorem Vt {P:Program} {t:TypeId} {name:String} {f:FuncId} {e:TypeId} (hm:Meth P t name f false e) (w:World) (a:Addr) {v:Value} (hv:(loadVar e a).run P w=.ok v w):(Go.method (P.types.size+Made.depth) t (.pointer (some a)) name).run P w=.ok (f,v) w:=by
 obtain ⟨⟨i,m,h1,h2,h3,h4⟩,hu⟩:=hm
 show (Go.method (P.types.size+99+1) t (.pointer (some a)) name).run P w=_
 rw[Go.method]
 have he:(#[]:Array FieldStep).isEmpty=true:=rfl
 simp only[Sem.run_bind,run_typeInfo w h1,Result.andThen_ok,h2,h3,Go.follow,Sem.run_pure,h4,Go.receiverAt,run_underlying hu,Go.Place.get,he,if_true]
 have hs : ∀ n : String, (Builtin.ssaWrapNilChk_ #[t] t #[.pointer (some a), strVal "", strVal n]).run P w = .ok (.pointer (some a)) w := fun n => rfl
 simp only[hs,Result.andThen_ok,asAddr,Sem.run_pure,hv]
theorem Ol {P:Program} {o:Oper} {s:SS} {rd:List Nat} {f:FuncId} {fn:Func} {c:Code} {t e:TypeId} {name:String} {x:Operand} {xs:List Operand} {ts:Array TypeId} {y:SV} (hm:Meth P t name f true e) (hf:Fun P f fn c) (h:o.op=.call ⟨.invoke x name,xs.toArray,ts⟩) (hx:ev s x=.ifc t y) :
  K1 P o s rd f (y::xs.map (ev s)) :=
 fun κ a w hr _=>by
  have h1:=hr x (by simp[h,Op.operands,Call.operands])
  rw[hx]at h1
  simp only[Rd]at h1
  obtain ⟨u,e1,e2⟩:=h1
  refine⟨u::xs.map a.eval,?_,?_⟩
  ·have hcall:=Hx hf (u::xs.map a.eval).toArray w
   have hmeth:=Vu hm w u
   simp only[execOp,h,resolve,invoke,e1,Sem.run_bind,Sem.run_pure,Result.andThen_ok]at hcall ⊢
   simp only[callMethod]
   rw[← hcall]
   have htk:(xs.map a.eval).take xs.length=xs.map a.eval:=List.take_of_length_le qy
   simp[hmeth,Sem.run_bind,htk]
  ·simp only[RdL]
   exact⟨_,_,E,e2,I6 xs (fun y hy=>hr y (by simp[h,Op.operands,Call.operands,hy]))⟩
theorem Bb {P:Program} (Γ:Ty P) {o:Oper} {s:SS} {f:FuncId} {fn:Func} {c:Code} {t e:TypeId} {ti:TI} {name:String} {x:Operand} {xs:List Operand} {ts:Array TypeId} {k off:Nat} {l:List SV} {z:SV} (hm:Meth P t name f false e) (hf:Fun P f fn c) (h:o.op=.call ⟨.invoke x name,xs.toArray,ts⟩)
  (hx:ev s x=.ifc t (.ptr k off)) (hk:s.h k=.box l) (ht:Γ.get e=some ti) (hz:Ik ti l off=some z):K1 P o s [k] f (z::xs.map (ev s)) :=
 fun κ a w hr ho=>by
  have h1:=hr x (by simp[h,Op.operands,Call.operands])
  rw[hx]at h1
  simp only[Rd]at h1
  obtain ⟨u,e1,e2⟩:=h1
  have hob:=ho k qy
  rw[hk]at hob
  obtain ⟨b,f1,f2⟩:=hob.cellsAt
  rw[f1]at e2
  simp only at e2
  subst e2
  obtain ⟨v,g1,g2⟩:=Ic (P:=P) Γ ht f2 hz
  rw[Nat.zero_add]at g1
  refine⟨v::xs.map a.eval,?_,?_⟩
  ·have hcall:=Hx hf (v::xs.map a.eval).toArray w
   have hmeth:=Vt hm w ⟨b,off,none⟩ g1
   simp only[execOp,h,resolve,invoke,e1,Sem.run_bind,Sem.run_pure,Result.andThen_ok]at hcall ⊢
   simp only[callMethod]
   rw[← hcall]
   have htk:(xs.map a.eval).take xs.length=xs.map a.eval:=List.take_of_length_le qy
   simp[hmeth,Sem.run_bind,htk]
  ·simp only[RdL]
   exact⟨_,_,E,g2,I6 xs (fun y hy=>hr y (by simp[h,Op.operands,Call.operands,hy]))⟩
theorem Ui {P:Program} (Γ:Ty P) {o:Oper} {s:SS} {x:Operand} {xt t:TypeId} {ti:TI} {y:SV} {ok:Bool} (h:o.op=.typeAssert x xt t ok) (hx:ev s x=.ifc t y) (ht:Γ.get t=some ti) (hk:ti.k matches .bool | .int _ | .string | .slice .. | .struct _ | .ptr | .func) :
  Good P o s ⟨if ok then .tup [y,Ab true] else y,[],[]⟩ :=
 Good.pure fun κ a w _ hr _=>by
  have h1:=hr x (by simp[h,Op.operands])
  rw[hx]at h1
  simp only[Rd]at h1
  obtain ⟨u,e1,e2⟩:=h1
  obtain ⟨d,info,z,k1,k2,_⟩:=Γ.ok t ti ht
  have hni:∀ ms,d≠.interface ms:=by
   obtain ⟨k,n,zz⟩:=ti
   intro ms hd
   subst hd
   cases k<;>simp_all[TK.ok]
  have hrun:(Instr.typeAssert (.iface t u) xt t ok).run P w=.ok (if ok then .tuple #[u,.bool true] else u) w:=by
   cases d<;>first
    | exact absurd rfl (hni _)
    | (cases ok<;>simp[Instr.typeAssert,run_underlying k1])
  refine⟨if ok then .tuple #[u,.bool true] else u,by simp[execOp,h,e1,hrun],?_⟩
  cases ok
  ·exact e2
  ·simp only[if_true,Rd,RdL]
   exact⟨[u,.bool true],E,_,_,E,e2,_,_,E,by simp[Ab,Rd],E⟩
def Aoj (P:Program) (t:TypeId) (name:String) (f:FuncId) (pr:Bool):Bool :=
 match P.info? t with
 | some i=>(match i.methods.find? (·.name == name) with
  | some m=>m.path.isEmpty && (match m.func with | some (g,b)=>Nat.beq g f && (b == pr) | none=>false)
  | none=>false)
 | none=>false
theorem Meth.of {P:Program} {t:TypeId} {name:String} {f:FuncId} {pr:Bool} {e:TypeId} (h:Aoj P t name f pr=true) (hu:P.underlying t=some (.pointer e)):Meth P t name f pr e:=by
 refine⟨?_,hu⟩
 unfold Aoj at h
 split at h
 ·rename_i i hi
  split at h
  ·rename_i m hm
   simp only[Bool.and_eq_true]at h
   obtain ⟨h1,h2⟩:=h
   split at h2
   ·rename_i g b hf
    simp only[Bool.and_eq_true,beq_iff_eq]at h2
    obtain ⟨h3,rfl⟩:=h2
    have h3:=Nat.eq_of_beq_eq_true h3
    subst h3
    exact⟨i,m,hi,hm,by simpa using h1,hf⟩
   ·cases h2
  ·cases h
 ·cases h
end Go.Sy
namespace Go.Sy.YteinjapglfkamaaGreat
open Go.Proofs
attribute [local irreducible] Go.Sy.G Go.Sy.DR
set_option maxRecDepth 20000
set_option maxHeartbeats 4000000
structure Item where
 (root cost dev:Int)
instance:Inhabited Item:=⟨⟨0,0,0⟩⟩
def Be (x:Item):SV:=.agg [Aa x.root,Aa x.cost,Aa x.dev]
def Bp (x y:Item):Bool:=decide (x.root<y.root) || (x.root == y.root && decide (x.cost<y.cost))
theorem Ti (q:List Item):Sy.Spec Tryz.prog 287 [.sl 3 Be q] [] (Aa q.length) []:=cT F287 Tryz.ntmps287 fun F hF=>by
 conv=>whnf
 exact dN
theorem Ig (q:List Item) (i j:Nat) (hi:i<q.length) (hj:j<q.length):Sy.Spec Tryz.prog 421 [.sl 3 Be q,Aa i,Aa j] [] (Ab (Bp q[i] q[j])) []:=cT F421 Tryz.ntmps421 fun F hF=>by
 have e1:q[(i:Int).toNat]'qn=q[i]:=rfl
 have e2:q[(j:Int).toNat]'qn=q[j]:=rfl
 conv=>whnf
 (repeat' (first | (refine⟨fun h=>?_,fun h=>?_⟩<;>(repeat (first | simp only[decide_eq_true_eq]at h | simp only[decide_eq_false_iff_not]at h | simp only[beq_iff_eq]at h | simp only[beq_eq_false_iff_ne]at h))<;>((refine rd qq ?_);(conv=>whnf))) | (refine Am rfl (.cons .tmp .nil) ?_ rfl) | (refine⟨qq,?_⟩;((conv=>whnf))) | (refine⟨by (omega),by (omega),?_⟩;((conv=>whnf)))))
 all_goals (refine congrArg Ab ?_;clear hF;grind [Bp])
theorem If (q:List Item) (i j:Nat) (hi:i<q.length) (hj:j<q.length):Sy.Spec Tryz.prog 424 [.osl 0,Aa i,Aa j] [(0,.row 3 Be q)] (.tup []) [(0,.row 3 Be ((q.set i q[j]).set j q[i]))]:=cT F424 Tryz.ntmps424 fun F hF=>by
 have e1:q[(i:Int).toNat]'qn=q[i]:=rfl
 have e2:q[(j:Int).toNat]'qn=q[j]:=rfl
 conv=>whnf
 refine⟨by omega,by omega,?_⟩
 conv=>whnf
 refine⟨E,by omega,?_⟩
 rw[e2]
 conv=>whnf
 refine⟨by omega,by omega,?_⟩
 conv=>whnf
 refine⟨E,by omega,?_⟩
 rw[e1]
 conv=>whnf
 refine⟨by omega,by omega,?_⟩
 conv=>whnf
 refine⟨E,by omega,q[j],E,E,?_⟩
 conv=>whnf
 refine⟨by omega,by simp;omega,?_⟩
 conv=>whnf
 refine⟨E,by simp;omega,q[i],E,E,?_⟩
 conv=>whnf
 refine kW ?_
 exact A6 E .nil [] [(0,.row 3 Be ((q.set i q[j]).set j q[i]))] (fun _ h=>h) E E ⟨Y,⟨.inl E,E,Y⟩,E,E⟩
theorem Aeo (q:List Item) (x:Item) (hq:q.length<1000000):Sy.Spec Tryz.prog 423 [.ptr 0 0,.ifc 402 (Be x)] [(0,.box [.osl 1]),(1,.row 3 Be q)] (.tup []) [(0,.box [.osl 2]),(1,.non),(2,.row 3 Be (q++[x]))]:=cT F423 Tryz.ntmps423 fun F hF=>by
 conv=>whnf
 refine Ad (Ui Γ.toTy E E E E) E E ?_
 refine oT ?_
 refine Bk (Ah Γ.toTy 18 E E E E E (.row E) (.lit (l:=[x]) E E) qy (by simp;omega) (by simp;omega)) qq E ?_
 refine oD ?_
 refine kW ?_
 exact A6 E .nil [(2,18)] [(0,.box [.osl 2]),(1,.non),(2,.row 3 Be (q++[x]))] (fun _ h=>h) E E ⟨Y,⟨.inl E,E,.inl E,E,.inl E,E,Y⟩,E,E⟩
theorem Ah8 (q:List Item) (hq:q≠[]) (hl:q.length<1000000):Sy.Spec Tryz.prog 422 [.ptr 0 0] [(0,.box [.osl 1]),(1,.row 3 Be q)] (.ifc 402 (Be (q.getLast hq))) [(0,.box [.osl 2]),(1,.non),(2,.row 3 Be q.dropLast)]:=cT F422 Tryz.ntmps422 fun F hF=>by
 have h0:0<q.length:=List.length_pos_iff.2 hq
 have e1:q[((q.length:Int)-1).toNat]'qn=q.getLast hq:=by
  rw[List.getLast_eq_getElem]
  congr 1
  omega
 conv=>whnf
 refine iW ?_
 refine⟨by omega,by omega,?_⟩
 conv=>whnf
 refine⟨E,by omega,?_⟩
 rw[e1]
 conv=>whnf
 refine kW ?_
 refine iW ?_
 refine Bk (Wp Γ.toTy (d:=23) (hi:=q.length-1) E E E E E qx E (.inl ⟨E,E⟩) (.inr ⟨_,_,E,congrArg (fun z=>SV.val (.int .i64 z)) qn⟩) qn) qq E ?_
 rw[← List.dropLast_eq_take]
 refine oD ?_
 refine kW ?_
 exact done E (.cons .tmp .nil) [(2,23)] [(0,.box [.osl 2]),(1,.non),(2,.row 3 Be q.dropLast)] (fun _ h=>h) E E ⟨Y,⟨.inl E,E,.inl E,E,.inl E,E,Y⟩,E,E⟩
end Go.Sy.YteinjapglfkamaaGreat
namespace Go.Sy.YteinjapglfkamaaGreat
open Go.Proofs
attribute [local irreducible] Go.Sy.G Go.Sy.DR
set_option maxRecDepth 100000
set_option maxHeartbeats 4000000
theorem mLen : Meth Tryz.prog 397 "Len" 287 false 399 := .of (by kernel_rfl) Tryz.underlying397
theorem Acc : Meth Tryz.prog 397 "Less" 421 false 399 := .of (by kernel_rfl) Tryz.underlying397
theorem Acb : Meth Tryz.prog 397 "Swap" 424 false 399 := .of (by kernel_rfl) Tryz.underlying397
theorem mPush : Meth Tryz.prog 397 "Push" 423 true 399 := .of (by kernel_rfl) Tryz.underlying397
theorem mPop : Meth Tryz.prog 397 "Pop" 422 true 399 := .of (by kernel_rfl) Tryz.underlying397
def Dd (q:List Item) (i j:Nat):List Item:=(q.set i (q.getD j default)).set j (q.getD i default)
theorem Au (q:List Item) (i j:Nat):(Dd q i j).length=q.length:=by simp[Dd]
def upF:Nat→List Item→Nat→List Item
 | 0,q,_=>q
 | n+1,q,j=>if j=0 then q else if Bp (q.getD j default) (q.getD ((j-1) / 2) default) then upF n (Dd q ((j-1) / 2) j) ((j-1) / 2) else q
theorem Aa5:∀ (n m:Nat) (q:List Item) (j:Nat),j≤n→j≤m→upF n q j=upF m q j
 | 0,m,q,j,h,_=>by
  have:j=0:=by omega
  subst this
  cases m<;>simp[upF]
 | n+1,0,q,j,_,h=>by
  have:j=0:=by omega
  subst this
  simp[upF]
 | n+1,m+1,q,j,h1,h2=>by
  rw[upF,upF]
  split
  ·rfl
  ·split
   ·exact Aa5 n m _ _ qn qn
   ·rfl
theorem Ajx (r:List Item):∀ (i:Nat),i≠0→upF i r i=if Bp (r.getD i default) (r.getD ((i-1) / 2) default) then upF ((i-1) / 2) (Dd r ((i-1) / 2) i) ((i-1) / 2) else r
 | 0,h=>absurd rfl h
 | m+1,_=>by
  rw[upF,if_neg qn]
  split
  ·exact Aa5 _ _ _ _ qn qn
  ·rfl
theorem upS (q:List Item) (j:Nat) (hj:j<q.length) (hl:q.length<1000000) :
  Sy.Spec Tryz.prog 336 [.ifc 397 (.ptr 0 0),Aa j] [(0,.box [.osl 1]),(1,.row 3 Be q)] (.tup []) [(0,.box [.osl 1]),(1,.row 3 Be (upF j q j))]:=cT F336 Tryz.ntmps336 fun F hF=>by
 conv=>whnf
 refine Me (α:={p:List Item × Nat // upF p.2 p.1 p.2=upF j q j∧p.1.length=q.length∧p.2<p.1.length}) (fun p=>[(0,.ifc 397 (.ptr 0 0)),(1,Aa p.1.2)]) (fun p=>[(0,.box [.osl 1]),(1,.row 3 Be p.1.1)]) (fun p=>p.1.2) ⟨(q,j),E,E,hj⟩ []
  ⟨⟨rfl,rfl,rfl,rfl,trivial⟩,⟨.inl rfl,rfl,.inl rfl,rfl,trivial⟩,rfl,rfl⟩ ?_
 rintro ⟨⟨r,i⟩,h1,h2,h3⟩
 simp only at h1 h2 h3
 dsimp only
 have hw:IntKind.i64.wrap (((i:Int)-1).tdiv 2)=(((i-1) / 2:Nat):Int):=by
  rcases Nat.eq_zero_or_pos i with h0 | h0
  ·subst h0;rfl
  ·have:((i:Int)-1)=((i-1:Nat):Int):=by omega
   rw[this,Int.tdiv_eq_ediv_of_nonneg qn,IntKind.wrap_i64]
   omega
 refine oO ?_
 refine iW ?_
 refine⟨by decide,?_⟩
 rw[hw]
 conv=>whnf
 refine⟨fun h=>?_,fun h=>?_⟩
 ·have h0:i=0:=by
   have:(((i-1) / 2:Nat):Int)=i:=by simpa using h
   omega
  subst h0
  have e:upF j q j=r:=by rw[← h1];rfl
  rw[e]
  refine oT ?_
  exact A6 E .nil [] [(0,.box [.osl 1]),(1,.row 3 Be r)] (fun _ h=>h) E E ⟨Y,⟨.inl E,E,.inl E,E,Y⟩,E,E⟩
 have h0:i≠0:=by
  intro h0
  subst h0
  exact absurd h qx
 have hp:(i-1) / 2<r.length:=by omega
 have hless:=Ig r i ((i-1) / 2) h3 hp
 refine oO ?_
 refine Ad (Dg [1] (Bb Γ.toTy Acc F421 E E E E E) hless (.cons (.row E E) (.cons (.refl _) (.cons (.refl _) .nil))) E E) E E ?_
 refine oO ?_
 have hu:upF i r i=if Bp r[i] r[(i-1) / 2] then upF ((i-1) / 2) (Dd r ((i-1) / 2) i) ((i-1) / 2) else r:=by
  rw[Ajx r i h0,A3 h3,A3 hp]
 refine⟨fun h=>?_,fun h=>?_⟩
 ·have hlt:Bp r[i] r[(i-1) / 2]=false:=by simpa using h
  have e:upF j q j=r:=by rw[← h1,hu,hlt];rfl
  rw[e]
  refine oO ?_
  exact A6 E .nil [] [(0,.box [.osl 1]),(1,.row 3 Be r)] (fun _ h=>h) E E ⟨Y,⟨.inl E,E,.inl E,E,Y⟩,E,E⟩
 have hlt:Bp r[i] r[(i-1) / 2]=true:=by simpa using h
 rw[hlt,if_pos rfl]at hu
 have hsw:=If r ((i-1) / 2) i hp h3
 have e:(r.set ((i-1) / 2) r[i]).set i r[(i-1) / 2]=Dd r ((i-1) / 2) i:=by
  rw[Dd,A3 h3,A3 hp]
 rw[e]at hsw
 refine oO ?_
 refine Ad (B7 [(0,1)] (Bb Γ.toTy Acb F424 E E E E E) hsw E ⟨E,Y⟩ E ⟨.inl E,Y⟩) E E ?_
 refine oO ?_
 exact On (α:={p:List Item × Nat // upF p.2 p.1 p.2=upF j q j∧p.1.length=q.length∧p.2<p.1.length}) (L:=fun p=>[(0,.ifc 397 (.ptr 0 0)),(1,Aa p.1.2)]) (O:=fun p=>[(0,.box [.osl 1]),(1,.row 3 Be p.1.1)]) (μ:=fun p=>p.1.2) (x:=⟨(r,i),h1,h2,h3⟩)
  ⟨(Dd r ((i-1) / 2) i,(i-1) / 2),by rw[← h1,hu],by rw[Au];exact h2,by rw[Au];exact hp⟩ [] (by simp only;omega)
  ⟨⟨rfl,rfl,rfl,rfl,trivial⟩,⟨.inl rfl,rfl,.inl rfl,rfl,trivial⟩,rfl,rfl⟩
theorem Vi:∀ (n:Nat) (q:List Item) (j:Nat),(upF n q j).length=q.length
 | 0,q,j=>rfl
 | n+1,q,j=>by
  rw[upF]
  split
  ·rfl
  ·split
   ·rw[Vi n,Au]
   ·rfl
def Oa (q:List Item) (x:Item):List Item:=upF q.length (q++[x]) q.length
theorem Yw (q:List Item) (x:Item) (hl:q.length<999999) :
  Sy.Spec Tryz.prog 286 [.ifc 397 (.ptr 0 0),.ifc 402 (Be x)] [(0,.box [.osl 1]),(1,.row 3 Be q)] (.tup []) [(0,.box [.osl 2]),(1,.non),(2,.row 3 Be (Oa q x))]:=cT F286 Tryz.ntmps286 fun F hF=>by
 have hpush:=Aeo q x qn
 have hlen:=Ti (q++[x])
 have hup:=upS (q++[x]) q.length qy (by simp;omega)
 have hln:(((q++[x]).length:Nat):Int)-1=(q.length:Int):=by simp
 conv=>whnf
 refine Ad (B7 (rd:=[]) [(2,6)] (Ol mPush F423 E E) hpush E ⟨E,E,Y⟩ E ⟨.inl E,.inl E,.inr E,Y⟩) E E ?_
 refine oO ?_
 refine Ad (Dg [6] (Bb Γ.toTy mLen F287 E E E E E) hlen (.cons (.row E E) .nil) E E) E E ?_
 refine oO ?_
 refine⟨by unfold I64;simp;omega,?_⟩
 rw[hln]
 conv=>whnf
 refine Ad (Af [(1,6)] E F336 hup E ⟨E,E,Y⟩ E ⟨.inl E,.inl E,Y⟩) E E ?_
 refine oO ?_
 exact A6 E .nil [(2,6)] [(0,.box [.osl 2]),(1,.non),(2,.row 3 Be (Oa q x))] (fun _ h=>h) E E ⟨Y,⟨.inl E,E,.inl E,E,.inl E,E,Y⟩,E,E⟩
def C9 (q:List Item) (i n:Nat):Nat:=if 2 * i+2<n∧Bp (q.getD (2 * i+2) default) (q.getD (2 * i+1) default)=true then 2 * i+2 else 2 * i+1
theorem J8 (q:List Item) (i n:Nat) (h:2 * i+1<n):C9 q i n<n∧i<C9 q i n:=by
 unfold C9
 split<;>omega
def Da:Nat→List Item→Nat→Nat→List Item × Nat
 | 0,q,i,_=>(q,i)
 | f+1,q,i,n=>if 2 * i+1<n then (if Bp (q.getD (C9 q i n) default) (q.getD i default) then Da f (Dd q i (C9 q i n)) (C9 q i n) n else (q,i)) else (q,i)
theorem O7:∀ (f g:Nat) (q:List Item) (i n:Nat),n≤f+i→n≤g+i→Da f q i n=Da g q i n
 | 0,g,q,i,n,h1,h2=>by
  cases g with
  | zero=>rfl
  | succ g=>rw[Da,Da,if_neg qn]
 | f+1,0,q,i,n,h1,h2=>by rw[Da,Da,if_neg qn]
 | f+1,g+1,q,i,n,h1,h2=>by
  rw[Da,Da]
  split
  ·rename_i h
   have:=J8 q i n h
   split
   ·exact O7 f g _ _ n qn qn
   ·rfl
  ·rfl
theorem Afs (r:List Item) (i n:Nat):Da (n-i) r i n=if 2 * i+1<n then (if Bp (r.getD (C9 r i n) default) (r.getD i default) then Da (n-C9 r i n) (Dd r i (C9 r i n)) (C9 r i n) n else (r,i)) else (r,i):=by
 rw[O7 (n-i) (n-i+1) r i n qn qn,Da]
 split
 ·rename_i h
  have:=J8 r i n h
  split
  ·exact O7 _ _ _ _ _ qn qn
  ·rfl
 ·rfl
theorem Sq:∀ (f:Nat) (q:List Item) (i n:Nat),(Da f q i n).1.length=q.length
 | 0,_,_,_=>rfl
 | f+1,q,i,n=>by
  rw[Da]
  split
  ·split
   ·rw[Sq f,Au]
   ·rfl
  ·rfl
theorem downS (q:List Item) (i0 n:Nat) (hn:n≤q.length) (hi:i0<q.length) (hl:q.length<1000000) :
  Sy.Spec Tryz.prog 337 [.ifc 397 (.ptr 0 0),Aa i0,Aa n] [(0,.box [.osl 1]),(1,.row 3 Be q)] (Ab (decide (((Da (n-i0) q i0 n).2:Int)>i0))) [(0,.box [.osl 1]),(1,.row 3 Be (Da (n-i0) q i0 n).1)]:=cT F337 Tryz.ntmps337 fun F hF=>by
 generalize hD:Da (n-i0) q i0 n=D
 conv=>whnf
 refine Me (α:={p:List Item × Nat // Da (n-p.2) p.1 p.2 n=D∧p.1.length=q.length∧p.2<p.1.length}) (fun p=>[(0,.ifc 397 (.ptr 0 0)),(1,Aa i0),(2,Aa n),(7,Aa p.1.2)]) (fun p=>[(0,.box [.osl 1]),(1,.row 3 Be p.1.1)]) (fun p=>n-p.1.2) ⟨(q,i0),hD,E,hi⟩ []
  ⟨⟨rfl,rfl,rfl,rfl,rfl,rfl,rfl,rfl,trivial⟩,⟨.inl rfl,rfl,.inl rfl,rfl,trivial⟩,rfl,rfl⟩ ?_
 rintro ⟨⟨r,i⟩,h1,h2,h3⟩
 simp only at h1 h2 h3
 dsimp only
 have h10:=h1
 rw[Afs]at h1
 have hj1:(2:Int) * i+1=((2 * i+1:Nat):Int):=by omega
 have hj2:((2 * i+1:Nat):Int)+1=((2 * i+2:Nat):Int):=by omega
 refine oO ?_
 refine iW ?_
 refine iL ?_
 rw[hj1]
 conv=>whnf
 refine⟨fun h=>?_,fun h=>?_⟩
 ·have hge:¬ 2 * i+1<n:=qA h
  rw[if_neg hge]at h1
  rw[← h1]
  refine oT ?_
  exact done E (.cons .tmp .nil) [] [(0,.box [.osl 1]),(1,.row 3 Be r)] (fun _ h=>h) E E ⟨Y,⟨.inl E,E,.inl E,E,Y⟩,E,E⟩
 have hlt:2 * i+1<n:=qB h
 rw[if_pos hlt]at h1
 refine oF ?_
 refine iL ?_
 rw[hj2]
 conv=>whnf
 refine⟨fun h=>?_,fun h=>?_⟩
 ·have h2n:2 * i+2<n:=qA h
  have hA:2 * i+2<r.length:=by omega
  have hB:2 * i+1<r.length:=by omega
  have hlc:=Ig r (2 * i+2) (2 * i+1) hA hB
  refine oO ?_
  refine Ad (Dg [1] (Bb Γ.toTy Acc F421 E E E E E) hlc (.cons (.row E E) (.cons (.refl _) (.cons (.refl _) .nil))) E E) E E ?_
  refine oO ?_
  refine⟨fun h=>?_,fun h=>?_⟩
  ·have hc:C9 r i n=2 * i+2:=by rw[C9,if_pos ⟨h2n,by rw[A3 hA,A3 hB];exact h⟩]
   have hJ:=hA
   refine oO ?_
   rw[hc,A3 hJ,A3 h3]at h1
   have hls:=Ig r (2 * i+2) i hJ h3
   refine Ad (Dg [1] (Bb Γ.toTy Acc F421 E E E E E) hls (.cons (.row E E) (.cons (.refl _) (.cons (.refl _) .nil))) E E) E E ?_
   refine oO ?_
   refine⟨fun h=>?_,fun h=>?_⟩
   ·have hf:Bp r[2 * i+2] r[i]=false:=by simpa using h
    rw[hf]at h1
    have e:D=(r,i):=h1.symm
    rw[e]
    refine oO ?_
    exact done E (.cons .tmp .nil) [] [(0,.box [.osl 1]),(1,.row 3 Be r)] (fun _ h=>h) E E ⟨Y,⟨.inl E,E,.inl E,E,Y⟩,E,E⟩
   have hf:Bp r[2 * i+2] r[i]=true:=by simpa using h
   rw[hf,if_pos rfl]at h1
   have hsw:=If r i (2 * i+2) h3 hJ
   have e:(r.set i r[2 * i+2]).set (2 * i+2) r[i]=Dd r i (2 * i+2):=by
    rw[Dd,A3 h3,A3 hJ]
   rw[e]at hsw
   refine oO ?_
   refine Ad (B7 [(0,1)] (Bb Γ.toTy Acb F424 E E E E E) hsw E ⟨E,Y⟩ E ⟨.inl E,Y⟩) E E ?_
   refine oO ?_
   exact On (α:={p:List Item × Nat // Da (n-p.2) p.1 p.2 n=D∧p.1.length=q.length∧p.2<p.1.length}) (L:=fun p=>[(0,.ifc 397 (.ptr 0 0)),(1,Aa i0),(2,Aa n),(7,Aa p.1.2)]) (O:=fun p=>[(0,.box [.osl 1]),(1,.row 3 Be p.1.1)]) (μ:=fun p=>n-p.1.2) (x:=⟨(r,i),h10,h2,h3⟩)
    ⟨(Dd r i (2 * i+2),2 * i+2),h1,by rw[Au];exact h2,by rw[Au];exact hJ⟩ [] (by simp only;omega)
    ⟨⟨rfl,rfl,rfl,rfl,rfl,rfl,rfl,rfl,trivial⟩,⟨.inl rfl,rfl,.inl rfl,rfl,trivial⟩,rfl,rfl⟩
  ·have hc:C9 r i n=2 * i+1:=by rw[C9,if_neg (fun hh=>by rw[A3 hA,A3 hB,h]at hh;exact absurd hh.2 qy)]
   have hJ:=hB
   refine oO ?_
   rw[hc,A3 hJ,A3 h3]at h1
   have hls:=Ig r (2 * i+1) i hJ h3
   refine Ad (Dg [1] (Bb Γ.toTy Acc F421 E E E E E) hls (.cons (.row E E) (.cons (.refl _) (.cons (.refl _) .nil))) E E) E E ?_
   refine oO ?_
   refine⟨fun h=>?_,fun h=>?_⟩
   ·have hf:Bp r[2 * i+1] r[i]=false:=by simpa using h
    rw[hf]at h1
    have e:D=(r,i):=h1.symm
    rw[e]
    refine oO ?_
    exact done E (.cons .tmp .nil) [] [(0,.box [.osl 1]),(1,.row 3 Be r)] (fun _ h=>h) E E ⟨Y,⟨.inl E,E,.inl E,E,Y⟩,E,E⟩
   have hf:Bp r[2 * i+1] r[i]=true:=by simpa using h
   rw[hf,if_pos rfl]at h1
   have hsw:=If r i (2 * i+1) h3 hJ
   have e:(r.set i r[2 * i+1]).set (2 * i+1) r[i]=Dd r i (2 * i+1):=by
    rw[Dd,A3 h3,A3 hJ]
   rw[e]at hsw
   refine oO ?_
   refine Ad (B7 [(0,1)] (Bb Γ.toTy Acb F424 E E E E E) hsw E ⟨E,Y⟩ E ⟨.inl E,Y⟩) E E ?_
   refine oO ?_
   exact On (α:={p:List Item × Nat // Da (n-p.2) p.1 p.2 n=D∧p.1.length=q.length∧p.2<p.1.length}) (L:=fun p=>[(0,.ifc 397 (.ptr 0 0)),(1,Aa i0),(2,Aa n),(7,Aa p.1.2)]) (O:=fun p=>[(0,.box [.osl 1]),(1,.row 3 Be p.1.1)]) (μ:=fun p=>n-p.1.2) (x:=⟨(r,i),h10,h2,h3⟩)
    ⟨(Dd r i (2 * i+1),2 * i+1),h1,by rw[Au];exact h2,by rw[Au];exact hJ⟩ [] (by simp only;omega)
    ⟨⟨rfl,rfl,rfl,rfl,rfl,rfl,rfl,rfl,trivial⟩,⟨.inl rfl,rfl,.inl rfl,rfl,trivial⟩,rfl,rfl⟩
 ·have h2n:¬ 2 * i+2<n:=qB h
  have hJ:2 * i+1<r.length:=by omega
  have hc:C9 r i n=2 * i+1:=by rw[C9,if_neg (fun hh=>h2n hh.1)]
  refine oF ?_
  rw[hc,A3 hJ,A3 h3]at h1
  have hls:=Ig r (2 * i+1) i hJ h3
  refine Ad (Dg [1] (Bb Γ.toTy Acc F421 E E E E E) hls (.cons (.row E E) (.cons (.refl _) (.cons (.refl _) .nil))) E E) E E ?_
  refine oO ?_
  refine⟨fun h=>?_,fun h=>?_⟩
  ·have hf:Bp r[2 * i+1] r[i]=false:=by simpa using h
   rw[hf]at h1
   have e:D=(r,i):=h1.symm
   rw[e]
   refine oO ?_
   exact done E (.cons .tmp .nil) [] [(0,.box [.osl 1]),(1,.row 3 Be r)] (fun _ h=>h) E E ⟨Y,⟨.inl E,E,.inl E,E,Y⟩,E,E⟩
  have hf:Bp r[2 * i+1] r[i]=true:=by simpa using h
  rw[hf,if_pos rfl]at h1
  have hsw:=If r i (2 * i+1) h3 hJ
  have e:(r.set i r[2 * i+1]).set (2 * i+1) r[i]=Dd r i (2 * i+1):=by
   rw[Dd,A3 h3,A3 hJ]
  rw[e]at hsw
  refine oO ?_
  refine Ad (B7 [(0,1)] (Bb Γ.toTy Acb F424 E E E E E) hsw E ⟨E,Y⟩ E ⟨.inl E,Y⟩) E E ?_
  refine oO ?_
  exact On (α:={p:List Item × Nat // Da (n-p.2) p.1 p.2 n=D∧p.1.length=q.length∧p.2<p.1.length}) (L:=fun p=>[(0,.ifc 397 (.ptr 0 0)),(1,Aa i0),(2,Aa n),(7,Aa p.1.2)]) (O:=fun p=>[(0,.box [.osl 1]),(1,.row 3 Be p.1.1)]) (μ:=fun p=>n-p.1.2) (x:=⟨(r,i),h10,h2,h3⟩)
   ⟨(Dd r i (2 * i+1),2 * i+1),h1,by rw[Au];exact h2,by rw[Au];exact hJ⟩ [] (by simp only;omega)
   ⟨⟨rfl,rfl,rfl,rfl,rfl,rfl,rfl,rfl,trivial⟩,⟨.inl rfl,rfl,.inl rfl,rfl,trivial⟩,rfl,rfl⟩
def Ck (q:List Item):List Item:=(Da (q.length-1-0) (Dd q 0 (q.length-1)) 0 (q.length-1)).1
theorem Df (q:List Item):(Ck q).length=q.length:=by rw[Ck,Sq,Au]
theorem Dc {q:List Item} (h:q≠[]):Ck q≠[]:=fun e=>h (List.eq_nil_of_length_eq_zero (by rw[← Df,e];rfl))
theorem Alp (q:List Item) (hq:q≠[]) (hl:q.length<1000000) :
  Sy.Spec Tryz.prog 288 [.ifc 397 (.ptr 0 0)] [(0,.box [.osl 1]),(1,.row 3 Be q)] (.ifc 402 (Be ((Ck q).getLast (Dc hq)))) [(0,.box [.osl 2]),(1,.non),(2,.row 3 Be (Ck q).dropLast)]:=cT F288 Tryz.ntmps288 fun F hF=>by
 have h0:0<q.length:=List.length_pos_iff.2 hq
 have hlen:=Ti q
 have hsw:=If q 0 (q.length-1) h0 qn
 have e:(q.set 0 q[q.length-1]).set (q.length-1) q[0]=Dd q 0 (q.length-1):=by
  rw[Dd,A3 (show q.length-1<q.length by omega),A3 h0]
 rw[e]at hsw
 have hdn:=downS (Dd q 0 (q.length-1)) 0 (q.length-1) (by rw[Au];omega) (by rw[Au];exact h0) (by rw[Au];exact hl)
 have hpop:=Ah8 (Ck q) (Dc hq) (by rw[Df];exact hl)
 have hln:(q.length:Int)-1=((q.length-1:Nat):Int):=by omega
 conv=>whnf
 refine Ad (Dg [1] (Bb Γ.toTy mLen F287 E E E E E) hlen (.cons (.row E E) .nil) E E) E E ?_
 refine oO ?_
 refine iL ?_
 rw[hln]
 conv=>whnf
 refine Ad (B7 [(0,1)] (Bb Γ.toTy Acb F424 E E E E E) hsw E ⟨E,Y⟩ E ⟨.inl E,Y⟩) E E ?_
 refine oO ?_
 refine Ad (Af [] E F337 hdn E ⟨E,E,Y⟩ E ⟨.inl E,.inl E,Y⟩) E E ?_
 refine oO ?_
 refine Ad (B7 (rd:=[]) [(2,14)] (Ol mPop F422 E E) hpop E ⟨E,E,Y⟩ E ⟨.inl E,.inl E,.inr E,Y⟩) E E ?_
 refine oO ?_
 exact done E (.cons .tmp .nil) [(2,14)] [(0,.box [.osl 2]),(1,.non),(2,.row 3 Be (Ck q).dropLast)] (fun _ h=>h) E E ⟨Y,⟨.inl E,E,.inl E,E,.inl E,E,Y⟩,E,E⟩
end Go.Sy.YteinjapglfkamaaGreat
namespace Go.Sy.YteinjapglfkamaaGreat
open Go.Proofs
attribute [local irreducible] Go.Sy.G Go.Sy.DR
set_option maxRecDepth 20000
set_option maxHeartbeats 4000000
theorem great1 {n:Net} (h:n.ports.any (fun p=>decide (100<p.tagged.length))=true):Ha n=true:=by simp only[Ha,h,Bool.or_true,Bool.true_or]
theorem great2 {n:Net} (h:n.domains.any (fun p=>decide (100<p.peers.length))=true):Ha n=true:=by simp only[Ha,h,Bool.or_true,Bool.true_or]
theorem great3 {n:Net} (h:n.floods.any (fun p=>decide (100<p.addrs.length))=true):Ha n=true:=by simp only[Ha,h,Bool.or_true,Bool.true_or]
theorem great4 {n:Net} (h:n.vrfs.any (fun v=>decide (100<v.imports.length) || decide (100<v.exports.length))=true):Ha n=true:=by simp only[Ha,h,Bool.or_true]
theorem greatS (n:Net):Sy.Spec Tryz.prog 7 [Al n] [] (Ab (Ha n)) []:=cT F7 Tryz.ntmps7 fun F hF=>by
 conv=>whnf
 (repeat' (first | (refine⟨fun h=>?_,fun h=>?_⟩<;>(repeat (first | simp only[decide_eq_true_eq]at h | simp only[decide_eq_false_iff_not]at h))<;>((refine oO ?_);repeat((refine aT ?_);(refine oO ?_)))) | (refine Am rfl (.cons .tmp .nil) ?_ rfl)))
 all_goals first
  | (refine congrArg Ab ?_;clear hF;grind [Ha])
  | skip
 have l1:n.ports.length≤200:=by omega
 have l2:n.domains.length≤200:=by omega
 have l3:n.floods.length≤200:=by omega
 have l4:n.vrfs.length≤200:=by omega
 refine Ba 1 8 (Al n) E E E ?_
 refine Ay n.ports.length (fun j=>C4 (fun _ p=>!(decide (100<p.tagged.length))) n.ports j) (fun j=>[(1,.ref 8 (Al n) 0),(3,Aa j)]) (fun _=>[]) [] (At _ _) ⟨⟨E,E,E,E,Y⟩,Y,E,E⟩ ?_
 intro j hj hI
 refine oO ?_
 refine⟨fun h=>?_,fun h=>?_⟩
 ·have hjl:j<n.ports.length:=by simpa using h
  refine oO ?_
  (repeat' (first | (refine⟨fun h=>?_,fun h=>?_⟩<;>(repeat (first | simp only[decide_eq_true_eq]at h | simp only[decide_eq_false_iff_not]at h))<;>((refine oO ?_))) | (refine Am rfl (.cons .tmp .nil) ?_ rfl) | (refine⟨qq,?_⟩;((conv=>whnf))) | (refine⟨by (omega),by (omega),?_⟩;((conv=>whnf))) | (refine⟨by (unfold I64;omega),?_⟩;((conv=>whnf))) | refine Aw [] hI hjl ?_ ⟨⟨rfl,rfl,rfl,rfl,trivial⟩,trivial,rfl,rfl⟩))
  all_goals (simp only[Int.toNat_natCast]at *)
  ·refine congrArg Ab ?_
   exact great1 (Md hjl (by simp;omega))
  ·exact Ap hI hjl (by simp;omega)
 have a1:n.ports.any (fun p=>decide (100<p.tagged.length))=false:=Kc hI (by simpa using h)
 clear hI hj h
 refine oO ?_
 refine Ay n.domains.length (fun j=>C4 (fun _ p=>!(decide (100<p.peers.length))) n.domains j) (fun j=>[(1,.ref 8 (Al n) 0),(4,Aa j)]) (fun _=>[]) [] (At _ _) ⟨⟨E,E,E,E,Y⟩,Y,E,E⟩ ?_
 intro j hj hI
 refine oO ?_
 refine⟨fun h=>?_,fun h=>?_⟩
 ·have hjl:j<n.domains.length:=by simpa using h
  refine oO ?_
  (repeat' (first | (refine⟨fun h=>?_,fun h=>?_⟩<;>(repeat (first | simp only[decide_eq_true_eq]at h | simp only[decide_eq_false_iff_not]at h))<;>((refine oO ?_))) | (refine Am rfl (.cons .tmp .nil) ?_ rfl) | (refine⟨qq,?_⟩;((conv=>whnf))) | (refine⟨by (omega),by (omega),?_⟩;((conv=>whnf))) | (refine⟨by (unfold I64;omega),?_⟩;((conv=>whnf))) | refine Aw [] hI hjl ?_ ⟨⟨rfl,rfl,rfl,rfl,trivial⟩,trivial,rfl,rfl⟩))
  all_goals (simp only[Int.toNat_natCast]at *)
  ·refine congrArg Ab ?_
   exact great2 (Md hjl (by simp;omega))
  ·exact Ap hI hjl (by simp;omega)
 have a2:n.domains.any (fun p=>decide (100<p.peers.length))=false:=Kc hI (by simpa using h)
 clear hI hj h
 refine oO ?_
 refine Ay n.floods.length (fun j=>C4 (fun _ p=>!(decide (100<p.addrs.length))) n.floods j) (fun j=>[(1,.ref 8 (Al n) 0),(5,Aa j)]) (fun _=>[]) [] (At _ _) ⟨⟨E,E,E,E,Y⟩,Y,E,E⟩ ?_
 intro j hj hI
 refine oO ?_
 refine⟨fun h=>?_,fun h=>?_⟩
 ·have hjl:j<n.floods.length:=by simpa using h
  refine oO ?_
  (repeat' (first | (refine⟨fun h=>?_,fun h=>?_⟩<;>(repeat (first | simp only[decide_eq_true_eq]at h | simp only[decide_eq_false_iff_not]at h))<;>((refine oO ?_))) | (refine Am rfl (.cons .tmp .nil) ?_ rfl) | (refine⟨qq,?_⟩;((conv=>whnf))) | (refine⟨by (omega),by (omega),?_⟩;((conv=>whnf))) | (refine⟨by (unfold I64;omega),?_⟩;((conv=>whnf))) | refine Aw [] hI hjl ?_ ⟨⟨rfl,rfl,rfl,rfl,trivial⟩,trivial,rfl,rfl⟩))
  all_goals (simp only[Int.toNat_natCast]at *)
  ·refine congrArg Ab ?_
   exact great3 (Md hjl (by simp;omega))
  ·exact Ap hI hjl (by simp;omega)
 have a3:n.floods.any (fun p=>decide (100<p.addrs.length))=false:=Kc hI (by simpa using h)
 clear hI hj h
 refine oO ?_
 refine Ay n.vrfs.length (fun j=>C4 (fun _ v=>!(decide (100<v.imports.length) || decide (100<v.exports.length))) n.vrfs j) (fun j=>[(1,.ref 8 (Al n) 0),(6,Aa j)]) (fun _=>[]) [] (At _ _) ⟨⟨E,E,E,E,Y⟩,Y,E,E⟩ ?_
 intro j hj hI
 refine oO ?_
 refine⟨fun h=>?_,fun h=>?_⟩
 ·have hjl:j<n.vrfs.length:=by simpa using h
  refine oO ?_
  (repeat' (first | (refine⟨fun h=>?_,fun h=>?_⟩<;>(repeat (first | simp only[decide_eq_true_eq]at h | simp only[decide_eq_false_iff_not]at h))<;>((refine oO ?_);repeat((refine aT ?_);(refine oO ?_)))) | (refine Am rfl (.cons .tmp .nil) ?_ rfl) | (refine⟨qq,?_⟩;((conv=>whnf))) | (refine⟨by (omega),by (omega),?_⟩;((conv=>whnf))) | (refine⟨by (unfold I64;omega),?_⟩;((conv=>whnf))) | refine Aw [] hI hjl ?_ ⟨⟨rfl,rfl,rfl,rfl,trivial⟩,trivial,rfl,rfl⟩))
  all_goals (simp only[Int.toNat_natCast]at *)
  all_goals first
   | exact Ap hI hjl (by simp;omega)
   | (refine congrArg Ab ?_;exact great4 (Md hjl (by simp;omega)))
 have a4:n.vrfs.any (fun v=>decide (100<v.imports.length) || decide (100<v.exports.length))=false:=Kc hI (by simpa using h)
 clear hI hj h
 refine oO ?_
 refine Am E (.cons .tmp .nil) (congrArg Ab ?_) E
 rw[Ha,a1,a2,a3,a4]
 simp
 omega
def C5:Vec→List Vec→Vec
 | v,[]=>v
 | v,x::l=>C5 (if Yn x v then x else v) l
def zeroV:Vec:=⟨0,0,0,0,0⟩
def Kp:List Vec→Vec × Bool
 | []=>(zeroV,false)
 | v::l=>(C5 v (v::l),true)
theorem Wd:∀ (v:Vec) (l:List Vec),C5 v l=v∨C5 v l∈l
 | v,[]=>.inl rfl
 | v,x::l=>by
  rw[C5]
  rcases Wd (if Yn x v then x else v) l with h | h
  ·rw[h]
   split
   ·exact .inr qy
   ·exact .inl E
  ·exact .inr (by simp[h])
theorem Ack (v:Vec) (l:List Vec) (j:Nat) (h:j<l.length):C5 v (l.take (j+1))=(if Yn l[j] (C5 v (l.take j)) then l[j] else C5 v (l.take j)):=by
 have key:∀ (a b:List Vec) (v:Vec),C5 v (a++b)=C5 (C5 v a) b:=by
  intro a
  induction a with
  | nil=>intro b v;rfl
  | cons x a ih=>intro b v;rw[List.cons_append,C5,C5,ih]
 rw[List.take_succ_eq_append_getElem h,key]
 rfl
theorem leastS (l:List Vec) (hl:Aj l):Sy.Spec Tryz.prog 289 [.sl 5 Le l] [] (.tup [Le (Kp l).1,Ab (Kp l).2]) []:=cT F289 Tryz.ntmps289 fun F hF=>by
 unfold Aj at hl
 have hR:∀ h:0<l.length,Kp l=(C5 l[0] l,true):=fun h=>by
  cases l with
  | nil=>simp at h
  | cons v t=>rfl
 conv=>whnf
 refine⟨fun h=>?_,fun h=>?_⟩
 ·have:l=[]:=List.eq_nil_of_length_eq_zero (by have:(l.length:Int)=0:=(by simpa using h);omega)
  subst this
  refine oO ?_
  exact done E (.cons (.cell E E E E) (.cons .tmp .nil)) [] [] (fun _ h=>h) E E ⟨Y,Y,E,E⟩
 have h0:0<l.length:=by
  have:¬ (l.length:Int)=0:=by simpa using h
  omega
 rw[hR h0]
 refine oO ?_
 refine⟨E,by decide,h0,?_⟩
 conv=>whnf
 have e0:l[(0:Int).toNat]'(h0)=l[0]:=rfl
 generalize hv:l[0]=v at *
 refine Az l.length (fun j=>[(0,.sl 5 Le l),(2,.ptr 2 0),(4,.ptr 4 0),(14,.sl 5 Le l),(15,Aa l.length),(16,Aa j)]) (fun j=>[(2,.box [Aa 0,Aa 0,Aa 0,Aa 0,Aa 0]),(4,.box [Aa (C5 v (l.take j)).root,Aa (C5 v (l.take j)).cost,Aa (C5 v (l.take j)).bridge,Aa (C5 v (l.take j)).port,Aa (C5 v (l.take j)).own])]) []
  ⟨⟨rfl,rfl,rfl,rfl,rfl,rfl,rfl,rfl,rfl,rfl,rfl,rfl,trivial⟩,⟨.inl rfl,rfl,.inl (by subst hv;rfl),rfl,trivial⟩,rfl,rfl⟩ ?_
 intro j hj
 refine oO ?_
 refine⟨fun h=>?_,fun h=>?_⟩
 ·have hlt:j<l.length:=by simpa using h
  have hdrop:=Ack v l j hlt
  generalize hx:l[j]=x at hdrop
  have hx':l[(j:Int).toNat]'qn=x:=hx
  generalize hmn:C5 v (l.take j)=m at hdrop
  refine oO ?_
  refine⟨E,by omega,by omega,?_⟩
  rw[hx']
  conv=>whnf
  refine c0 (lessS x m) F338 ?_
  refine oO ?_
  refine⟨fun h2=>?_,fun h2=>?_⟩
  ·rw[h2,if_pos rfl]at hdrop
   refine oO ?_
   refine iW ?_
   exact Ar [] hlt ⟨⟨E,E,E,E,E,E,E,E,E,E,E,E,Y⟩,⟨.inl E,E,.inl (by rw[hdrop];rfl),E,Y⟩,E,E⟩
  ·rw[h2]at hdrop
   refine oO ?_
   refine iW ?_
   exact Ar [] hlt ⟨⟨E,E,E,E,E,E,E,E,E,E,E,E,Y⟩,⟨.inl E,E,.inl (by rw[hdrop];rfl),E,Y⟩,E,E⟩
 ·have hjl:¬ j<l.length:=by simpa using h
  rw[List.take_of_length_le qn]
  refine oO ?_
  exact done E (.cons (.cell E E E E) (.cons .tmp .nil)) [] [] (fun _ h=>h) E E ⟨Y,Y,E,E⟩
theorem leastR_mem {l:List Vec} (h:(Kp l).2=true):(Kp l).1∈l:=by
 cases l with
 | nil=>cases h
 | cons v t =>
  rcases Wd v (v::t) with h | h
  ·show C5 v (v::t)∈v::t
   rw[h];simp
  ·exact h
theorem T8 (n:Net):∀ x∈De n,0≤x∧x<n.devices.length:=fun x hx=>by
 rw[Abv,Jt]at hx
 obtain ⟨i,hi,rfl⟩:=List.mem_map.1 hx
 have hi:=List.mem_range.1 hi
 have h1:=List.countP_le_length (p:=fun k=>Cd n (k:Nat) i) (l:=List.range n.devices.length)
 rw[List.length_range]at h1
 have h2:(List.range n.devices.length).countP (fun k=>Cd n (k:Nat) i)≠n.devices.length:=fun e=>by
  have:=List.countP_eq_length.1 (e.trans List.length_range.symm) i (List.mem_range.2 hi)
  rw[K0]at this
  cases this
 omega
theorem Jb (n:Net):(De n).length=n.devices.length:=by rw[Abv,Jt];simp
end Go.Sy.YteinjapglfkamaaGreat
namespace Go.Sy.YteinjapglfkamaaGreat
open Go.Proofs
attribute [local irreducible] Go.Sy.G Go.Sy.DR
set_option maxRecDepth 100000
set_option maxHeartbeats 4000000
def M6 (n:Net) (up:List Bool) (ranks:List Int) (x y:SV):List SV:=[.sl 5 Bf n.devices,.sl 7 A2 n.ports,.sl 3 Cb n.links,.sl 6 Ao n.domains,.sl 4 Bd n.statics,.sl 4 Bs n.floods,.sl 5 Cn n.vrfs,.sl 5 Ca n.irbs,.sl 1 Ab up,.sl 1 Aa ranks,x,y]
def Cw (n:Net) (up:List Bool) (i:Nat):Int :=
 let p:=n.ports.getD i default
 if p.link<0 || !(up.getD p.link.toNat false) then -1 else (nth n.links p.link).a+(nth n.links p.link).b-i
theorem farS (n:Net) (up:List Bool) (ranks:List Int) (x y:SV) (_hx:(x.boxed && x.data && y.boxed && y.data && Nat.beq (cellsOf x).length 1 && Nat.beq (cellsOf y).length 1)=true) (i:Nat) (hr:Ac n=true) (hu:up.length=n.links.length) (hi:i<n.ports.length) :
  Sy.Spec Tryz.prog 222 [.ref 12 (.agg (M6 n up ranks x y)) 0,Aa i] [] (Aa (Cw n up i)) []:=cT F222 Tryz.ntmps222 fun F hF=>by
 have hpl:=Mj hr hi
 have hf:=Dq hr
 have e1:n.ports[(i:Int).toNat]'qn=n.ports[i]:=rfl
 have hfar:Cw n up i=if n.ports[i].link<0 || !(up.getD n.ports[i].link.toNat false) then -1 else (nth n.links n.ports[i].link).a+(nth n.links n.ports[i].link).b-i:=by
  rw[Cw,A3 hi]
 generalize hp:n.ports[i]=p at *
 have hle:=fun h=>Jy hr (i:=p.link.toNat) h
 conv=>whnf
 refine⟨E,by omega,by omega,?_⟩
 rw[e1]
 conv=>whnf
 (repeat' (first | (refine⟨fun h=>?_,fun h=>?_⟩<;>(repeat (first | simp only[decide_eq_true_eq]at h | simp only[decide_eq_false_iff_not]at h | simp only[Bool.not_eq_true']at h | simp only[Bool.not_eq_false']at h))<;>((first|refine rg ?_|refine rd qq ?_);(conv=>whnf))) | (refine Am rfl (.cons .tmp .nil) ?_ rfl) | (refine⟨qq,?_⟩;((conv=>whnf);repeat((refine aT ?_);(refine oO ?_)))) | (refine⟨by (first | omega | ((have hq:=hle qn;unfold I64;omega))),by (first | omega | ((have hq:=hle qn;unfold I64;omega))),?_⟩;((conv=>whnf)))))
 all_goals (refine congrArg Aa ?_;rw[hfar])
 ·simp_all
 ·have h1:up.getD p.link.toNat false=false:=by rw[A3 qn];assumption
  rw[h1];simp
 ·have h1:up.getD p.link.toNat false=true:=by rw[A3 qn];assumption
  rw[h1,Ai qn]
  simp_all
def Lh (n:Net) (up:List Bool) (ranks roots costs:List Int):SV:=.ref 12 (.agg (M6 n up ranks (.sl 1 Aa roots) (.sl 1 Aa costs))) 0
def Jo (n:Net) (ranks costs:List Int) (i k:Nat):Bool :=
 let a:=(n.ports.getD i default).dev
 let b:=(n.ports.getD k default).dev
 decide (nth costs a<nth costs b) || (nth costs a == nth costs b && decide (nth ranks a<nth ranks b))
theorem Ad9 (n:Net) (up:List Bool) (ranks roots costs:List Int) (i k:Nat) (hr:Ac n=true) (hrk:ranks.length=n.devices.length) (hc:costs.length=n.devices.length) (hi:i<n.ports.length) (hk:k<n.ports.length) :
  Sy.Spec Tryz.prog 223 [Lh n up ranks roots costs,Aa i,Aa k] [] (Ab (Jo n ranks costs i k)) []:=cT F223 Tryz.ntmps223 fun F hF=>by
 have hd1:=Lo hr hi
 have hd2:=Lo hr hk
 have e1:n.ports[(i:Int).toNat]'qn=n.ports[i]:=rfl
 have e2:n.ports[(k:Int).toNat]'qn=n.ports[k]:=rfl
 have hres:Jo n ranks costs i k=(decide (nth costs n.ports[i].dev<nth costs n.ports[k].dev) || (nth costs n.ports[i].dev == nth costs n.ports[k].dev && decide (nth ranks n.ports[i].dev<nth ranks n.ports[k].dev))):=by
  rw[Jo,A3 hi,A3 hk]
 rw[Ai qn,Ai qn,Ai qn,Ai qn]at hres
 conv=>whnf
 (repeat' (first | (refine⟨fun h=>?_,fun h=>?_⟩<;>(repeat (first | simp only[decide_eq_true_eq]at h | simp only[decide_eq_false_iff_not]at h | simp only[beq_iff_eq]at h | simp only[beq_eq_false_iff_ne]at h))<;>((refine rd qq ?_);(conv=>whnf))) | (refine Am rfl (.cons .tmp .nil) ?_ rfl) | (refine⟨qq,?_⟩;((conv=>whnf))) | (refine⟨by (first | omega | (simp only[Int.toNat_natCast];omega)),by (first | omega | (simp only[Int.toNat_natCast];omega)),?_⟩;((conv=>whnf)))))
 all_goals (refine congrArg Ab ?_;rw[hres];clear hF hres hr;simp only[Int.toNat_natCast]at *;grind)
theorem Wz {n:Net} {up:List Bool} (h:Ac n=true) {i:Nat} (hi:i<n.ports.length) (hf:0≤Cw n up i):Cw n up i<n.ports.length:=by
 have hp:=Kj h hi
 have hpl:=Mj h hi
 simp only[Ec,Bool.and_eq_true,Bool.or_eq_true,beq_iff_eq]at hp
 have hp:=hp.2
 unfold Cw at *
 rw[A3 hi]at *
 simp only at *
 split at hf
 ·omega
 ·rename_i hc
  rw[if_neg hc]
  simp only[Bool.or_eq_true,decide_eq_true_eq,not_or]at hc
  rcases hp with hp | hp
  ·omega
  ·have hl:n.ports[i].link.toNat<n.links.length:=by omega
   have he:=Jy h hl
   rw[Ai hl]at *
   omega
def Xc (n:Net) (up:List Bool) (ranks roots costs:List Int) (dev:Int) (i:Nat):Option Vec :=
 let p:=n.ports.getD i default
 let far:=Cw n up i
 let there:=(nth n.ports far).dev
 if p.dev == dev && decide (0≤far) then some ⟨nth roots there,nth costs there+p.cost,nth ranks there,far,i⟩ else none
def J9 (n:Net) (up:List Bool) (ranks roots costs:List Int) (dev:Int) (j:Nat):List Vec:=(List.range j).filterMap (Xc n up ranks roots costs dev)
theorem Af0 (n:Net) (up:List Bool) (ranks roots costs:List Int) (dev:Int) (j:Nat):J9 n up ranks roots costs dev (j+1)=J9 n up ranks roots costs dev j++(Xc n up ranks roots costs dev j).toList:=by
 rw[J9,List.range_succ,List.filterMap_append]
 cases h:Xc n up ranks roots costs dev j<;>simp[J9,h]
theorem S1 (n:Net) (up:List Bool) (ranks roots costs:List Int) (dev:Int) (j:Nat):(J9 n up ranks roots costs dev j).length≤j:=by
 have:=List.length_filterMap_le (Xc n up ranks roots costs dev) (List.range j)
 simpa [J9] using this
def Om (n:Net) (up:List Bool) (ranks roots costs:List Int) (dev:Int):Int :=
 let r:=Kp (J9 n up ranks roots costs dev n.ports.length)
 if !r.2 || nth roots dev == nth ranks dev then -1 else r.1.own
theorem bestS (n:Net) (up:List Bool) (ranks roots costs:List Int) (dev:Int) (hr:Ac n=true) (hu:up.length=n.links.length) (hcost:Cy n=true) (hrk:ranks.length=n.devices.length) (hro:roots.length=n.devices.length) (hc:costs.length=n.devices.length)
  (hb:∀ c∈costs,0≤c∧c<1000000000) (hd:0≤dev∧dev<n.devices.length) :
  Sy.Spec Tryz.prog 224 [Lh n up ranks roots costs,Aa dev] [] (Aa (Om n up ranks roots costs dev)) []:=cT F224 Tryz.ntmps224 fun F hF=>by
 have hf:=Dq hr
 conv=>whnf
 refine Cc 5 1000 5 Le E E ?_
 refine Az n.ports.length (fun j=>[(0,Lh n up ranks roots costs),(1,Aa dev),(5,.osl 1000),(16,.sl 7 A2 n.ports),(17,Aa n.ports.length),(18,Aa j)]) (fun j=>[(1000,.row 5 Le (J9 n up ranks roots costs dev j))]) []
  ⟨⟨rfl,rfl,rfl,rfl,rfl,rfl,rfl,rfl,rfl,rfl,rfl,rfl,trivial⟩,⟨.inl rfl,rfl,trivial⟩,rfl,rfl⟩ ?_
 intro j hj
 refine oO ?_
 refine⟨fun h=>?_,fun h=>?_⟩
 ·have hlt:j<n.ports.length:=by simpa using h
  have e1:n.ports[(j:Int).toNat]'qn=n.ports[j]:=rfl
  have hfar:=farS n up ranks (.sl 1 Aa roots) (.sl 1 Aa costs) rfl j hr hu hlt
  have hfl:=Wz (up:=up) hr hlt
  have hsucc:=Af0 n up ranks roots costs dev j
  have hbl:=S1 n up ranks roots costs dev j
  have hcand:Xc n up ranks roots costs dev j=if n.ports[j].dev == dev && decide (0≤Cw n up j) then some ⟨nth roots (nth n.ports (Cw n up j)).dev,nth costs (nth n.ports (Cw n up j)).dev+n.ports[j].cost,nth ranks (nth n.ports (Cw n up j)).dev,Cw n up j,j⟩ else none:=by
   rw[Xc,A3 hlt]
  generalize Cw n up j=k at *
  have hpc:1≤n.ports[j].cost∧n.ports[j].cost≤65535:=by
   simp only[Cy,Bool.not_eq_true',List.any_eq_false]at hcost
   have:=hcost _ (List.getElem_mem hlt)
   simp only[I5,Bool.or_eq_true,decide_eq_true_eq,not_or]at this
   omega
  obtain ⟨p,hp⟩:∃ p,n.ports[j]=p:=⟨_,rfl⟩
  rw[hp]at e1 hcand hpc
  refine oO ?_
  refine⟨E,by omega,by omega,?_⟩
  rw[e1]
  conv=>whnf
  refine c0 hfar F222 ?_
  refine oO ?_
  refine⟨fun h=>?_,fun h=>?_⟩
  ·refine oO ?_
   refine⟨fun h2=>?_,fun h2=>?_⟩
   ·have hk0:0≤k:=of_decide_eq_true h2
    have hk1:=hfl hk0
    rw[if_pos (by simp only[Bool.and_eq_true,decide_eq_true_eq];exact⟨h,hk0⟩),Ai (l:=n.ports) (i:=k) qn]at hcand
    have hpd:=Lo hr (i:=k.toNat) qn
    obtain ⟨q,hq⟩:∃ q,n.ports[k.toNat]'qn=q:=⟨_,rfl⟩
    rw[hq]at hcand hpd
    have hcb:=hb (costs[q.dev.toNat]'qn) (List.getElem_mem _)
    rw[Ai (l:=roots) (i:=q.dev) qn,Ai (l:=costs) (i:=q.dev) qn,Ai (l:=ranks) (i:=q.dev) qn]at hcand
    refine oO ?_
    refine⟨E,hk0,by omega,?_⟩
    rw[hq]
    conv=>whnf
    refine⟨qq,?_⟩
    refine⟨by omega,by omega,?_⟩
    conv=>whnf
    refine⟨qq,?_⟩
    refine⟨by omega,by omega,?_⟩
    conv=>whnf
    refine iW ?_
    refine⟨qq,?_⟩
    refine⟨by omega,by omega,?_⟩
    conv=>whnf
    refine Bk (Ah Γ.toTy 72 E E E E E (.row E) (.lit (l:=[(⟨roots[q.dev.toNat]'qn,costs[q.dev.toNat]'qn+p.cost,ranks[q.dev.toNat]'qn,k,j⟩:Vec)]) E E) qy (by simp;omega) (by simp;omega)) qq E ?_
    refine oD ?_
    refine kW ?_
    refine iW ?_
    refine Ar [(1000,72)] hlt ⟨⟨E,E,E,E,E,E,E,E,E,E,E,E,Y⟩,⟨.inl (congrArg (Ob.row 5 Le) ?_),E,Y⟩,E,E⟩
    rw[hsucc,hcand]
    rfl
   ·have hk0:¬ 0≤k:=of_decide_eq_false h2
    rw[if_neg (by simp only[Bool.and_eq_true,decide_eq_true_eq];exact fun hh=>hk0 hh.2)]at hcand
    refine oO ?_
    refine iW ?_
    refine Ar [] hlt ⟨⟨E,E,E,E,E,E,E,E,E,E,E,E,Y⟩,⟨.inl (congrArg (Ob.row 5 Le) ?_),E,Y⟩,E,E⟩
    rw[hsucc,hcand]
    simp
  ·rw[if_neg (by rw[h];simp)]at hcand
   refine oF ?_
   refine iW ?_
   refine Ar [] hlt ⟨⟨E,E,E,E,E,E,E,E,E,E,E,E,Y⟩,⟨.inl (congrArg (Ob.row 5 Le) ?_),E,Y⟩,E,E⟩
   rw[hsucc,hcand]
   simp
 ·have hjl:j=n.ports.length:=by
   have:¬ j<n.ports.length:=by simpa using h
   omega
  subst hjl
  have hbl:=S1 n up ranks roots costs dev n.ports.length
  have hbi:Om n up ranks roots costs dev=if !(Kp (J9 n up ranks roots costs dev n.ports.length)).2 || nth roots dev == nth ranks dev then -1 else (Kp (J9 n up ranks roots costs dev n.ports.length)).1.own:=rfl
  rw[Ai qn,Ai qn]at hbi
  have hls:=leastS (J9 n up ranks roots costs dev n.ports.length) (by unfold Aj;omega)
  generalize Kp (J9 n up ranks roots costs dev n.ports.length)=r at hls hbi
  obtain ⟨v,ok⟩:=r
  simp only at hls hbi
  rw[hbi]
  refine oO ?_
  refine Aq 1000 E ?_
  refine c0 hls F289 ?_
  refine oO ?_
  (repeat' (first | (refine⟨fun h=>?_,fun h=>?_⟩<;>(repeat (first | simp only[beq_iff_eq]at h | simp only[beq_eq_false_iff_ne]at h | simp only[Bool.not_eq_true']at h | simp only[Bool.not_eq_false']at h))<;>((first|refine rg ?_|refine rd qq ?_);(conv=>whnf))) | (refine Am rfl (.cons .tmp .nil) ?_ rfl) | (refine⟨qq,?_⟩;((conv=>whnf);repeat((refine aT ?_);(refine oO ?_)))) | (refine⟨by (omega),by (omega),?_⟩;((conv=>whnf)))))
  all_goals (refine congrArg Aa ?_;clear hF hls hbi;grind)
theorem best_lt {n:Net} {up:List Bool} {ranks roots costs:List Int} {dev:Int} (h:0≤Om n up ranks roots costs dev):Om n up ranks roots costs dev<n.ports.length:=by
 have hmem:=@leastR_mem (J9 n up ranks roots costs dev n.ports.length)
 unfold Om at *
 simp only at *
 split at h
 ·omega
 ·rename_i hc
  rw[if_neg hc]
  simp only[Bool.or_eq_true,Bool.not_eq_true',not_or]at hc
  have h2:=hmem (by simpa using hc.1)
  obtain ⟨i,hi,he⟩:=List.mem_filterMap.1 h2
  have hi:=List.mem_range.1 hi
  unfold Xc at he
  simp only at he
  split at he
  ·have e:=congrArg Vec.own (Option.some.inj he)
   simp only at e
   omega
  ·cases he
def Agi (n:Net) (up:List Bool) (ranks costs:List Int) (i:Nat):Int :=
 if Cw n up i<0 then 0 else if Jo n ranks costs i (Cw n up i).toNat then 2 else 3
def E7 (n:Net) (up:List Bool) (ranks costs:List Int) (j:Nat):List Int:=(List.range n.ports.length).map fun i=>if i<j then Agi n up ranks costs i else 0
theorem M8 (n:Net) (up:List Bool) (ranks costs:List Int) (j:Nat):(E7 n up ranks costs j).length=n.ports.length:=by simp[E7]
theorem Abi (n:Net) (up:List Bool) (ranks costs:List Int):E7 n up ranks costs 0=List.replicate n.ports.length 0:=by
 rw[E7]
 exact List.ext_getElem qy qy
theorem Abj (n:Net) (up:List Bool) (ranks costs:List Int) (j:Nat) (hj:j<n.ports.length):E7 n up ranks costs (j+1)=(E7 n up ranks costs j).set j (Agi n up ranks costs j):=by
 refine List.ext_getElem (by simp[E7]) (fun i h1 h2=>?_)
 rw[List.getElem_set]
 simp only[E7,List.getElem_map,List.getElem_range]
 rcases Nat.lt_trichotomy i j with h | h | h
 ·rw[if_pos qn,if_neg qn,if_pos h]
 ·subst h;rw[if_pos qn,if_pos rfl]
 ·rw[if_neg qn,if_neg qn,if_neg qn]
theorem Abk (n:Net) (up:List Bool) (ranks costs:List Int) (j:Nat) (h:Agi n up ranks costs j=0):E7 n up ranks costs (j+1)=E7 n up ranks costs j:=by
 simp only[E7]
 refine List.map_congr_left (fun i _=>?_)
 by_cases hij:i<j
 ·rw[if_pos qn,if_pos hij]
 ·by_cases he:i=j
  ·subst he;rw[if_pos qn,if_neg hij,h]
  ·rw[if_neg qn,if_neg hij]
def I9 (n:Net) (up:List Bool) (ranks roots costs:List Int):Nat→List Int
 | 0=>E7 n up ranks costs n.ports.length
 | d+1=>if 0≤Om n up ranks roots costs d then (I9 n up ranks roots costs d).set (Om n up ranks roots costs d).toNat 1 else I9 n up ranks roots costs d
theorem Hc (n:Net) (up:List Bool) (ranks roots costs:List Int):∀ d,(I9 n up ranks roots costs d).length=n.ports.length
 | 0=>M8 n up ranks costs _
 | d+1=>by
  rw[I9]
  split
  ·rw[List.length_set,Hc]
  ·rw[Hc]
theorem rolesS (n:Net) (up:List Bool) (ranks roots costs:List Int) (hr:Ac n=true) (hu:up.length=n.links.length) (hcost:Cy n=true) (hrk:ranks.length=n.devices.length) (hro:roots.length=n.devices.length) (hc:costs.length=n.devices.length)
  (hb:∀ c∈costs,0≤c∧c<1000000000) :
  Sy.Spec Tryz.prog 161 [Lh n up ranks roots costs] [] (.sl 1 Aa (I9 n up ranks roots costs n.devices.length)) []:=cT F161 Tryz.ntmps161 fun F hF=>by
 have hf:=Dq hr
 conv=>whnf
 refine Ad (Bh Γ.toTy (d:=14) (n:=n.ports.length) Aa 0 E E E E E E E E qn qn E E E) E E ?_
 rw[← Abi n up ranks costs]
 refine oO ?_
 refine Az n.ports.length (fun j=>[(0,Lh n up ranks roots costs),(3,.osl 14),(20,Aa n.ports.length),(21,Aa j)]) (fun j=>[(14,.row 1 Aa (E7 n up ranks costs j))]) []
  ⟨⟨rfl,rfl,rfl,rfl,rfl,rfl,rfl,rfl,trivial⟩,⟨.inl rfl,rfl,trivial⟩,rfl,rfl⟩ ?_
 intro j hj
 refine oO ?_
 refine⟨fun h=>?_,fun h=>?_⟩
 ·have hlt:j<n.ports.length:=by simpa using h
  have hfar:=farS n up ranks (.sl 1 Aa roots) (.sl 1 Aa costs) rfl j hr hu hlt
  have hfl:=Wz (up:=up) hr hlt
  have hlen:=M8 n up ranks costs j
  have hrole:Agi n up ranks costs j=if Cw n up j<0 then 0 else if Jo n ranks costs j (Cw n up j).toNat then 2 else 3:=rfl
  have hsucc:=Abj n up ranks costs j hlt
  have hsame:=Abk n up ranks costs j
  generalize Cw n up j=k at *
  refine oO ?_
  refine c0 hfar F222 ?_
  refine oO ?_
  refine⟨fun h=>?_,fun h=>?_⟩
  ·have hk:k<0:=of_decide_eq_true h
   rw[if_pos hk]at hrole
   refine oO ?_
   refine iW ?_
   exact Ar [] hlt ⟨⟨E,E,E,E,E,E,E,E,Y⟩,⟨.inl (congrArg (Ob.row 1 Aa) (hsame hrole)),E,Y⟩,E,E⟩
  have hk:¬ k<0:=of_decide_eq_false h
  rw[if_neg hk]at hrole
  obtain ⟨m,rfl⟩:∃ m:Nat,k=m:=⟨k.toNat,by omega⟩
  have hah:=Ad9 n up ranks roots costs j m hr hrk hc hlt qn
  rw[Int.toNat_natCast]at hrole
  refine oO ?_
  refine c0 hah F223 ?_
  refine oO ?_
  refine⟨fun h=>?_,fun h=>?_⟩
  ·rw[h,if_pos rfl]at hrole
   rw[hrole]at hsucc
   refine oO ?_
   refine⟨by omega,by omega,?_⟩
   conv=>whnf
   refine⟨E,by omega,2,E,E,?_⟩
   conv=>whnf
   refine iW ?_
   exact Ar [] hlt ⟨⟨E,E,E,E,E,E,E,E,Y⟩,⟨.inl (congrArg (Ob.row 1 Aa) hsucc),E,Y⟩,E,E⟩
  ·rw[h]at hrole
   simp only[Bool.false_eq_true,if_false]at hrole
   rw[hrole]at hsucc
   refine oO ?_
   refine⟨by omega,by omega,?_⟩
   conv=>whnf
   refine⟨E,by omega,3,E,E,?_⟩
   conv=>whnf
   refine iW ?_
   exact Ar [] hlt ⟨⟨E,E,E,E,E,E,E,E,Y⟩,⟨.inl (congrArg (Ob.row 1 Aa) hsucc),E,Y⟩,E,E⟩
 have hjl:j=n.ports.length:=by
  have:¬ j<n.ports.length:=by simpa using h
  omega
 subst hjl
 refine oO ?_
 refine Az n.devices.length (fun d=>[(0,Lh n up ranks roots costs),(3,.osl 14),(47,Aa n.devices.length),(48,Aa d)]) (fun d=>[(14,.row 1 Aa (I9 n up ranks roots costs d))]) []
  ⟨⟨rfl,rfl,rfl,rfl,rfl,rfl,rfl,rfl,trivial⟩,⟨.inl rfl,rfl,trivial⟩,rfl,rfl⟩ ?_
 clear hj h
 intro d hdle
 refine oO ?_
 refine⟨fun h=>?_,fun h=>?_⟩
 ·have hlt:d<n.devices.length:=by simpa using h
  have hbs:=bestS n up ranks roots costs d hr hu hcost hrk hro hc hb qn
  have hbl:=@best_lt n up ranks roots costs d
  have hlen:=Hc n up ranks roots costs d
  have hsucc:I9 n up ranks roots costs (d+1)=if 0≤Om n up ranks roots costs d then (I9 n up ranks roots costs d).set (Om n up ranks roots costs d).toNat 1 else I9 n up ranks roots costs d:=rfl
  generalize Om n up ranks roots costs d=k at *
  refine oO ?_
  refine c0 hbs F224 ?_
  refine oO ?_
  refine⟨fun h=>?_,fun h=>?_⟩
  ·have hk:0≤k:=of_decide_eq_true h
   rw[if_pos hk]at hsucc
   refine oO ?_
   refine⟨hk,by omega,?_⟩
   conv=>whnf
   refine⟨E,by omega,1,E,E,?_⟩
   conv=>whnf
   refine iW ?_
   exact Ar [] hlt ⟨⟨E,E,E,E,E,E,E,E,Y⟩,⟨.inl (congrArg (Ob.row 1 Aa) hsucc),E,Y⟩,E,E⟩
  ·have hk:¬ 0≤k:=of_decide_eq_false h
   rw[if_neg hk]at hsucc
   refine oO ?_
   refine iW ?_
   exact Ar [] hlt ⟨⟨E,E,E,E,E,E,E,E,Y⟩,⟨.inl (congrArg (Ob.row 1 Aa) hsucc),E,Y⟩,E,E⟩
 have hdl:d=n.devices.length:=by
  have:¬ d<n.devices.length:=by simpa using h
  omega
 subst hdl
 refine oO ?_
 refine Aq 14 E ?_
 exact dN
def Yh (n:Net) (up:List Bool) (ranks:List Int) (roots costs:List Int):Obs:=[(0,.box (M6 n up ranks (.osl 1) (.osl 2))),(1,.row 1 Aa roots),(2,.row 1 Aa costs)]
theorem farR (n:Net) (up:List Bool) (ranks roots costs:List Int) (i:Nat) (hr:Ac n=true) (hu:up.length=n.links.length) (hi:i<n.ports.length) :
  Sy.Spec Tryz.prog 222 [.ptr 0 0,Aa i] (Yh n up ranks roots costs) (Aa (Cw n up i)) (Yh n up ranks roots costs):=cT F222 Tryz.ntmps222 fun F hF=>by
 have hpl:=Mj hr hi
 have hf:=Dq hr
 have e1:n.ports[(i:Int).toNat]'qn=n.ports[i]:=rfl
 have hfar:Cw n up i=if n.ports[i].link<0 || !(up.getD n.ports[i].link.toNat false) then -1 else (nth n.links n.ports[i].link).a+(nth n.links n.ports[i].link).b-i:=by
  rw[Cw,A3 hi]
 generalize hp:n.ports[i]=p at *
 have hle:=fun h=>Jy hr (i:=p.link.toNat) h
 conv=>whnf
 refine⟨E,by omega,by omega,?_⟩
 rw[e1]
 conv=>whnf
 (repeat' (first | (refine⟨fun h=>?_,fun h=>?_⟩<;>(repeat (first | simp only[decide_eq_true_eq]at h | simp only[decide_eq_false_iff_not]at h | simp only[Bool.not_eq_true']at h | simp only[Bool.not_eq_false']at h))<;>((first|refine rg ?_|refine rd qq ?_);(conv=>whnf))) | (refine⟨qq,?_⟩;((conv=>whnf);repeat((refine aT ?_);(refine oO ?_)))) | (refine⟨by (first | omega | ((have hq:=hle qn;unfold I64;omega))),by (first | omega | ((have hq:=hle qn;unfold I64;omega))),?_⟩;((conv=>whnf))) | refine done rfl (.cons .tmp .nil) [] (Yh n up ranks roots costs) (fun _ h=>h) ?_ rfl ⟨trivial,⟨.inl rfl,rfl,.inl rfl,rfl,.inl rfl,rfl,trivial⟩,rfl,rfl⟩))
 all_goals (refine congrArg Aa ?_;rw[hfar])
 ·simp_all
 ·have h1:up.getD p.link.toNat false=false:=by rw[A3 qn];assumption
  rw[h1];simp
 ·have h1:up.getD p.link.toNat false=true:=by rw[A3 qn];assumption
  rw[h1,Ai qn]
  simp_all
def Cs (n:Net) (up:List Bool) (x:Item) (q:List Item) (i:Nat):List Item :=
 if (n.ports.getD i default).dev=x.dev∧0≤Cw n up i then Oa q ⟨x.root,x.cost+(nth n.ports (Cw n up i)).cost,(nth n.ports (Cw n up i)).dev⟩ else q
def Kl (n:Net) (up:List Bool) (s:List Item × List Int × List Int):List Item × List Int × List Int :=
 let x:=(Ck s.1).getLast?.getD default
 let q:=(Ck s.1).dropLast
 if 0≤nth s.2.1 x.dev then (q,s.2) else ((List.range n.ports.length).foldl (Cs n up x) q,s.2.1.set x.dev.toNat x.root,s.2.2.set x.dev.toNat x.cost)
def D8 (n:Net) (up:List Bool):Nat→List Item × List Int × List Int→List Item × List Int × List Int
 | 0,s=>s
 | f+1,s=>if s.1=[] then s else D8 n up f (Kl n up s)
end Go.Sy.YteinjapglfkamaaGreat
namespace Go.Sy.YteinjapglfkamaaGreat
theorem Ow (q:List Item) (i j:Nat) (hi:i<q.length) (hj:j<q.length):(Dd q i j).Perm q:=by
 rw[Dd,A3 hi,A3 hj]
 exact List.set_set_perm hi hj
theorem Aa3:∀ (f:Nat) (q:List Item) (j:Nat),j<q.length→(upF f q j).Perm q
 | 0,_,_,_=>.refl _
 | f+1,q,j,hj=>by
  rw[upF]
  split
  ·exact .refl _
  ·split
   ·exact(Aa3 f _ _ (by rw[Au];omega)).trans (Ow q _ _ qn hj)
   ·exact .refl _
theorem W4:∀ (f:Nat) (q:List Item) (i n:Nat),i<q.length→n≤q.length→(Da f q i n).1.Perm q
 | 0,_,_,_,_,_=>.refl _
 | f+1,q,i,n,hi,hn=>by
  rw[Da]
  split
  ·rename_i h
   have hc:=J8 q i n h
   split
   ·exact(W4 f _ _ n (by rw[Au];omega) (by rw[Au];exact hn)).trans (Ow q _ _ hi qn)
   ·exact .refl _
  ·exact .refl _
theorem Kn (q:List Item) (x:Item):(Oa q x).Perm (x::q) :=
 (Aa3 _ _ _ qy).trans (List.perm_append_comm (l₁:=q) (l₂:=[x]))
theorem Hz (q:List Item) (x:Item):(Oa q x).length=q.length+1:=by rw[Oa,Vi];simp
theorem Mk (q:List Item) (hq:q≠[]):(Ck q).Perm q:=by
 have h0:0<q.length:=List.length_pos_iff.2 hq
 exact(W4 _ _ _ _ (by rw[Au];exact h0) (by rw[Au];omega)).trans (Ow q _ _ h0 qn)
def Iu (q:List Item) (n:Nat):Prop:=∀ c,0<c→c<n→c<q.length→Bp (q.getD c default) (q.getD ((c-1) / 2) default)=false
theorem Kr {x y z:Item} (h1:Bp y x=false) (h2:Bp z y=false):Bp z x=false:=by
 unfold Bp at *
 grind
theorem Aff {q:List Item} {n:Nat} (h:Iu q n) (hn:n≤q.length):∀ c,c<n→Bp (q.getD c default) (q.getD 0 default)=false:=by
 intro c
 induction c using Nat.strongRecOn with
 | ind c ih =>
  intro hc
  rcases Nat.eq_zero_or_pos c with h0 | h0
  ·subst h0;unfold Bp;grind
  ·have h1:=h c h0 hc qn
   have h2:=ih ((c-1) / 2) qn qn
   exact Kr h2 h1
theorem Dl (q:List Item) (i j c:Nat) (hi:i<q.length) (hj:j<q.length):(Dd q i j).getD c default=if c=j then q.getD i default else if c=i then q.getD j default else q.getD c default:=by
 rw[Dd]
 simp only[List.getD_eq_getElem?_getD,List.getElem?_set,List.length_set]
 by_cases h1:c=j
 ·subst h1;simp[hj]
 ·rw[if_neg (Ne.symm h1),if_neg h1]
  by_cases h2:c=i
  ·subst h2;simp[hi]
  ·rw[if_neg (Ne.symm h2),if_neg h2]
theorem Ks {x y:Item} (h:Bp x y=true):Bp y x=false:=by
 unfold Bp at *
 grind
structure UpInv (q:List Item) (j n:Nat):Prop where
 heap:∀ c,0<c→c<n→c≠j→Bp (q.getD c default) (q.getD ((c-1) / 2) default)=false
 over:∀ c,0<c→c<n→(c-1) / 2=j→0<j→Bp (q.getD c default) (q.getD ((j-1) / 2) default)=false
theorem Aa4 (n:Nat):∀ (f:Nat) (q:List Item) (j:Nat),j≤f→j<n→n≤q.length→UpInv q j n→Iu (upF f q j) n
 | 0,q,j,hf,hj,hn,hI=>by
  have:j=0:=by omega
  subst this
  exact fun c h0 hc _=>hI.heap c h0 hc qn
 | f+1,q,j,hf,hj,hn,hI=>by
  rw[upF]
  split
  ·rename_i h0
   subst h0
   exact fun c h0 hc _=>hI.heap c h0 hc qn
  ·rename_i h0
   split
   ·rename_i hlt
    have hp:(j-1) / 2<j:=by omega
    refine Aa4 n f _ _ qn qn (by rw[Au];exact hn) ⟨fun c hc0 hcn hcp=>?_,fun c hc0 hcn hpar hp0=>?_⟩
    ·rw[Dl _ _ _ _ qn qn,Dl _ _ _ _ qn qn]
     by_cases hcj:c=j
     ·subst hcj
      rw[if_pos rfl,if_neg qn,if_pos rfl]
      exact Ks hlt
     ·rw[if_neg hcj,if_neg hcp]
      by_cases hpj:(c-1) / 2=j
      ·rw[if_pos hpj]
       exact hI.over c hc0 hcn hpj qn
      ·rw[if_neg hpj]
       by_cases hpp:(c-1) / 2=(j-1) / 2
       ·rw[if_pos hpp]
        have:=hI.heap c hc0 hcn hcj
        rw[hpp]at this
        exact Kr (Ks hlt) this
       ·rw[if_neg hpp]
        exact hI.heap c hc0 hcn hcj
    ·rw[Dl _ _ _ _ qn qn,Dl _ _ _ _ qn qn]
     have hpI:=hI.heap ((j-1) / 2) hp0 qn qn
     rw[if_neg (show ((j-1) / 2-1) / 2≠j by omega),if_neg (show ((j-1) / 2-1) / 2≠(j-1) / 2 by omega)]
     by_cases hcj:c=j
     ·rw[if_pos hcj];exact hpI
     ·rw[if_neg hcj,if_neg qn]
      have:=hI.heap c hc0 hcn hcj
      rw[hpar]at this
      exact Kr hpI this
   ·rename_i hlt
    intro c hc0 hcn _
    by_cases hcj:c=j
    ·subst hcj;simpa using hlt
    ·exact hI.heap c hc0 hcn hcj
theorem J3 {q r:List Item} {c:Nat} (h:c<q.length):(q++r).getD c default=q.getD c default:=by
 simp[List.getD_eq_getElem?_getD,List.getElem?_append_left h]
theorem V6 (q:List Item) (x:Item) (h:Iu q q.length):Iu (Oa q x) (Oa q x).length:=by
 rw[Hz]
 refine Aa4 (q.length+1) _ _ _ (Nat.le_refl _) qn qy ⟨fun c hc0 hcn hcj=>?_,fun c hc0 hcn hpar hp0=>by omega⟩
 rw[J3 qn,J3 qn]
 exact h c hc0 qn qn
structure DownInv (q:List Item) (i n:Nat):Prop where
 heap:∀ c,0<c→c<n→(c-1) / 2≠i→Bp (q.getD c default) (q.getD ((c-1) / 2) default)=false
 over:∀ c,0<c→c<n→(c-1) / 2=i→0<i→Bp (q.getD c default) (q.getD ((i-1) / 2) default)=false
theorem Aje (q:List Item) (i n c:Nat) (_h:2 * i+1<n) (hc0:0<c) (hc:c<n) (hp:(c-1) / 2=i):Bp (q.getD c default) (q.getD (C9 q i n) default)=false:=by
 have hcc:c=2 * i+1∨c=2 * i+2:=by omega
 unfold C9
 split
 ·rename_i hh
  rcases hcc with rfl | rfl
  ·exact Ks hh.2
  ·unfold Bp;grind
 ·rename_i hh
  rcases hcc with rfl | rfl
  ·unfold Bp;grind
  ·cases hlt:Bp (q.getD (2 * i+2) default) (q.getD (2 * i+1) default) with
   | false=>rfl
   | true=>exact absurd ⟨hc,hlt⟩ hh
theorem W5 (n:Nat):∀ (f:Nat) (q:List Item) (i:Nat),n≤f+i→i<q.length→n≤q.length→DownInv q i n→Iu (Da f q i n).1 n
 | 0,q,i,hf,hi,hn,hI=>fun c hc0 hc _=>hI.heap c hc0 hc qn
 | f+1,q,i,hf,hi,hn,hI=>by
  rw[Da]
  split
  ·rename_i h
   have hcl:=J8 q i n h
   have hpar:(C9 q i n-1) / 2=i:=by unfold C9;split<;>omega
   have hle:=fun c=>Aje q i n c h
   generalize C9 q i n=k at *
   split
   ·rename_i hlt
    refine W5 n f _ _ qn (by rw[Au];omega) (by rw[Au];exact hn) ⟨fun c hc0 hcn hck=>?_,fun c hc0 hcn hcp hk0=>?_⟩
    ·rw[Dl _ _ _ _ hi qn,Dl _ _ _ _ hi qn,if_neg hck]
     by_cases hc1:c=k
     ·subst hc1
      rw[if_pos rfl,if_pos hpar]
      exact Ks hlt
     ·rw[if_neg hc1]
      by_cases hc2:c=i
      ·subst hc2
       rw[if_pos rfl,if_neg qn]
       exact hI.over k qn hcl.1 hpar hc0
      ·rw[if_neg hc2]
       by_cases hc3:(c-1) / 2=i
       ·rw[if_pos hc3];exact hle c hc0 hcn hc3
       ·rw[if_neg hc3];exact hI.heap c hc0 hcn hc3
    ·rw[Dl _ _ _ _ hi qn,Dl _ _ _ _ hi qn]
     rw[if_neg qn,if_neg qn,hpar,if_neg qn,if_pos rfl]
     have:=hI.heap c hc0 hcn qn
     rwa [hcp]at this
   ·rename_i hlt
    intro c hc0 hcn _
    by_cases hc3:(c-1) / 2=i
    ·rw[hc3]
     exact Kr (by simpa using hlt) (hle c hc0 hcn hc3)
    ·exact hI.heap c hc0 hcn hc3
  ·exact fun c hc0 hc _=>hI.heap c hc0 hc qn
theorem W3 (n:Nat):∀ (f:Nat) (q:List Item) (i c:Nat),i<n→n≤q.length→n≤c→(Da f q i n).1.getD c default=q.getD c default
 | 0,_,_,_,_,_,_=>rfl
 | f+1,q,i,c,hi,hn,hc=>by
  rw[Da]
  split
  ·rename_i h
   have hcl:=J8 q i n h
   split
   ·rw[W3 n f _ _ c qn (by rw[Au];exact hn) hc,Dl _ _ _ _ qn qn,if_neg qn,if_neg qn]
   ·rfl
  ·rfl
theorem Abx (q:List Item) (hq:q≠[]):(Ck q).getLast (Dc hq)=q.getD 0 default:=by
 have h0:0<q.length:=List.length_pos_iff.2 hq
 rw[List.getLast_eq_getElem,← A3 (show (Ck q).length-1<(Ck q).length by rw[Df];omega),Df]
 by_cases h1:q.length=1
 ·have:Ck q=q:=by
   obtain ⟨x,rfl⟩:=List.length_eq_one_iff.1 h1
   rfl
  rw[this,h1]
 ·rw[Ck,W3 _ _ _ _ _ qn (by rw[Au];omega) (Nat.le_refl _),Dl _ _ _ _ h0 qn,if_pos rfl]
theorem Ah9 (q:List Item) (hq:q≠[]):(Ck q).dropLast++[q.getD 0 default]=Ck q:=by
 rw[← Abx q hq];exact List.dropLast_concat_getLast (Dc hq)
theorem Akv (q:List Item) (hq:q≠[]):(q.getD 0 default::(Ck q).dropLast).Perm q :=
 ((List.perm_append_comm (l₁:=[q.getD 0 default]) (l₂:=(Ck q).dropLast)).trans (by rw[Ah9 q hq])).trans (Mk q hq)
theorem Akw (q:List Item) (hq:q≠[]) (h:Iu q q.length):Iu (Ck q).dropLast (Ck q).dropLast.length:=by
 have h0:0<q.length:=List.length_pos_iff.2 hq
 have hd:(Ck q).dropLast.length=q.length-1:=by rw[List.length_dropLast,Df]
 have hh:Iu (Ck q) (q.length-1):=by
  rw[Ck]
  refine W5 (q.length-1) _ _ _ qn (by rw[Au];exact h0) (by rw[Au];omega) ⟨fun c hc0 hcn hp=>?_,fun c hc0 hcn hp h=>by omega⟩
  rw[Dl _ _ _ _ h0 qn,Dl _ _ _ _ h0 qn,if_neg qn,if_neg qn,if_neg qn,if_neg hp]
  exact h c hc0 qn qn
 intro c hc0 hcn _
 rw[hd]at hcn
 have hl:=Df q
 have e:∀ k,k<q.length-1→(Ck q).dropLast.getD k default=(Ck q).getD k default:=fun k hk=>by
  rw[A3 (show k<(Ck q).dropLast.length by omega),A3 (show k<(Ck q).length by omega),List.getElem_dropLast]
 rw[e c hcn,e _ qn]
 exact hh c hc0 hcn qn
theorem Aia (q:List Item) (h:Iu q q.length):∀ x∈q,Bp x (q.getD 0 default)=false:=fun x hx=>by
 obtain ⟨c,hc,rfl⟩:=List.getElem_of_mem hx
 have:=Aff h (Nat.le_refl _) c hc
 rwa [A3 hc]at this
def Dh (ranks:List Int) (j:Nat):List Item:=(List.range j).foldl (fun q (i:Nat)=>Oa q ⟨ranks.getD i 0,0,i⟩) []
theorem Hh (ranks:List Int) (j:Nat):Dh ranks (j+1)=Oa (Dh ranks j) ⟨ranks.getD j 0,0,j⟩:=by
 rw[Dh,List.range_succ,List.foldl_append];rfl
theorem I8 (ranks:List Int):∀ j,(Dh ranks j).length=j
 | 0=>rfl
 | j+1=>by rw[Hh,Hz,I8 ranks j]
def Q2 (roots:List Int):Nat:=roots.countP (fun r=>decide (r<0))
def reachM (s:List Item × List Int × List Int):Nat:=41 * Q2 s.2.1+s.1.length
structure ReachInv (n:Net) (s:List Item × List Int × List Int):Prop where
 rootsL:s.2.1.length=n.devices.length
 costsL:s.2.2.length=n.devices.length
 items:∀ x∈s.1,0≤x.dev∧x.dev<n.devices.length∧0≤x.root∧0≤x.cost∧x.cost+65535 * Q2 s.2.1≤65535 * n.devices.length
 few:s.1.length+40 * Q2 s.2.1≤1000
theorem Alb (roots:List Int):Q2 roots≤roots.length:=List.countP_le_length
theorem Aih {roots:List Int} {i:Nat} {v:Int} (h:i<roots.length) (h0:roots[i]<0) (hv:0≤v):Q2 (roots.set i v)+1=Q2 roots:=by
 have h1:0<roots.countP (fun r=>decide (r<0)):=List.countP_pos_iff.2 ⟨roots[i],List.getElem_mem h,by simpa using h0⟩
 have hv':¬ v<0:=by omega
 rw[Q2,Q2,List.countP_set h]
 simp only[h0,hv',decide_true,decide_false,if_true,Bool.false_eq_true,if_false]
 omega
theorem Zp (n:Net) (up:List Bool) (x:Item) (hr:Ac n=true) (hcost:Cy n=true) {m:Nat} (hx:0≤x.root∧0≤x.cost∧x.cost+65535 * (m+1)≤65535 * n.devices.length) (q:List Item)
  (hq:∀ y∈q,0≤y.dev∧y.dev<n.devices.length∧0≤y.root∧0≤y.cost∧y.cost+65535 * m≤65535 * n.devices.length) (i:Nat) (hi:i<n.ports.length) :
  (∀ y∈Cs n up x q i,0≤y.dev∧y.dev<n.devices.length∧0≤y.root∧0≤y.cost∧y.cost+65535 * m≤65535 * n.devices.length)∧(Cs n up x q i).length≤q.length+1:=by
 rw[Cs]
 split
 ·rename_i h
  have hlt:=Wz hr hi h.2
  have hk:(Cw n up i).toNat<n.ports.length:=by omega
  have hd:=Lo hr hk
  have hpc:1≤n.ports[(Cw n up i).toNat].cost∧n.ports[(Cw n up i).toNat].cost≤65535:=by
   simp only[Cy,Bool.not_eq_true',List.any_eq_false]at hcost
   have:=hcost _ (List.getElem_mem hk)
   simp only[I5,Bool.or_eq_true,decide_eq_true_eq,not_or]at this
   omega
  have e:nth n.ports (Cw n up i)=n.ports[(Cw n up i).toNat]:=Ai (l:=n.ports) (i:=Cw n up i) qn
  rw[e]
  refine⟨fun y hy=>?_,by rw[Hz];omega⟩
  rcases List.mem_cons.1 ((Kn q _).mem_iff.1 hy) with rfl | hy
  ·simp only
   omega
  ·exact hq y hy
 ·exact⟨hq,by omega⟩
theorem V3 (n:Net) (up:List Bool) (x:Item) (hr:Ac n=true) (hcost:Cy n=true) {m:Nat} (hx:0≤x.root∧0≤x.cost∧x.cost+65535 * (m+1)≤65535 * n.devices.length) (q:List Item)
  (hq:∀ y∈q,0≤y.dev∧y.dev<n.devices.length∧0≤y.root∧0≤y.cost∧y.cost+65535 * m≤65535 * n.devices.length):∀ i,i≤n.ports.length →
  (∀ y∈(List.range i).foldl (Cs n up x) q,0≤y.dev∧y.dev<n.devices.length∧0≤y.root∧0≤y.cost∧y.cost+65535 * m≤65535 * n.devices.length)∧((List.range i).foldl (Cs n up x) q).length≤q.length+i
 | 0,_=>⟨hq,by simp⟩
 | i+1,hi=>by
  obtain ⟨h1,h2⟩:=V3 n up x hr hcost hx q hq i qn
  rw[List.range_succ,List.foldl_append]
  obtain ⟨h3,h4⟩:=Zp n up x hr hcost hx _ h1 i qn
  exact⟨h3,by simp only[List.foldl_cons,List.foldl_nil];omega⟩
theorem We {q:List Item} (hq:q≠[]):(Ck q).getLast?.getD default=(Ck q).getLast (Dc hq):=by
 rw[List.getLast?_eq_some_getLast (Dc hq)];rfl
theorem Ie (n:Net) (up:List Bool) (hr:Ac n=true) (hcost:Cy n=true) (s:List Item × List Int × List Int) (hI:ReachInv n s) (hne:s.1≠[]):ReachInv n (Kl n up s)∧reachM (Kl n up s)<reachM s:=by
 have hf:=Dq hr
 have hx:=hI.items _ ((Mk s.1 hne).mem_iff.1 (List.getLast_mem (Dc hne)))
 have hd:∀ y∈(Ck s.1).dropLast,y∈s.1:=fun y hy=>(Mk s.1 hne).mem_iff.1 ((List.dropLast_sublist _).subset hy)
 have h0:0<s.1.length:=List.length_pos_iff.2 hne
 have hdl:(Ck s.1).dropLast.length+1=s.1.length:=by rw[List.length_dropLast,Df];omega
 have hfew:=hI.few
 rw[Kl,We hne]
 generalize (Ck s.1).getLast (Dc hne)=x at *
 split
 ·exact⟨⟨hI.rootsL,hI.costsL,fun y hy=>hI.items y (hd y hy),by simp only;omega⟩,by unfold reachM;simp only;omega⟩
 ·rename_i hneg
  have hk:x.dev.toNat<s.2.1.length:=by rw[hI.rootsL];omega
  rw[Ai (l:=s.2.1) (i:=x.dev) (by rw[hI.rootsL];omega)]at hneg
  have hm:=Aih hk qn hx.2.2.1
  obtain ⟨h1,h2⟩:=V3 n up x hr hcost (m:=Q2 (s.2.1.set x.dev.toNat x.root)) ⟨hx.2.2.1,hx.2.2.2.1,by have:=hx.2.2.2.2;omega⟩ (Ck s.1).dropLast (fun y hy=>by have:=hI.items y (hd y hy);omega) n.ports.length (Nat.le_refl _)
  exact⟨⟨by simp only[List.length_set];exact hI.rootsL,by simp only[List.length_set];exact hI.costsL,h1,by simp only;omega⟩,by unfold reachM;simp only;omega⟩
theorem T7 (n:Net) (up:List Bool) (hr:Ac n=true) (hcost:Cy n=true):∀ (f g:Nat) (s:List Item × List Int × List Int),ReachInv n s→reachM s≤f→reachM s≤g→D8 n up f s=D8 n up g s
 | 0,0,_,_,_,_=>rfl
 | 0,g+1,s,_,h,_=>by
  have:s.1=[]:=List.eq_nil_of_length_eq_zero (by unfold reachM at h;omega)
  rw[D8,D8,if_pos this]
 | f+1,0,s,_,_,h=>by
  have:s.1=[]:=List.eq_nil_of_length_eq_zero (by unfold reachM at h;omega)
  rw[D8,D8,if_pos this]
 | f+1,g+1,s,hI,h1,h2=>by
  rw[D8,D8]
  split
  ·rfl
  ·rename_i hne
   obtain ⟨h3,h4⟩:=Ie n up hr hcost s hI hne
   exact T7 n up hr hcost f g _ h3 qn qn
def Hr (n:Net) (up:List Bool) (s:List Item × List Int × List Int):List Item × List Int × List Int:=D8 n up (reachM s) s
theorem Aem (n:Net) (up:List Bool) (s:List Item × List Int × List Int) (h:s.1=[]):Hr n up s=s:=by
 rw[Hr]
 cases reachM s with
 | zero=>rfl
 | succ m=>rw[D8,if_pos h]
theorem Abu (n:Net) (up:List Bool) (hr:Ac n=true) (hcost:Cy n=true) (s:List Item × List Int × List Int) (hI:ReachInv n s) (hne:s.1≠[]):Hr n up s=Hr n up (Kl n up s):=by
 obtain ⟨h3,h4⟩:=Ie n up hr hcost s hI hne
 rw[Hr,Hr]
 obtain ⟨m,hm⟩:∃ m,reachM s=m+1:=⟨reachM s-1,by omega⟩
 rw[hm,D8,if_neg hne]
 exact T7 n up hr hcost _ _ _ h3 qn (Nat.le_refl _)
theorem T3 (ranks:List Int) (m:Nat) (hrr:∀ r∈ranks,0≤r):∀ j,j≤ranks.length→∀ y∈Dh ranks j,0≤y.dev∧y.dev<m+ranks.length∧0≤y.root∧y.cost=0
 | 0,_,y,hy=>by simp[Dh]at hy
 | j+1,hj,y,hy=>by
  rw[Hh]at hy
  rcases List.mem_cons.1 ((Kn _ _).mem_iff.1 hy) with rfl | hy
  ·have h1:=hrr (ranks[j]'qn) (List.getElem_mem _)
   have h2:(0:Int)≤(j:Int)∧(j:Int)<m+ranks.length:=by omega
   exact⟨h2.1,h2.2,by rw[A3 (show j<ranks.length by omega)];exact h1,E⟩
  ·exact T3 ranks m hrr j qn y hy
theorem Yg (n:Net) (ranks roots costs:List Int) (hr:Ac n=true) (hrk:ranks.length=n.devices.length) (hro:roots.length=n.devices.length) (hc:costs.length=n.devices.length) (hrr:∀ r∈ranks,0≤r):ReachInv n (Dh ranks ranks.length,roots,costs):=by
 have hf:=Dq hr
 have hm:=Alb roots
 refine⟨hro,hc,fun y hy=>?_,by simp only[I8];omega⟩
 have:=T3 ranks 0 hrr _ (Nat.le_refl _) y hy
 simp only
 omega
def Le2 (r c r' c':Int):Prop:=r<r'∨(r=r'∧c≤c')
theorem Aip {x y:Item} (h:Bp y x=false):Le2 x.root x.cost y.root y.cost:=by
 simp only[Bp,Bool.or_eq_false_iff,decide_eq_false_iff_not,Bool.and_eq_false_iff,beq_eq_false_iff_ne]at h
 unfold Le2
 omega
theorem Aio {a b c d e f:Int} (h1:Le2 a b c d) (h2:Le2 c d e f):Le2 a b e f:=by
 unfold Le2 at *
 omega
theorem Acm {a b c d m:Int} (h1:Le2 a b c d) (hm:0≤m):Le2 a b c (d+m):=by
 unfold Le2 at *
 omega
def Ya (n:Net) (up:List Bool) (i j:Nat):Prop:=i<n.ports.length∧Cw n up i=j
theorem L0 {n:Net} {up:List Bool} (hr:Ac n=true) {i j:Nat} (h:Ya n up i j):j<n.ports.length:=by
 have:=Wz (up:=up) hr h.1 (by rw[h.2];omega)
 rw[h.2]at this
 omega
theorem Yv {n:Net} {up:List Bool} (hr:Ac n=true) {i j:Nat} (h:Ya n up i j) :
  ∃ k:Nat,k<n.links.length∧(nth n.ports i).link=k∧(nth n.ports j).link=k∧up.getD k false=true∧(((nth n.links k).a=i∧(nth n.links k).b=j)∨((nth n.links k).a=j∧(nth n.links k).b=i))∧Dx n i≠Dx n j:=by
 have hj:=L0 hr h
 obtain ⟨hi,hf⟩:=h
 have hp:=Kj hr hi
 have hpl:=Mj hr hi
 simp only[Ec,Bool.and_eq_true,Bool.or_eq_true,beq_iff_eq]at hp
 have hp:=hp.2
 have e:nth n.ports i=n.ports[i]:=Ai (l:=n.ports) (i:=(i:Int)) (by simpa using hi)
 unfold Cw at hf
 rw[A3 hi]at hf
 simp only at hf
 split at hf
 ·omega
 ·rename_i hc
  simp only[Bool.or_eq_true,decide_eq_true_eq,not_or,Bool.not_eq_true',Bool.not_eq_false]at hc
  rcases hp with hp | hp
  ·omega
  ·have hl:n.ports[i].link.toNat<n.links.length:=by omega
   have hlk:=Vz hr hl
   have he:=Jy hr hl
   have ek:((n.ports[i].link.toNat:Nat):Int)=n.ports[i].link:=by omega
   refine⟨n.ports[i].link.toNat,hl,by rw[e];omega,?_⟩
   simp only[Jz,Bool.and_eq_true,beq_iff_eq,bne_iff_ne]at hlk
   obtain ⟨⟨⟨_,hne⟩,h1⟩,h2⟩:=hlk
   rw[ek]
   rw[Ai (l:=n.links) (i:=n.ports[i].link) qn]at hf hp ⊢
   generalize n.links[n.ports[i].link.toNat]=l at *
   rcases hp.2 with ha | hb
   ·have hb:l.b=j:=by omega
    rw[ha,hb]at hne
    rw[hb]at h2
    exact⟨by omega,by simpa using hc.2,.inl ⟨ha,hb⟩,hne⟩
   ·have ha:l.a=j:=by omega
    rw[ha,hb]at hne
    rw[ha]at h1
    exact⟨by omega,by simpa using hc.2,.inr ⟨ha,hb⟩,fun h=>hne h.symm⟩
theorem Acw {n:Net} {up:List Bool} (hr:Ac n=true) {i j:Nat} (h:Ya n up i j):Ya n up j i:=by
 have hj:=L0 hr h
 obtain ⟨k,hk,_,h2,h3,h4,_⟩:=Yv hr h
 refine⟨hj,?_⟩
 unfold Cw
 have e:n.ports.getD j default=nth n.ports j:=rfl
 rw[e]
 simp only[h2,Int.toNat_natCast,h3]
 rw[if_neg qy]
 omega
theorem Ml {n:Net} (hr:Ac n=true) {i:Nat} (hi:i<n.ports.length):0≤Dx n i∧Dx n i<n.devices.length:=by
 rw[Dx,Ai (l:=n.ports) (i:=(i:Int)) (by simpa using hi)]
 exact Lo hr hi
def Der (n:Net) (up:List Bool) (K R C:Int→Int) (r c d:Int):Prop :=
 (r=K d∧c=0)∨∃ i j:Nat,Ya n up i j∧Dx n i=d∧0≤R (Dx n j)∧r=R (Dx n j)∧c=C (Dx n j)+Qy n i
structure Dij (n:Net) (up:List Bool) (K:Int→Int) (q:List Item) (R C:Int→Int):Prop where
 heap:Iu q q.length
 items:∀ x∈q,Der n up K R C x.root x.cost x.dev
 done:∀ d:Int,0≤d→d<n.devices.length→0≤R d→Der n up K R C (R d) (C d) d
 own:∀ d:Int,0≤d→d<n.devices.length→R d<0→⟨K d,0,d⟩∈q
 push:∀ i j:Nat,Ya n up i j→R (Dx n i)<0→0≤R (Dx n j)→⟨R (Dx n j),C (Dx n j)+Qy n i,Dx n i⟩∈q
 low:∀ d:Int,0≤d→d<n.devices.length→0≤R d→∀ x∈q,Le2 (R d) (C d) x.root x.cost
 self:∀ d:Int,0≤d→d<n.devices.length→0≤R d→Le2 (R d) (C d) (K d) 0
 tri:∀ i j:Nat,Ya n up i j→0≤R (Dx n i)→0≤R (Dx n j)→Le2 (R (Dx n i)) (C (Dx n i)) (R (Dx n j)) (C (Dx n j)+Qy n i)
theorem V1 (n:Net) (up:List Bool) (x:Item) (q:List Item) (y:Item):∀ m,y∈(List.range m).foldl (Cs n up x) q↔y∈q∨∃ i,i<m∧Dx n i=x.dev∧0≤Cw n up i∧y=⟨x.root,x.cost+(nth n.ports (Cw n up i)).cost,(nth n.ports (Cw n up i)).dev⟩
 | 0=>by simp
 | m+1=>by
  rw[List.range_succ,List.foldl_append]
  simp only[List.foldl_cons,List.foldl_nil]
  rw[Cs]
  have ih:=V1 n up x q y m
  have e:(n.ports.getD m default).dev=Dx n m:=rfl
  rw[e]
  split
  ·rename_i h
   rw[(Kn _ _).mem_iff,List.mem_cons,ih]
   constructor
   ·rintro (h1 | h1 | ⟨i,h1,h2⟩)
    ·exact .inr ⟨m,by omega,h.1,h.2,h1⟩
    ·exact .inl h1
    ·exact .inr ⟨i,by omega,h2⟩
   ·rintro (h1 | ⟨i,h1,h2,h3,h4⟩)
    ·exact .inr (.inl h1)
    ·by_cases hm:i=m
     ·subst hm;exact .inl h4
     ·exact .inr (.inr ⟨i,by omega,h2,h3,h4⟩)
  ·rename_i h
   rw[ih]
   constructor
   ·rintro (h1 | ⟨i,h1,h2⟩)
    ·exact .inl h1
    ·exact .inr ⟨i,by omega,h2⟩
   ·rintro (h1 | ⟨i,h1,h2,h3,h4⟩)
    ·exact .inl h1
    ·by_cases hm:i=m
     ·subst hm;exact absurd ⟨h2,h3⟩ h
     ·exact .inr ⟨i,by omega,h2,h3,h4⟩
theorem T6 (n:Net) (up:List Bool) (x:Item) (q:List Item) (h:Iu q q.length):∀ m,Iu ((List.range m).foldl (Cs n up x) q) ((List.range m).foldl (Cs n up x) q).length
 | 0=>h
 | m+1=>by
  rw[List.range_succ,List.foldl_append]
  simp only[List.foldl_cons,List.foldl_nil]
  have ih:=T6 n up x q h m
  rw[Cs]
  split
  ·exact V6 _ _ ih
  ·exact ih
theorem W7 {n:Net} {up:List Bool} {K R C R' C':Int→Int} {r c d:Int} (h:Der n up K R C r c d) (hs:∀ e,0≤R e→R' e=R e∧C' e=C e):Der n up K R' C' r c d:=by
 rcases h with h | ⟨i,j,h1,h2,h3,h4,h5⟩
 ·exact .inl h
 ·obtain ⟨e1,e2⟩:=hs _ h3
  exact .inr ⟨i,j,h1,h2,by rw[e1];exact h3,by rw[e1];exact h4,by rw[e2];exact h5⟩
theorem Al7 {n:Net} {up:List Bool} {K R C:Int→Int} {q q':List Item} {x:Item} (h:Dij n up K q R C) (hp:(x::q').Perm q) (hh:Iu q' q'.length) (hx:0≤R x.dev):Dij n up K q' R C:=by
 have hm:∀ y,y∈q↔y=x∨y∈q':=fun y=>by rw[← hp.mem_iff,List.mem_cons]
 refine⟨hh,fun y hy=>h.items y ((hm y).2 (.inr hy)),h.done,fun d h0 h1 h2=>?_,fun i j hij h1 h2=>?_,fun d h0 h1 h2 y hy=>h.low d h0 h1 h2 y ((hm y).2 (.inr hy)),h.self,h.tri⟩
 ·rcases (hm _).1 (h.own d h0 h1 h2) with e | e
  ·rw[← e]at hx;simp only at hx;omega
  ·exact e
 ·rcases (hm _).1 (h.push i j hij h1 h2) with e | e
  ·rw[← e]at hx;simp only at hx;omega
  ·exact e
theorem Al6 {n:Net} {up:List Bool} {K R C R' C':Int→Int} {q q':List Item} {x:Item} (hr:Ac n=true) (hcost:Cy n=true) (h:Dij n up K q R C) (hp:(x::q').Perm q) (hh:Iu q' q'.length)
  (hmin:∀ y∈q,Bp y x=false) (hx:R x.dev<0) (hx0:0≤x.root) (_hxd:0≤x.dev∧x.dev<n.devices.length)
  (hR:∀ e,R' e=if e=x.dev then x.root else R e) (hC:∀ e,C' e=if e=x.dev then x.cost else C e) :
  Dij n up K ((List.range n.ports.length).foldl (Cs n up x) q') R' C':=by
 have hm:∀ y,y∈q↔y=x∨y∈q':=fun y=>by rw[← hp.mem_iff,List.mem_cons]
 have hn:=fun y=>V1 n up x q' y n.ports.length
 have hs:∀ e,0≤R e→R' e=R e∧C' e=C e:=fun e he=>by
  have:e≠x.dev:=fun h=>by rw[h]at he;omega
  rw[hR,hC,if_neg this,if_neg this]
  exact⟨E,E⟩
 have hRd:R' x.dev=x.root:=by rw[hR,if_pos rfl]
 have hCd:C' x.dev=x.cost:=by rw[hC,if_pos rfl]
 have hxq:x∈q:=(hm x).2 (.inl rfl)
 have hle:∀ y∈q,Le2 x.root x.cost y.root y.cost:=fun y hy=>Aip (hmin y hy)
 have hnew:∀ y,y∈(List.range n.ports.length).foldl (Cs n up x) q'↔y∈q'∨∃ i j:Nat,Ya n up i j∧Dx n i=x.dev∧y=⟨x.root,x.cost+Qy n j,Dx n j⟩:=fun y=>by
  rw[hn y]
  constructor
  ·rintro (h1 | ⟨i,h1,h2,h3,h4⟩)
   ·exact .inl h1
   ·obtain ⟨j,hj⟩:∃ j:Nat,Cw n up i=j:=⟨(Cw n up i).toNat,by omega⟩
    rw[hj]at h4
    exact .inr ⟨i,j,⟨h1,hj⟩,h2,h4⟩
  ·rintro (h1 | ⟨i,j,h1,h2,h3⟩)
   ·exact .inl h1
   ·refine .inr ⟨i,h1.1,h2,by rw[h1.2];omega,?_⟩
    rw[h1.2]
    exact h3
 refine⟨T6 n up x q' hh _,fun y hy=>?_,fun d h0 h1 h2=>?_,fun d h0 h1 h2=>?_,fun i j hij h1 h2=>?_,fun d h0 h1 h2 y hy=>?_,fun d h0 h1 h2=>?_,fun i j hij h1 h2=>?_⟩
 ·rcases (hnew y).1 hy with hy | ⟨i,j,h1,h2,rfl⟩
  ·exact W7 (h.items y ((hm y).2 (.inr hy))) hs
  ·exact .inr ⟨j,i,Acw hr h1,E,by rw[h2,hRd];exact hx0,by rw[h2,hRd],by rw[h2,hCd]⟩
 ·by_cases hd:d=x.dev
  ·subst hd
   rw[hRd,hCd]
   exact W7 (h.items x hxq) hs
  ·rw[hR,if_neg hd]at h2
   obtain ⟨e1,e2⟩:=hs d h2
   rw[e1,e2]
   exact W7 (h.done d h0 h1 h2) hs
 ·have hd:d≠x.dev:=fun e=>by rw[e,hRd]at h2;omega
  rw[hR,if_neg hd]at h2
  refine(hnew _).2 (.inl ?_)
  rcases (hm _).1 (h.own d h0 h1 h2) with e | e
  ·exact absurd (congrArg Item.dev e) hd
  ·exact e
 ·have hd:Dx n i≠x.dev:=fun e=>by rw[e,hRd]at h1;omega
  rw[hR,if_neg hd]at h1
  by_cases hj:Dx n j=x.dev
  ·rw[hj,hRd,hCd]
   exact(hnew _).2 (.inr ⟨j,i,Acw hr hij,hj,E⟩)
  ·rw[hR,if_neg hj]at h2
   obtain ⟨e1,e2⟩:=hs _ h2
   rw[e1,e2]
   refine(hnew _).2 (.inl ?_)
   rcases (hm _).1 (h.push i j hij h1 h2) with e | e
   ·exact absurd (congrArg Item.dev e) hd
   ·exact e
 ·have hdx:Le2 (R' d) (C' d) x.root x.cost:=by
   by_cases hd:d=x.dev
   ·subst hd;rw[hRd,hCd];exact .inr ⟨rfl,Int.le_refl _⟩
   ·rw[hR,if_neg hd]at h2
    obtain ⟨e1,e2⟩:=hs d h2
    rw[e1,e2]
    exact h.low d h0 h1 h2 x hxq
  rcases (hnew y).1 hy with hy | ⟨i,j,h3,_,rfl⟩
  ·exact Aio hdx (hle y ((hm y).2 (.inr hy)))
  ·exact Acm hdx (by have:=Ab2 hcost (L0 hr h3);omega)
 ·by_cases hd:d=x.dev
  ·subst hd
   rw[hRd,hCd]
   exact hle _ (h.own _ h0 h1 hx)
  ·rw[hR,if_neg hd]at h2
   obtain ⟨e1,e2⟩:=hs d h2
   rw[e1,e2]
   exact h.self d h0 h1 h2
 ·have hj:=L0 hr hij
  have hpc:=Ab2 hcost hij.1
  have hne:=(Yv hr hij).choose_spec.2.2.2.2.2
  by_cases hd:Dx n i=x.dev
  ·rw[hd,hRd,hCd]
   have hjd:Dx n j≠x.dev:=fun e=>hne (by rw[hd,e])
   rw[hR,if_neg hjd]at h2
   obtain ⟨e1,e2⟩:=hs _ h2
   rw[e1,e2]
   exact hle _ (h.push i j hij (by rw[hd];exact hx) h2)
  ·rw[hR,if_neg hd]at h1
   obtain ⟨e1,e2⟩:=hs _ h1
   rw[e1,e2]
   by_cases hjd:Dx n j=x.dev
   ·rw[hjd,hRd,hCd]
    have hdl:=Ml hr hij.1
    exact Acm (h.low _ hdl.1 hdl.2 h1 x hxq) qn
   ·rw[hR,if_neg hjd]at h2
    obtain ⟨e3,e4⟩:=hs _ h2
    rw[e3,e4]
    exact h.tri i j hij h1 h2
end Go.Sy.YteinjapglfkamaaGreat
