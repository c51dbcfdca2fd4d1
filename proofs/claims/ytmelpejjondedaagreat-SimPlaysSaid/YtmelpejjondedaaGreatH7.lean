/-
  Sy34 Sy35 Sy36 Sy37 Sy38 Z3 Z4 K27 K28 K29 K30 K31 K32: parts of a proof, joined by program.
-/
import Derived.Test.YtmelpejjondedaaGreatH5
import Derived.Test.YtmelpejjondedaaGreatH3
import Derived.Laws.LoneSync
import Derived.Test.YtmelpejjondedaaGreatH6
namespace Go.Sy
theorem Ajh {C:Cx} {kk:List KI} {s:SS} (q:Nat) (r:List Nat) {sz:Nat} {α:Type} {e:α → SV} {l:List α} (h:s.h q = .row sz e l) (hl:l ≠ []) (hr:∀ i ∈ r,s.σ i = .osl q)
  (hg:∀ b cap,l.length ≤ cap → G C kk ⟨freezeσ s.σ (.val (.slice (some ⟨b,0,none⟩) l.length cap)) r,upd s.h q (.pin b l.length cap sz e l)⟩):G C kk s:=fun κ a w hs=>by
 have hob:=hs.obj q
 rw [h] at hob
 rcases hob with ⟨_,h1⟩ | hrow
 ·exact absurd h1 hl
 obtain ⟨b,cap,cs,T,fr,e1,e2,e3,e4,e5,e6⟩:=hrow
 refine hg b cap e5 κ a w ⟨hs.defers,hs.size,hs.inv,hs.ctx,fun i=>?_,fun j=>?_⟩
 ·refine freezeσ_ok r _ i (hs.slot i) (fun hi=>?_)
  have:=hs.slot i
  rw [hr i hi] at this
  simp only [Rd,e1] at this
  simp only [Rd]
  exact this
 ·show ObOK κ w j (upd s.h q _ j)
  by_cases hj:j = q
  ·subst hj; rw [Bs]; exact ⟨e1,b,cap,cs,T,fr,e1,e2,e3,e4,e5,e6⟩
  ·rw [Cf _ _ hj]; exact hs.obj j
theorem Wr {C:Cx} {kk:List KI} {s:SS} (q d:Nat) (r:List Nat) (m:Nat) {b n cap sz:Nat} {α:Type} {e:α → SV} {l:List α} (h:s.h q = .pin b n cap sz e l) (hd:s.h d = .fresh) (hm:m ≤ l.length)
  (hr:∀ i ∈ r,s.σ i = .val (.slice (some ⟨b,0,none⟩) m cap)) (hg:G C kk ⟨freezeσ s.σ (.osl d) r,upd (upd s.h q .non) d (.row sz e (l.take m))⟩):G C kk s:=fun κ a w hs=>by
 have hob:=hs.obj q
 rw [h] at hob
 have hnew:κ d = .new:=by have:=hs.obj d; rwa [hd] at this
 obtain ⟨e0,b',cap',cs,T,fr,e1,e2,e3,e4,e5,e6⟩:=hob
 rw [e0] at e1
 cases e1
 have hln:l.length ≤ n:=by
  by_cases h0:l.length = 0
  ·omega
  ·have:=(e6 (l.length - 1) _ ⟨by omega,rfl⟩).1
   omega
 obtain ⟨st,inv⟩:=O3 (n':=m) (w':=w) hs.inv e0 hnew rfl rfl rfl rfl (fun _ _=>rfl)
 have hlt:(l.take m).length = m:=by rw [List.length_take]; omega
 refine hg _ a w ⟨hs.defers,hs.size,inv,hs.ctx.step inv st,fun j=>?_,fun j=>?_⟩
 ·refine freezeσ_ok r _ j (Rd.step st _ _ (hs.slot j)) (fun hj=>?_)
  have:=hs.slot j
  rw [hr j hj] at this
  simp only [Rd] at this
  simp [Rd,A1,this]
 ·show ObOK _ w j (upd (upd s.h q .non) d _ j)
  by_cases hj:j = d
  ·subst hj; rw [Bs]
   refine .inr ⟨b,cap,cs,T,fr,by rw [A1,hlt],e2,e3,e4,by omega,fun i x hx=>?_⟩
   obtain ⟨hi,rfl⟩:=hx
   obtain ⟨_,u,q2,q3⟩:=e6 i (e l[i]) ⟨by omega,rfl⟩
   refine ⟨hi,u,?_,q3⟩
   rw [List.getElem_take]
   exact RdD.keep st.keeps _ _ q2
  ·rw [Cf _ _ hj]
   by_cases hj2:j = q
   ·subst hj2; rw [Bs]; trivial
   ·rw [Cf _ _ hj2]; exact ObOK.step st (fun e=>e.elim hj2 hj) _ (hs.obj j)
theorem C1 {P:Program} (Γ:Ty P) {o:Oper} {s:SS} {t:TypeId} {ti:TI} {et:TypeId} {sz eb b n cap lo hi:Nat} {ez:List Value} {x:Operand} {lx hx:Option Operand}
  (h:o.op = .slice t x lx hx none) (ht:Γ.get t = some ti) (hk:ti.k = .slice et sz eb ez) (hxe:ev s x = .val (.slice (some ⟨b,0,none⟩) n cap)) (hlo:BoundIs s lx 0 lo) (hhi:BoundIs s hx n hi) (h1:lo ≤ hi) (h2:hi ≤ cap) :
  Good P o s ⟨.val (.slice (some (if cap = lo then ⟨b,0,none⟩ else ⟨b,lo * sz,none⟩)) (hi - lo) (cap - lo)),[],[]⟩ :=
 Good.pure fun κ a w _ hr _=>by
  have r1:=hr x (by simp [h,Op.operands])
  rw [hxe] at r1
  obtain ⟨hu,i,zv,q1,q2,q3,q4,q5⟩:=Cb Γ ht hk
  have b1:=hlo.val (a:=a) (fun y hy=>hr y (by simp [h,Op.operands,hy]))
  have b2:=hhi.val (a:=a) (fun y hy=>hr y (by simp [h,Op.operands,hy]))
  have hb:=Ha (P:=P) w (len:=n) (cap:=cap) b1 b2 h1 h2
  refine ⟨.slice (some (if cap = lo then ⟨b,0,none⟩ else ⟨b,lo * sz,none⟩)) (hi - lo) (cap - lo),?_,by simp only [Rd]⟩
  by_cases hc:cap = lo
  ·subst hc
   simp [execOp,h,r1.val,Instr.sliceAt,Instr.slice,run_underlying hu,hb,sizeOf,typeInfo,q1]
  ·simp [execOp,h,r1.val,Instr.sliceAt,Instr.slice,run_underlying hu,hb,sizeOf,typeInfo,q1,q2,hc,Addr.add_lit]
theorem Zh {P:Program} (Γ:Ty P) {o:Oper} {s:SS} {t:TypeId} {ti:TI} {et:TypeId} {sz eb b n cap lo hi mm:Nat} {ez:List Value} {x:Operand} {lx hx mx:Operand} {k1 k2 k3:IntKind}
  (h:o.op = .slice t x (some lx) (some hx) (some mx)) (ht:Γ.get t = some ti) (hk:ti.k = .slice et sz eb ez) (hxe:ev s x = .val (.slice (some ⟨b,0,none⟩) n cap)) (hlo:ev s lx = .val (.int k1 lo)) (hhi:ev s hx = .val (.int k2 hi)) (hmx:ev s mx = .val (.int k3 mm))
  (h1:lo ≤ hi) (h2:hi ≤ mm) (h3:mm ≤ cap):Good P o s ⟨.top,[],[]⟩ :=
 Good.pure fun κ a w _ hr _=>by
  have r1:=hr x (by simp [h,Op.operands])
  have r2:=hr lx (by simp [h,Op.operands])
  have r3:=hr hx (by simp [h,Op.operands])
  have r4:=hr mx (by simp [h,Op.operands])
  rw [hxe] at r1
  rw [hlo] at r2
  rw [hhi] at r3
  rw [hmx] at r4
  obtain ⟨hu,i,zv,q1,q2,q3,q4,q5⟩:=Cb Γ ht hk
  have hb:(Instr.sliceBounds true n cap (some (a.eval lx)) (some (a.eval hx)) (some (a.eval mx))).run P w = .ok (lo,hi,mm) w:=by
   rw [r2.val,r3.val,r4.val]
   simp [Instr.sliceBounds,Instr.sliceBound,asIntOf,h1,h2,h3]
  refine ⟨.slice (some (if mm = lo then ⟨b,0,none⟩ else ⟨b,lo * sz,none⟩)) (hi - lo) (mm - lo),?_,by simp only [Rd,RdD]⟩
  by_cases hc:mm = lo
  ·subst hc
   simp [execOp,h,r1.val,Instr.sliceAt,Instr.slice,run_underlying hu,hb,sizeOf,typeInfo,q1]
  ·simp [execOp,h,r1.val,Instr.sliceAt,Instr.slice,run_underlying hu,hb,sizeOf,typeInfo,q1,q2,hc,Addr.add_lit]
theorem Ms {κ:Ka} {w w':World} {k b n cap:Nat} (hi:Inv κ w) (hk:κ k = .row b n cap) (hos:w'.os = w.os) (ht:w'.tape = w.tape) (ho:w'.output = w.output)
  (hs:w'.heap.size = w.heap.size) (hb:∀ i,i ≠ b → w'.heap[i]? = w.heap[i]?):Step (fun j=>j = k) κ w κ w' ∧ Inv κ w':=by
 have hkb:(κ k).block? = some b:=by rw [hk]; rfl
 refine ⟨⟨by omega,hos,ht,ho,E,fun c hm=>hb c (fun e=>hi.apart k b hkb (e ▸ hm)),fun c _ hn=>hb c (fun e=>hn (.inl ⟨k,e ▸ hkb⟩)),fun j c hj hjc=>hb c (fun e=>hj ?_),fun _ _=>rfl,fun _ _=>.inr (.inl E),fun _ h=>.inl h⟩,
  ⟨hi.inj,fun j c h=>by rw [hs]; exact hi.bnd j c h,hi.apart,fun c h=>by rw [hs]; exact hi.mbnd c h⟩⟩
 subst e
 exact hi.inj j k _ hjc hkb
theorem Add {cs:List Value} {sz n:Nat} (h:∀ i,i < n → ∃ u:Value,u.cells.size = sz ∧ Ones u.cells.toList ∧ ∀ j,j < sz → cs[i * sz + j]? = u.cells[j]?) {p:Nat} (hp:p < n * sz) {v:Value} (hv:cs[p]? = some v):v.oneCell' = true:=by
 have h0:0 < sz:=by
  rcases Nat.eq_zero_or_pos sz with rfl | h
  ·simp at hp
  ·exact h
 obtain ⟨u,h1,h2,h3⟩:=h (p / sz) (Nat.div_lt_of_lt_mul (by rw [Nat.mul_comm]; exact hp))
 have h4:=h3 (p % sz) (Nat.mod_lt _ h0)
 rw [Nat.mul_comm,Nat.div_add_mod,hv] at h4
 obtain ⟨hl,he⟩:=Array.getElem?_eq_some_iff.1 h4.symm
 refine h2 v ?_
 rw [← he]
 exact Array.getElem_mem_toList hl
theorem We {P:Program} (Γ:Ty P) {o:Oper} {s:SS} (q:Nat) {t:TypeId} {ti:TI} {et:TypeId} {sz eb b n cap i j:Nat} {ez:List Value} {x y:Operand} {α:Type} {e:α → SV} {l:List α} {B:Option Addr} {c:Nat}
  (h:o.op = .call ⟨.builtin .append,#[x,y],#[t,t]⟩) (ht:Γ.get t = some ti) (hk:ti.k = .slice et sz eb ez) (hx:ev s x = .val (.slice (some ⟨b,0,none⟩) i cap))
  (hy:ev s y = .val (.slice B (n - j) c)) (hB:B = some (if cap = j then ⟨b,0,none⟩ else ⟨b,j * sz,none⟩)) (hob:s.h q = .pin b n cap sz e l) (hl:l.length = n) (hij:i ≤ j) (hj:j ≤ n) :
  Good P o s ⟨.val (.slice (some ⟨b,0,none⟩) (i + (n - j)) cap),[],[(q,.pin b n cap sz e (l.take i ++ l.drop j))]⟩:=by
 intro κ a w hinv hr ho N Q hN
 have r1:=hr x (by simp [h,Op.operands,Call.operands])
 have r2:=hr y (by simp [h,Op.operands,Call.operands])
 rw [hx] at r1
 rw [hy] at r2
 subst hB
 have hq:=ho q (.inr (by simp [Up.ws]))
 rw [hob] at hq
 obtain ⟨e0,b',cap',cs,T,fr,e1,e2,e3,e4,e5,e6⟩:=hq
 rw [e0] at e1
 cases e1
 obtain ⟨hu,ii,zv,q1,q2,q3,q4,q5⟩:=Cb Γ ht hk
 have hall:∀ i,i < n → ∃ u:Value,u.cells.size = sz ∧ Ones u.cells.toList ∧ ∀ j,j < sz → cs[i * sz + j]? = u.cells[j]?:=fun i hi=>by
  obtain ⟨_,u,_,u2⟩:=e6 i (e l[i]) ⟨by omega,rfl⟩
  exact ⟨u,u2⟩
 obtain ⟨news,hnews⟩:∃ news,news = (cs.drop (j * sz)).take ((n - j) * sz):=⟨_,rfl⟩
 have hmul:(n - j) * sz + j * sz = n * sz:=by rw [← Nat.add_mul]; congr 1; omega
 have hnc:n * sz ≤ cap * sz:=Nat.mul_le_mul_right sz e5
 have hijs:i * sz ≤ j * sz:=Nat.mul_le_mul_right sz hij
 have hnl:news.length = (n - j) * sz:=by rw [hnews,List.length_take,List.length_drop]; omega
 have hget:∀ p,p < (n - j) * sz → news[p]? = cs[j * sz + p]?:=fun p hp=>by
  rw [hnews,List.getElem?_take,if_pos hp,List.getElem?_drop]
 have hones:Ones news:=fun v hv=>by
  obtain ⟨p,hp,he⟩:=List.getElem_of_mem hv
  have h1:news[p]? = some v:=by rw [List.getElem?_eq_getElem hp,he]
  rw [hnl] at hp
  rw [hget p hp] at h1
  exact Add hall (by omega) h1
 obtain ⟨w',f1,f2,f3,f4,f5,f6,f7⟩:=Cm P b (i * sz) T fr news 0 cs w e2 e3 (by omega) hones
 obtain ⟨st,inv⟩:=Ms hinv e0 f3 f4 f5 f6 f7
 have hroom:i + (n - j) ≤ cap:=by omega
 have hcell:∀ p v,cs[p]? = some v → w.cell? ⟨b,p,none⟩ = some v:=fun p v hp=>by
  simp [World.cell?,e2,hp]
 have hc:(Builtin.firstCells sz (n - j) (.slice (some (if cap = j then ⟨b,0,none⟩ else ⟨b,j * sz,none⟩)) (n - j) c)).run P w = .ok news.toArray w:=by
  by_cases hcj:cap = j
  ·have h0:n - j = 0:=by omega
   rw [if_pos hcj,h0]
   have h1:news = []:=by rw [h0] at hnl; simpa using hnl
   rw [h1]
   exact run_firstCells_some (P:=P) w sz 0 ⟨b,0,none⟩ 0 c [] (by simp) (fun j v hj=>by simp at hj)
  ·rw [if_neg hcj]
   refine run_firstCells_some (P:=P) w sz (n - j) ⟨b,j * sz,none⟩ (n - j) c news hnl (fun p v hp=>?_)
   rw [Addr.add_lit]
   have hlt:p < (n - j) * sz:=by
    rw [← hnl]; exact (List.getElem?_eq_some_iff.1 hp).1
   rw [hget p hlt] at hp
   exact hcell _ _ hp
 have hrun:(execOp a.eval o).run P w = .ok (.value (.slice (some ⟨b,0,none⟩) (i + (n - j)) cap)) w':=by
  simp [execOp,h,resolve,invoke,builtin,Builtin.append_,r1.val,r2.val,run_underlying hu,sizeOf,typeInfo,q1,q2,Builtin.lenOf,hroom,hc,Addr.add_lit,f1]
 simp only [Oper.wp,hrun,Oper.upon]
 refine hN _ κ w' (st.weaken (fun k hk=>by subst hk; simp [Up.ws])) inv (by simp only [Rd]) (fun p hp=>?_)
 simp only [List.mem_singleton] at hp
 subst hp
 refine ⟨e0,b,cap,_,T,fr,e0,f2,by rw [Bz]; exact e3,by rw [Bz]; exact e4,e5,?_⟩
 rintro k z ⟨hk0,rfl⟩
 have hset:=Js cs news (i * sz + 0)
 have hlen:(l.take i ++ l.drop j).length = i + (n - j):=by rw [List.length_append,List.length_take,List.length_drop]; omega
 rw [hlen] at hk0
 by_cases hki:k < i
 ·obtain ⟨_,u,u1,u2,u3,u4⟩:=e6 k (e l[k]) ⟨by omega,rfl⟩
  have:(k + 1) * sz ≤ i * sz:=Nat.mul_le_mul_right sz (by omega)
  rw [Nat.add_mul,Nat.one_mul] at this
  refine ⟨by omega,u,?_,u2,u3,fun p hp=>?_⟩
  ·rw [List.getElem_append_left (by rw [List.length_take]; omega),List.getElem_take]
   exact RdD.keep st.keeps _ _ u1
  ·rw [hset _ (by omega),if_neg (by omega),u4 p hp]
 ·obtain ⟨_,u,u1,u2,u3,u4⟩:=e6 (j + (k - i)) (e l[j + (k - i)]) ⟨by omega,rfl⟩
  have hks:k * sz = i * sz + (k - i) * sz:=by rw [← Nat.add_mul]; congr 1; omega
  have hjs:(j + (k - i)) * sz = j * sz + (k - i) * sz:=by rw [← Nat.add_mul]
  have:(k - i + 1) * sz ≤ (n - j) * sz:=Nat.mul_le_mul_right sz (by omega)
  rw [Nat.add_mul,Nat.one_mul] at this
  refine ⟨by omega,u,?_,u2,u3,fun p hp=>?_⟩
  ·rw [List.getElem_append_right (by rw [List.length_take]; omega),List.getElem_drop]
   have hidx:j + (k - (l.take i).length) = j + (k - i):=by rw [List.length_take]; omega
   simp only [hidx]
   exact RdD.keep st.keeps _ _ u1
  ·rw [hset _ (by omega),if_pos (by omega),← u4 p hp,hjs]
   rw [show k * sz + p - (i * sz + 0) = (k - i) * sz + p by omega,hget _ (by omega)]
   congr 1
   omega
theorem J9 {P:Program} (Γ:Ty P) {o:Oper} {s:SS} (q:Nat) {t:TypeId} {ti:TI} {et:TypeId} {sz eb b n cap k m c:Nat} {ez:List Value} {x:Operand} {α:Type} {e:α → SV} {l:List α} {B:Option Addr}
  (h:o.op = .call ⟨.builtin .clear,#[x],#[t]⟩) (ht:Γ.get t = some ti) (hk:ti.k = .slice et sz eb ez) (hez:ez.length = sz) (hz1:∀ v ∈ ez,v.oneCell' = true) (hx:ev s x = .val (.slice B m c)) (hB:B = some (if cap = k then ⟨b,0,none⟩ else ⟨b,k * sz,none⟩))
  (hob:s.h q = .pin b n cap sz e l) (hkl:k ≤ l.length) (hm:k + m ≤ cap) :
  Good P o s ⟨.tup [],[],[(q,.pin b n cap sz e (l.take k))]⟩:=by
 intro κ a w hinv hr ho N Q hN
 have r1:=hr x (by simp [h,Op.operands,Call.operands])
 rw [hx] at r1
 subst hB
 have hq:=ho q (.inr (by simp [Up.ws]))
 rw [hob] at hq
 obtain ⟨e0,b',cap',cs,T,fr,e1,e2,e3,e4,e5,e6⟩:=hq
 rw [e0] at e1
 cases e1
 obtain ⟨hu,ii,zv,q1,q2,q3,q4,q5⟩:=Cb Γ ht hk
 have hzs:zv.cells.size = sz:=by rw [← hez,← q5]; simp
 have hlt:(l.take k).length = k:=by rw [List.length_take]; omega
 by_cases hm0:m = 0
 ·subst hm0
  have hrun:(execOp a.eval o).run P w = .ok (.value (.tuple #[])) w:=by
   simp [execOp,h,resolve,invoke,builtin,Builtin.clear_,r1.val,run_underlying hu]
  simp only [Oper.wp,hrun,Oper.upon]
  refine hN _ κ w (Step.refl _ κ w) hinv (by simp [Rd,RdL]) (fun p hp=>?_)
  simp only [List.mem_singleton] at hp
  subst hp
  refine ⟨e0,b,cap,cs,T,fr,e0,e2,e3,e4,e5,?_⟩
  rintro p z ⟨hp0,rfl⟩
  rw [List.getElem_take]
  exact e6 p (e l[p]) ⟨by omega,E⟩
 obtain ⟨m,rfl⟩:∃ p,m = p + 1:=⟨m - 1,by omega⟩
 rw [if_neg (by omega)] at r1
 obtain ⟨news,hnews⟩:∃ news,news = (Builtin.zeroCells zv.cells (m + 1)).toList:=⟨_,rfl⟩
 have hnl:news.length = (m + 1) * sz:=by rw [hnews,Array.length_toList,Qx,hzs]
 have hones:Ones news:=fun v hv=>by
  rw [hnews,Array.mem_toList_iff] at hv
  refine hz1 v ?_
  rw [← q5]
  simp only [Builtin.zeroCells,Array.mem_map,Array.mem_range] at hv
  obtain ⟨p,hp,rfl⟩:=hv
  have h0:0 < zv.cells.size:=by
   rcases Nat.eq_zero_or_pos zv.cells.size with h | h
   ·rw [h] at hp; simp at hp
   ·exact h
  have hlt2:p % zv.cells.size < zv.cells.size:=Nat.mod_lt _ h0
  rw [getElem!_pos zv.cells _ hlt2]
  exact Array.getElem_mem_toList hlt2
 have hmul:k * sz + (m + 1) * sz ≤ cap * sz:=by rw [← Nat.add_mul]; exact Nat.mul_le_mul_right sz hm
 obtain ⟨w',f1,f2,f3,f4,f5,f6,f7⟩:=Cm P b (k * sz) T fr news 0 cs w e2 e3 (by omega) hones
 obtain ⟨st,inv⟩:=Ms hinv e0 f3 f4 f5 f6 f7
 have hrun:(execOp a.eval o).run P w = .ok (.value (.tuple #[])) w':=by
  simp [execOp,h,resolve,invoke,builtin,Builtin.clear_,r1.val,run_underlying hu,zeroValue,typeInfo,q1,q4,← hnews,f1]
 simp only [Oper.wp,hrun,Oper.upon]
 refine hN _ κ w' (st.weaken (fun k hk=>by subst hk; simp [Up.ws])) inv (by simp [Rd,RdL]) (fun p hp=>?_)
 simp only [List.mem_singleton] at hp
 subst hp
 refine ⟨e0,b,cap,_,T,fr,e0,f2,by rw [Bz]; exact e3,by rw [Bz]; exact e4,e5,?_⟩
 rintro p z ⟨hp0,rfl⟩
 have hset:=Js cs news (k * sz + 0)
 obtain ⟨h0,u,u1,u2,u3,u4⟩:=e6 p (e l[p]) ⟨by omega,rfl⟩
 have:(p + 1) * sz ≤ k * sz:=Nat.mul_le_mul_right sz (by omega)
 rw [Nat.add_mul,Nat.one_mul] at this
 refine ⟨h0,u,?_,u2,u3,fun j hj=>?_⟩
 ·rw [List.getElem_take]
  exact RdD.keep st.keeps _ _ u1
 ·have hcl:k * sz ≤ cs.length:=by omega
  rw [hset _ (by omega),if_neg (by omega),u4 j hj]
theorem G_dat {C:Cx} {kk:List KI} {s:SS} (i q:Nat) {sz:Nat} {α:Type} {e:α → SV} {l:List α} (h:s.σ i = .sl sz e l) (hl:l ≠ [])
  (hg:∀ b off cap,l.length ≤ cap → G C kk ⟨upd s.σ i (.val (.slice (some ⟨b,off,none⟩) l.length cap)),upd s.h q (.dat (.slice (some ⟨b,off,none⟩) l.length cap) sz e l)⟩):G C kk s:=fun κ a w hs=>by
 have h1:=hs.slot i
 rw [h] at h1
 have h1':=h1
 simp only [Rd,RdD] at h1
 rcases h1 with ⟨h2,_⟩ | ⟨b,off,cap,h2,h3,_⟩
 ·exact absurd h2 hl
 ·refine hg b off cap h3 κ a w ⟨hs.defers,hs.size,hs.inv,hs.ctx,fun j=>?_,fun j=>?_⟩
  ·show Rd κ w (upd s.σ i (.val (.slice (some ⟨b,off,none⟩) l.length cap)) j) _
   by_cases hj:j = i
   ·subst hj; rw [Bs]; simp only [Rd]; exact h2
   ·rw [Cf _ _ hj]; exact hs.slot j
  ·show ObOK κ w j (upd s.h q (.dat (.slice (some ⟨b,off,none⟩) l.length cap) sz e l) j)
   by_cases hj:j = q
   ·subst hj; rw [Bs]; rw [h2] at h1'; exact h1'
   ·rw [Cf _ _ hj]; exact hs.obj j
theorem Zi {P:Program} (Γ:Ty P) {o:Oper} {s:SS} {t:TypeId} {ti:TI} {et:TypeId} {sz eb b off n cap hi:Nat} {ez:List Value} {x hx mx:Operand} {k2 k3:IntKind}
  (h:o.op = .slice t x none (some hx) (some mx)) (ht:Γ.get t = some ti) (hk:ti.k = .slice et sz eb ez) (hxe:ev s x = .val (.slice (some ⟨b,off,none⟩) n cap)) (hhi:ev s hx = .val (.int k2 hi)) (hmx:ev s mx = .val (.int k3 hi))
  (h3:hi ≤ cap):Good P o s ⟨.val (.slice (some ⟨b,off,none⟩) hi hi),[],[]⟩ :=
 Good.pure fun κ a w _ hr _=>by
  have r1:=hr x (by simp [h,Op.operands])
  have r3:=hr hx (by simp [h,Op.operands])
  have r4:=hr mx (by simp [h,Op.operands])
  rw [hxe] at r1
  rw [hhi] at r3
  rw [hmx] at r4
  obtain ⟨hu,i,zv,q1,q2,q3,q4,q5⟩:=Cb Γ ht hk
  have hb:(Instr.sliceBounds true n cap none (some (a.eval hx)) (some (a.eval mx))).run P w = .ok (0,hi,hi) w:=by
   rw [r3.val,r4.val]
   simp [Instr.sliceBounds,Instr.sliceBound,asIntOf,h3]
  refine ⟨.slice (some ⟨b,off,none⟩) hi hi,?_,by simp only [Rd]⟩
  by_cases hc:hi = 0
  ·subst hc
   simp [execOp,h,r1.val,Instr.sliceAt,Instr.slice,run_underlying hu,hb,sizeOf,typeInfo,q1]
  ·simp [execOp,h,r1.val,Instr.sliceAt,Instr.slice,run_underlying hu,hb,sizeOf,typeInfo,q1,q2,hc,Addr.add_lit]
theorem Zn {P:Program} (Γ:Ty P) {o:Oper} {s:SS} (q:Nat) {t:TypeId} {ti:TI} {et:TypeId} {sz eb b off n cap:Nat} {ez:List Value} {x y:Operand} {α:Type} {e:α → SV} {l l':List α}
  (h:o.op = .call ⟨.builtin .append,#[x,y],#[t,t]⟩) (ht:Γ.get t = some ti) (hk:ti.k = .slice et sz eb ez) (hez:ez.length = sz) (hx:ev s x = .val (.slice (some ⟨b,off,none⟩) n n))
  (hq:s.h q = .dat (.slice (some ⟨b,off,none⟩) l.length cap) sz e l) (hn:n ≤ l.length) (hy:ev s y = .sl sz e l') (hbytes:(n + l'.length) * eb ≤ 140737488355328) (h63:n + l'.length ≤ 9223372036854775807) :
  Good P o s ⟨.sl sz e (l.take n ++ l'),[q],[]⟩:=by
 intro κ a w hinv hr ho N Q hN
 have r1:=hr x (by simp [h,Op.operands,Call.operands])
 have r2:=hr y (by simp [h,Op.operands,Call.operands])
 rw [hx] at r1
 rw [hy] at r2
 have hq1:=ho q (.inl (by simp))
 rw [hq] at hq1
 have hq1:Rd κ w (.sl sz e l) (.slice (some ⟨b,off,none⟩) l.length cap):=hq1
 obtain ⟨hu,ii,zv,q1,q2,q3,q4,q5⟩:=Cb Γ ht hk
 have hzs:zv.cells.size = sz:=by rw [← hez,← q5]; simp
 have htl:(l.take n).length = n:=by rw [List.length_take]; omega
 have hbase:Rd κ w (.sl sz e (l.take n)) (.slice (some ⟨b,off,none⟩) n n):=by
  simp only [Rd,RdD] at hq1 ⊢
  rcases hq1 with ⟨h0,_⟩ | ⟨b2,off2,cap2,h2,h3,h4,h5,h6⟩
  ·have hn0:n = 0:=by rw [h0] at hn; simpa using hn
   subst hn0
   exact .inl ⟨by simp,_,_,E⟩
  ·cases h2
   refine .inr ⟨b,off,n,by rw [htl],by rw [htl]; exact Nat.le_refl _,h4,h5,fun i hi=>?_⟩
   obtain ⟨u,h7,h8⟩:=h6 i (by omega)
   exact ⟨u,by rw [List.getElem_take]; exact h7,h8⟩
 have hrb:=hbase.src
 have hru:=r2.src
 rw [htl] at hrb
 obtain ⟨m,hm⟩:∃ m,l'.length = m:=⟨_,rfl⟩
 rw [hm] at hru hbytes h63
 generalize hve:a.eval y = u at *
 obtain ⟨ad,c,news,hu2,hnl,hn1,hnc,hng⟩:∃ (a:Option Addr) (c:Nat) (news:List Value),u = .slice a m c ∧ news.length = m * sz ∧ Ones news ∧ (∀ W:World,(∀ p:Addr,p.block < w.heap.size → W.cell? p = w.cell? p) → (Builtin.firstCells sz m u).run P W = .ok news.toArray W) ∧
   (∀ j x,rowF e l' j x → j < m ∧ ∃ q:Value,RdD (Own κ) w x q ∧ q.cells.size = sz ∧ Ones q.cells.toList ∧ ∀ l,l < sz → news[j * sz + l]? = q.cells[l]?):=by
  rcases hru with ⟨rfl,hno,a,c,rfl⟩ | ⟨b,o,c,news,rfl,h1,h2,h3,h4⟩
  ·refine ⟨a,c,[],E,by simp,by simp [Ones],fun W _=>?_,fun j x h=>absurd h (hno j x)⟩
   cases a <;> simp [Builtin.firstCells,loadCells,loadCellsFrom]
  ·refine ⟨some ⟨b,o,none⟩,c,news,E,h1,h2,fun W hW=>?_,fun j x hx=>h4 j x hx⟩
   exact run_firstCells_some (P:=P) W sz m ⟨b,o,none⟩ m c news h1 (fun j q hj=>by
    rw [Addr.add_lit]
    have h5:=h3 j q hj
    rw [hW _ (by exact World.block_lt_of_cell? w _ h5),h5])
 subst hu2
 by_cases hm0:m = 0
 ·subst hm0
  have hl':l' = []:=List.eq_nil_of_length_eq_zero hm
  subst hl'
  have hc:=hnc w (fun _ _=>rfl)
  have hnn:news = []:=by simpa using hnl
  subst hnn
  have hrun:(execOp a.eval o).run P w = .ok (.value (.slice (some ⟨b,off,none⟩) n n)) w:=by
   simp [execOp,h,resolve,invoke,builtin,Builtin.append_,r1.val,hve,run_underlying hu,sizeOf,typeInfo,q1,q2,Builtin.lenOf,hc,storeCells]
  simp only [Oper.wp,hrun,Oper.upon]
  refine hN _ κ w (Step.refl _ κ w) hinv ?_ (fun p hp=>by cases hp)
  rw [List.append_nil]
  exact hbase
 obtain ⟨olds,hol,hof,hfo⟩:∃ olds:List Value,olds.length = n * sz ∧ (∀ j x,rowF e (l.take n) j x → j < n → ∃ q:Value,RdD (Own κ) w x q ∧ q.cells.size = sz ∧ Ones q.cells.toList ∧ ∀ l,l < sz → olds[j * sz + l]? = q.cells[l]?) ∧
   (Builtin.firstCells sz n (.slice (some ⟨b,off,none⟩) n n)).run P w.drew = .ok olds.toArray w.drew:=by
  rcases hrb with ⟨rfl,hno,_⟩ | ⟨b2,o2,c2,olds,he,g1,g2,g3,g4⟩
  ·exact ⟨[],by simp,fun j x _ hj=>absurd hj (by omega),run_firstCells_some (P:=P) w.drew sz 0 ⟨b,off,none⟩ 0 0 [] (by simp) (fun j v hj=>by simp at hj)⟩
  ·cases he
   exact ⟨olds,g1,fun j x hx _=>(g4 j x hx).2,run_firstCells_some (P:=P) w.drew sz n ⟨b,off,none⟩ n n olds g1 (fun j v hj=>by
    have:=g3 j v hj
    rw [Addr.add_lit]; simpa using this)⟩
 have hcap:n + m ≤ grownCap w (n + m) n et:=grownCap_ge w (n + m) n et
 have h48:¬ (281474976710656 < Builtin.nextslicecap (n + m) n * ii.bytes):=by
  have:=growslice_fits (need:=n + m) (old:=n) (bytes:=ii.bytes) (by omega) (by rw [q3]; exact hbytes)
  omega
 have h63':¬ (9223372036854775807 < (n:Int) + (m:Int)):=by omega
 have hroom:¬ n + m ≤ n:=by omega
 have hc:=hnc w.drew (fun _ _=>rfl)
 obtain ⟨w',hw'⟩:∃ w',w.drew.alloc (.cells (olds.toArray ++ news.toArray ++ Builtin.zeroCells zv.cells (grownCap w (n + m) n et - (n + m))) et) = w':=⟨_,rfl⟩
 have hrun:(execOp a.eval o).run P w = .ok (.value (.slice (some ⟨w.heap.size,0,none⟩) (n + m) (grownCap w (n + m) n et))) w':=by
  rw [← hw']
  simp [execOp,h,resolve,invoke,builtin,Builtin.append_,r1.val,hve,run_underlying hu,sizeOf,typeInfo,zeroValue,q4,q1,q2,Builtin.lenOf,hm0,h63',h48,Question.forced,hfo,hc,newRow,grownCap]
  rw [if_neg hroom]
  have ea:∀ Z:Array Value,olds.toArray ++ (news.toArray ++ Z) = (olds ++ news).toArray ++ Z:=fun Z=>by apply Array.ext'; simp
  rw [ea]
 have g0:Grew w w':=by rw [← hw']; exact (Grew.drew w).trans (Grew.alloc _ _)
 obtain ⟨st,inv⟩:=Ajo hinv g0
 have hblk:w'.heap[w.heap.size]? = some (.cells (olds ++ news ++ (Builtin.zeroCells zv.cells (grownCap w (n + m) n et - (n + m))).toList).toArray et):=by
  rw [← hw']
  have:(w.drew.alloc (.cells (olds.toArray ++ news.toArray ++ Builtin.zeroCells zv.cells (grownCap w (n + m) n et - (n + m))) et)).heap[w.heap.size]? = some (.cells (olds.toArray ++ news.toArray ++ Builtin.zeroCells zv.cells (grownCap w (n + m) n et - (n + m))) et):=heap_alloc_new w.drew _
  rw [this]
  congr 2
  apply Array.ext'
  simp
 have hsz:w.heap.size < w'.heap.size:=by rw [← hw']; simp
 simp only [Oper.wp,hrun,Oper.upon]
 refine hN _ κ w' (st.weaken (fun _ h=>h.elim)) inv ?_ (fun p hp=>by cases hp)
 simp only [Rd,RdD]
 have hlen:(l.take n ++ l').length = n + m:=by rw [List.length_append,htl,hm]
 refine .inr ⟨w.heap.size,0,grownCap w (n + m) n et,by rw [hlen],by rw [hlen]; exact hcap,?_,hsz,fun j hj=>?_⟩
 ·rintro (⟨k,hk⟩ | hk)
  ·exact Nat.lt_irrefl _ (hinv.bnd k _ hk)
  ·exact Nat.lt_irrefl _ (hinv.mbnd _ hk)
 ·rw [hlen] at hj
  by_cases hjn:j < n
  ·obtain ⟨qv,g1,g2,g3,g4⟩:=hof j (e (l.take n)[j]) ⟨by omega,rfl⟩ hjn
   refine ⟨qv,by rw [List.getElem_append_left (by omega)]; exact RdD.keep st.keeps _ _ g1,g2,g3,fun p hp=>?_⟩
   have:(j + 1) * sz ≤ n * sz:=Nat.mul_le_mul_right sz (by omega)
   rw [Nat.add_mul,Nat.one_mul] at this
   rw [cell_of_row w' _ _ _ et (0,0) hblk,List.getElem?_toArray,List.append_assoc,List.getElem?_append_left (by omega),Nat.zero_add]
   exact g4 p hp
  ·obtain ⟨_,qv,g1,g2,g3,g4⟩:=hng (j - n) (e (l'[j - n]'(by omega))) ⟨by omega,rfl⟩
   refine ⟨qv,?_,g2,g3,fun p hp=>?_⟩
   ·rw [List.getElem_append_right (by omega)]
    simp only [htl]
    exact RdD.keep st.keeps _ _ g1
   ·have e1:j * sz = n * sz + (j - n) * sz:=by rw [← Nat.add_mul]; congr 1; omega
    have:(j - n + 1) * sz ≤ m * sz:=Nat.mul_le_mul_right sz (by omega)
    rw [Nat.add_mul,Nat.one_mul] at this
    rw [cell_of_row w' _ _ _ et (0,0) hblk,List.getElem?_toArray,List.append_assoc,List.getElem?_append_right (by omega),List.getElem?_append_left (by omega),← g4 p hp]
    congr 1
    omega
theorem Vz {P:Program} {o:Oper} {s:SS} (q:Nat) {sz:Nat} {α:Type} {e:α → SV} {l:List α} {v:Value} {x:Operand} (h:o.op = .move x ∨ o.op = .assign x) (hx:ev s x = .val v) (hq:s.h q = .dat v sz e l):Good P o s ⟨.sl sz e l,[q],[]⟩ :=
 Good.pure fun κ a w _ hr ho=>by
  have hq1:=ho q (by simp)
  rw [hq] at hq1
  have hr1:=hr x (by rcases h with h | h <;> simp [h,Op.operands])
  rw [hx] at hr1
  refine ⟨a.eval x,?_,?_⟩
  ·rcases h with h | h <;> simp [execOp,h]
  ·rw [hr1.val]; exact hq1
theorem Yn {f g:Nat → Option (Nat × Nat)}:∀ (ps:List (Nat × Value)) (cs:Array Value),(∀ p ∈ ps,f p.1 = g p.1) → Instr.fill f cs ps = Instr.fill g cs ps
 | [],cs,_=>rfl
 | (i,v) :: ps,cs,h=>by
  have h1:=h (i,v) (by simp)
  simp only [Instr.fill]
  dsimp only at h1
  rw [h1]
  cases g i with
  | none=>rfl
  | some os =>
   dsimp only
   split
   ·rfl
   ·exact Yn ps _ (fun p hp=>h p (by simp [hp]))
theorem Aeo {P:Program} (Γ:Ty P) {o:Oper} {s:SS} {t et:TypeId} {ti:TI} {len esz:Nat} {ps:List (Nat × Operand)} {out:List SV} (h:o.op = .build t ps.toArray) (ht:Γ.get t = some ti) (hk:ti.k = .array et len esz)
  (h1:Vr ti.zero = true) (hps:(ps.all fun p=>Nat.blt p.1 len) = true) (hf:Yo ((List.range len).map fun i=>(i * esz,esz)) (ti.zero.map .val) (ps.map fun p=>(p.1,ev s p.2)) = some out):Good P o s ⟨.agg out,[],[]⟩ :=
 Good.pure fun κ a w _ hr _=>by
  obtain ⟨d,info,z,k1,k2,k3,k4,k5,k6⟩:=Γ.ok t ti ht
  obtain ⟨hu,i,q1,q2⟩:=Ov Γ ht hk
  have hops:∀ p ∈ ps,Rd κ w (ev s p.2) (a.eval p.2):=fun p hp=>hr p.2 (by
   simp only [h,Op.operands]
   simp only [List.mem_toArray,List.mem_map]
   exact ⟨p,hp,E⟩)
  obtain ⟨r,r1,r2,r3⟩:=Ab7 (κ:=κ) (w:=w) (a:=a) ps _ out z.cells (by rw [k6]; exact Ui _) (by rw [k6]; exact M7 h1) hops hf
  refine ⟨.agg r,?_,?_⟩
  ·have hcg:=Yn (f:=fun i=>some (i * esz,esz)) (g:=fun i=>((List.range len).map fun i=>(i * esz,esz))[i]?) (ps.map fun p=>(p.1,a.eval p.2)) z.cells (fun p hp=>by
    obtain ⟨x,hx,rfl⟩:=List.mem_map.1 hp
    have hlt:x.1 < len:=Nat.le_of_ble_eq_true (List.all_eq_true.1 hps x hx)
    dsimp only
    rw [List.getElem?_map,List.getElem?_range hlt]
    rfl)
   simp only [execOp,h,Sem.run_bind,Instr.build,zeroValue,typeInfo,run_program,Result.andThen_ok,k3,k5,Sem.run_pure,run_underlying hu,sizeOf,q1,q2,List.map_toArray]
   rw [hcg,r1]
   simp
  ·simp only [Rd]
   exact ⟨r.toList,by simp,r3,r2⟩
mutual
def rnb (k d:Nat):SV → SV
 | .ptr j o=>bif Nat.beq j k then .ptr d o else .ptr j o
 | .agg l=>.agg (Xf k d l)
 | .tup l=>.tup (Xf k d l)
 | .ifc t y=>.ifc t (rnb k d y)
 | .clo f g l=>.clo f (Xf k d g) (Xf k d l)
 | y=>y
def Xf (k d:Nat):List SV → List SV
 | []=>[]
 | y :: l=>rnb k d y :: Xf k d l
end
mutual
theorem Afy {κ κ':Ka} {w:World} {K:Nat → Prop} {k d:Nat} (st:Step K κ w κ' w) (hx:∀ o v,Rd κ w (.ptr k o) v → Rd κ' w (.ptr d o) v):∀ (y:SV) (v:Value),Rd κ w y v → Rd κ' w (rnb k d y) v
 | .ptr j o,v,h=>by
  unfold rnb
  by_cases hk:j = k
  ·subst hk; rw [show Nat.beq j j = true from Nat.beq_refl j]; exact hx o v h
  ·rw [show Nat.beq j k = false from by cases hb:Nat.beq j k with | false=>rfl | true=>exact absurd (Nat.eq_of_beq_eq_true hb) hk]; exact Rd.step st _ _ h
 | .agg l,v,h=>by
  simp only [Rd] at h
  unfold rnb
  simp only [Rd]
  obtain ⟨cs,h1,h2,h3⟩:=h
  exact ⟨cs,h1,h2,Ly st hx l cs h3⟩
 | .tup l,v,h=>by
  simp only [Rd] at h
  unfold rnb
  simp only [Rd]
  obtain ⟨cs,h1,h3⟩:=h
  exact ⟨cs,h1,Ly st hx l cs h3⟩
 | .ifc t y,v,h=>by
  simp only [Rd] at h
  unfold rnb
  simp only [Rd]
  obtain ⟨u,h1,h3⟩:=h
  exact ⟨u,h1,Afy st hx y u h3⟩
 | .clo f g l,v,h=>by
  simp only [Rd] at h
  unfold rnb
  simp only [Rd]
  obtain ⟨fs,cs,h1,h2,h3⟩:=h
  exact ⟨fs,cs,h1,Ly st hx g fs h2,Ly st hx l cs h3⟩
 | .top,v,h=>by unfold rnb; exact Rd.step st _ _ h
 | .val u,v,h=>by unfold rnb; exact Rd.step st _ _ h
 | .sl sz e l,v,h=>by unfold rnb; exact Rd.step st _ _ h
 | .ref sz z o,v,h=>by unfold rnb; exact Rd.step st _ _ h
 | .rpt k sz i o,v,h=>by unfold rnb; exact Rd.step st _ _ h
 | .osl k,v,h=>by unfold rnb; exact Rd.step st _ _ h
theorem Ly {κ κ':Ka} {w:World} {K:Nat → Prop} {k d:Nat} (st:Step K κ w κ' w) (hx:∀ o v,Rd κ w (.ptr k o) v → Rd κ' w (.ptr d o) v):∀ (l:List SV) (vs:List Value),RdL κ w l vs → RdL κ' w (Xf k d l) vs
 | [],vs,h=>by
  unfold Xf
  simpa [RdL] using h
 | y :: l,vs,h=>by
  simp only [RdL] at h
  unfold Xf
  simp only [RdL]
  obtain ⟨v,r,h1,h2,h3⟩:=h
  exact ⟨v,r,h1,Afy st hx y v h2,Ly st hx l r h3⟩
end
def rnbO (k d:Nat):Ob → Ob
 | .box l=>.box (Xf k d l)
 | o=>o
theorem Afp {κ:Ka} {w:World} {k d b:Nat} (hi:Inv κ w) (hk:κ k = .blk b) (hd:κ d = .new) :
  Step (fun j=>j = k ∨ j = d) κ w (C4 (C4 κ k .dead) d (.blk b)) w ∧ Inv (C4 (C4 κ k .dead) d (.blk b)) w:=by
 have hkd:k ≠ d:=fun e=>by subst e; rw [hk] at hd; cases hd
 have hkb:(κ k).block? = some b:=by rw [hk]; rfl
 have key:∀ j c,((C4 (C4 κ k .dead) d (.blk b)) j).block? = some c → (j = d ∧ c = b) ∨ (j ≠ d ∧ j ≠ k ∧ (κ j).block? = some c):=by
  intro j c h
  by_cases hj:j = d
  ·subst hj; rw [A1] at h; exact .inl ⟨rfl,by simpa [Ent.block?] using h.symm⟩
  ·rw [B9 _ _ hj] at h
   by_cases hj2:j = k
   ·subst hj2; rw [A1] at h; cases h
   ·rw [B9 _ _ hj2] at h; exact .inr ⟨hj,hj2,h⟩
 refine ⟨⟨Nat.le_refl _,E,E,E,E,fun _ _=>rfl,fun _ _ _=>rfl,fun _ _ _ _=>rfl,fun j hj=>?_,?_,?_⟩,⟨?_,?_,?_,fun c h=>hi.mbnd c h⟩⟩
 ·rw [B9 _ _ (fun e=>hj (.inr e)),B9 _ _ (fun e=>hj (.inl e))]
 ·rintro j (rfl | rfl)
  ·exact .inr (.inr (by rw [B9 _ _ hkd,A1]))
  ·exact .inl hd
 ·rintro c (⟨j,hj⟩ | hj)
  ·rcases key j c hj with ⟨_,rfl⟩ | ⟨_,_,h⟩
   ·exact .inl (.inl ⟨k,hkb⟩)
   ·exact .inl (.inl ⟨j,h⟩)
  ·exact .inl (.inr hj)
 ·intro i j c h1 h2
  rcases key i c h1 with ⟨a1,a2⟩ | ⟨a1,a2,a3⟩ <;> rcases key j c h2 with ⟨b1,b2⟩ | ⟨b1,b2,b3⟩
  ·exact a1.trans b1.symm
  ·subst a2; exact absurd (hi.inj j k _ b3 hkb) b2
  ·subst b2; exact absurd (hi.inj i k _ a3 hkb) a2
  ·exact hi.inj i j c a3 b3
 ·intro j c h
  rcases key j c h with ⟨_,rfl⟩ | ⟨_,_,h⟩
  ·exact hi.bnd k _ hkb
  ·exact hi.bnd j c h
 ·intro j c h
  rcases key j c h with ⟨_,rfl⟩ | ⟨_,_,h⟩
  ·exact hi.apart k _ hkb
  ·exact hi.apart j c h
theorem Jq {C:Cx} {kk:List KI} {s:SS} (k d:Nat) {l:List SV} (h:s.h k = .box l) (hd:s.h d = .fresh) (hkd:k ≠ d)
  (hg:G C kk ⟨fun i=>rnb k d (s.σ i),upd (fun j=>bif Nat.beq j k then .non else rnbO k d (s.h j)) d (.box (Xf k d l))⟩):G C kk s:=fun κ a w hs=>by
 have hob:=hs.obj k
 rw [h] at hob
 have hnew:κ d = .new:=by have:=hs.obj d; rwa [hd] at this
 obtain ⟨b,cs,T,fr,e1,e2,e3,e4,e5⟩:=hob
 obtain ⟨st,inv⟩:=Afp hs.inv e1 hnew
 have hne:∀ j,j ≠ k → j ≠ d → (C4 (C4 κ k .dead) d (.blk b)) j = κ j:=fun j h1 h2=>by rw [B9 _ _ h2,B9 _ _ h1]
 have hv:∀ o v,Rd κ w (.ptr k o) v → Rd (C4 (C4 κ k .dead) d (.blk b)) w (.ptr d o) v:=fun o v hv=>by
  simp only [Rd,e1] at hv
  simp only [Rd,A1]
  exact hv
 refine hg _ a w ⟨hs.defers,hs.size,inv,hs.ctx.step inv st,fun j=>Afy st hv _ _ (hs.slot j),fun j=>?_⟩
 show ObOK _ w j (upd (fun j=>bif Nat.beq j k then .non else rnbO k d (s.h j)) d (.box (Xf k d l)) j)
 by_cases hj:j = d
 ·subst hj
  rw [Bs]
  exact ⟨b,cs,T,fr,A1 _ _ _,e2,e3,e4,Ly st hv l cs e5⟩
 ·rw [Cf _ _ hj]
  by_cases hj2:j = k
  ·subst hj2; rw [show Nat.beq j j = true from Nat.beq_refl j]; trivial
  ·rw [show Nat.beq j k = false from by cases hb:Nat.beq j k with | false=>rfl | true=>exact absurd (Nat.eq_of_beq_eq_true hb) hj2]
   have hb:=ObOK.step st (fun e=>e.elim hj2 hj) _ (hs.obj j)
   have h0:=hs.obj j
   show ObOK _ w j (rnbO k d (s.h j))
   cases hh:s.h j with
   | box m =>
    rw [hh] at h0 hb
    obtain ⟨b2,cs2,T2,fr2,f1,f2,f3,f4,f5⟩:=h0
    exact ⟨b2,cs2,T2,fr2,(hne j hj2 hj).trans f1,f2,f3,f4,Ly st hv m cs2 f5⟩
   | fresh=>rw [hh] at hb; exact hb
   | non=>rw [hh] at hb; exact hb
   | row sz' e' l'=>rw [hh] at hb; exact hb
   | lit sz' svs=>rw [hh] at hb; exact hb
   | glob sz' x' g'=>rw [hh] at hb; exact hb
   | pin b' n' cap' sz' e' l'=>rw [hh] at hb; exact hb
   | dat v' sz' e' l'=>rw [hh] at hb; exact hb
theorem VwL.get {s:SS} {V:List Nat}:∀ {l m:List SV} (_:VwL s V l m) {i:Nat} {y:SV},D9 m i = some y → ∃ x,D9 l i = some x ∧ Vw s V x y
 | _,_,.nil,i,y,h=>by cases i <;> simp [D9] at h
 | _,_,.cons (x:=x) h0 hs,0,y,h=>by
  simp only [D9,Option.some.injEq] at h
  subst h
  exact ⟨x,E,h0⟩
 | _,_,.cons h0 hs,i + 1,y,h=>VwL.get hs (i:=i) h
theorem VwL.len {s:SS} {V:List Nat}:∀ {l m:List SV} (_:VwL s V l m),m.length = l.length
 | _,_,.nil=>rfl
 | _,_,.cons _ hs=>by simp [VwL.len hs]
theorem Aaq:∀ {l:List SV} {i:Nat} {x:SV},Lo l = true → D9 l i = some x → x.data = true
 | [],i,x,_,h=>by cases i <;> simp [D9] at h
 | y :: l,0,x,hd,h=>by
  simp only [D9,Option.some.injEq] at h
  subst h
  simp only [Lo,Bool.and_eq_true] at hd
  exact hd.1
 | y :: l,i + 1,x,hd,h=>by
  simp only [Lo,Bool.and_eq_true] at hd
  exact Aaq hd.2 (i:=i) h
theorem Oz {C:Cx} {k:List KI} {s:SS} (d:Nat) {sz:Nat} {svs:List SV} (svs':List SV) (h:s.h d = .lit sz svs) (hv:VwL s [] svs svs') (hd:Lo svs' = true) (hg:G C k ⟨s.σ,upd s.h d (.lit sz svs')⟩):G C k s:=fun κ a w hs=>by
 refine hg κ a w ⟨hs.defers,hs.size,hs.inv,hs.ctx,hs.slot,fun j=>?_⟩
 show ObOK κ w j (upd s.h d (.lit sz svs') j)
 by_cases hj:j = d
 ·subst hj
  rw [Bs]
  have hob:=hs.obj j
  rw [h] at hob
  have hlen:=hv.len
  obtain ⟨b,cap,cs,T,fr,e1,e2,e3,e4,e5,e6⟩:=hob
  refine ⟨b,cap,cs,T,fr,by rw [hlen]; exact e1,e2,e3,e4,by omega,fun i x hx=>?_⟩
  obtain ⟨y,hy,hvw⟩:=hv.get hx
  obtain ⟨f1,u,f2,f3⟩:=e6 i y hy
  exact ⟨by omega,u,Rd.data _ _ (Aaq hd hx) (hvw.rd hs.inv (fun n hn=>by cases hn) f2.toRd),f3⟩
 ·rw [Cf _ _ hj]; exact hs.obj j
theorem RdL.setI {κ:Ka} {w:World} {x:SV} {v:Value} (hx:Rd κ w x v):∀ {l:List SV} {cs:List Value} (i:Nat),RdL κ w l cs → RdL κ w (l.set i x) (cs.set i v)
 | [],cs,i,h=>by simp only [RdL] at h; subst h; simp [RdL]
 | y :: l,cs,0,h=>by
  simp only [RdL] at h
  obtain ⟨u,r,rfl,h1,h2⟩:=h
  simp only [List.set_cons_zero,RdL]
  exact ⟨v,r,E,hx,h2⟩
 | y :: l,cs,i + 1,h=>by
  simp only [RdL] at h
  obtain ⟨u,r,rfl,h1,h2⟩:=h
  simp only [List.set_cons_succ,RdL]
  exact ⟨u,_,E,h1,h2.setI hx i⟩
theorem I5 {κ:Ka} {w:World} {k:Nat} {l:List SV} (hi:Inv κ w) (h:ObOK κ w k (.box l)) {off:Nat} {x:SV} {v:Value} (hx:x.plain = true) (hv:∀ κ w,Rd κ w x v) (h1:v.oneCell' = true) :
  ∃ b,κ k = .blk b ∧ (∀ j y,D9 l j = some y → ∃ u,w.cell? ⟨b,j,none⟩ = some u ∧ Rd κ w y u) ∧ (∀ j,j < l.length → w.frozen? ⟨b,j,none⟩ = false) ∧
   Step (· = k) κ w κ (w.setCell ⟨b,off,none⟩ v) ∧ Inv κ (w.setCell ⟨b,off,none⟩ v) ∧ ObOK κ (w.setCell ⟨b,off,none⟩ v) k (.box (l.set off x)):=by
 obtain ⟨b,cs,T,fr,e1,e2,e3,e4,e5⟩:=h
 have hsame:(w.setCell ⟨b,off,none⟩ v).heap[b]? = some (.cells (cs.set off v).toArray T fr):=by
  simp [World.setCell,Array.getElem?_modify,e2]
 have hoth:∀ j,j ≠ b → (w.setCell ⟨b,off,none⟩ v).heap[j]? = w.heap[j]?:=fun j hj=>heap_setCell_other w ⟨b,off,none⟩ j v hj
 obtain ⟨st,inv⟩:=Lu (w':=w.setCell ⟨b,off,none⟩ v) hi (k:=k) (b:=b) (by rw [e1]; rfl) rfl rfl rfl (by simp) hoth
 have hlen:=e5.length
 refine ⟨b,e1,fun j y hy=>?_,fun j hj=>?_,st,inv,b,_,T,fr,e1,hsame,by rw [List.length_set]; exact e3,?_,(RdL.step st _ _ e5).setI (hv _ _) off⟩
 ·obtain ⟨u,hu,hr⟩:=e5.get hy
  exact ⟨u,by rw [cell_of_row w b j cs.toArray T fr e2,List.getElem?_toArray]; exact hu,hr⟩
 ·obtain ⟨lo,hi'⟩:=fr
  simp only [World.frozen?,e2]
  rcases e3 with h | h
  ·simp only at h; subst h; simp
  ·simp only at h; simp; omega
 ·intro c hc
  rcases List.mem_or_eq_of_mem_set hc with h | h
  ·exact e4 c h
  ·rw [h]; exact h1
theorem Q0 {P:Program} {o:Oper} {s:SS} {f:FuncId} {ik:IntKind} {ts:Array TypeId} {x:Operand} {k off:Nat} {l:List SV} {v:Int}
  (hf:∀ (a:Addr) (x:Int) (w:World),w.cell? a = some (.int ik x) → (callFunc f #[.pointer (some a)]).run P w = .ok (.value (.int ik x)) w)
  (h:o.op = .call ⟨.value (.func f),#[x],ts⟩) (hx:ev s x = .ptr k off) (hk:s.h k = .box l) (hy:D9 l off = some (.val (.int ik v))):Good P o s ⟨.val (.int ik v),[k],[]⟩ :=
 Good.pure fun κ a w hi hr ho=>by
  have h1:=hr x (by simp [h,Op.operands,Call.operands])
  rw [hx] at h1
  have h2:=ho k (by simp)
  rw [hk] at h2
  obtain ⟨b,cs,T,fr,e1,e2,e3,e4,e5⟩:=h2
  simp only [Rd,e1] at h1
  obtain ⟨u,hu,hr2⟩:=e5.get hy
  have hc:w.cell? ⟨b,off,none⟩ = some (.int ik v):=by rw [cell_of_row w b off cs.toArray T fr e2,List.getElem?_toArray,hu,hr2.val]
  have hrun:=hf ⟨b,off,none⟩ v w hc
  refine ⟨.int ik v,?_,by simp only [Rd]⟩
  have hev:a.eval (.func f) = .func (.func f) #[] #[]:=rfl
  simp [execOp,h,resolve,hev,Deferred.ofValue,invoke,h1,hrun]
theorem Ab2 {P:Program} {o:Oper} {s:SS} {f:FuncId} {ts:Array TypeId} {x y:Operand} {k off:Nat} {l:List SV} {v d:Int}
  (hf:∀ (a:Addr) (x y:Int) (w:World),w.cell? a = some (.int .i64 x) → w.frozen? a = false → (callFunc f #[.pointer (some a),.int .i64 y]).run P w = .ok (.value (.int .i64 (IntKind.i64.wrap (x + y)))) (w.setCell a (.int .i64 (IntKind.i64.wrap (x + y)))))
  (h:o.op = .call ⟨.value (.func f),#[x,y],ts⟩) (hx:ev s x = .ptr k off) (hy:ev s y = .val (.int .i64 d)) (hk:s.h k = .box l) (hl:D9 l off = some (.val (.int .i64 v))) (hv:IntKind.i64.wrap (v + d) = v + d) :
  Good P o s ⟨.val (.int .i64 (v + d)),[],[(k,.box (l.set off (.val (.int .i64 (v + d)))))]⟩:=by
 intro κ a w hi hr ho N Q hN
 have h1:=hr x (by simp [h,Op.operands,Call.operands])
 have h2:=hr y (by simp [h,Op.operands,Call.operands])
 rw [hx] at h1
 rw [hy] at h2
 have h3:=ho k (.inr (by simp [Up.ws]))
 rw [hk] at h3
 obtain ⟨b,e1,c1,c2,st,inv,ob⟩:=I5 (off:=off) (x:=.val (.int .i64 (v + d))) (v:=.int .i64 (v + d)) hi h3 rfl (fun _ _=>by simp only [Rd]) rfl
 simp only [Rd,e1] at h1
 obtain ⟨u,hu,hr2⟩:=c1 off _ hl
 rw [hr2.val] at hu
 have hrun:=hf ⟨b,off,none⟩ v d w hu (c2 off (Jm hl))
 rw [hv] at hrun
 have hrun2:(execOp a.eval o).run P w = .ok (.value (.int .i64 (v + d))) (w.setCell ⟨b,off,none⟩ (.int .i64 (v + d))):=by
  have hev:a.eval (.func f) = .func (.func f) #[] #[]:=rfl
  simp [execOp,h,resolve,hev,Deferred.ofValue,invoke,h1,h2.val,hrun]
 simp only [Oper.wp,hrun2,Oper.upon]
 refine hN _ κ _ (st.weaken (by simp [Up.ws])) inv (by simp only [Rd]) (fun p hp=>?_)
 simp only [List.mem_singleton] at hp
 subst hp
 exact ob
theorem Zm {P:Program} (Γ:Ty P) {o:Oper} {s:SS} (q:Nat) {t:TypeId} {ti:TI} {et:TypeId} {eb b n cap lo k c1 c2:Nat} {ez:List Value} {x y:Operand} {α:Type} {e:α → SV} {l:List α} {B B2:Option Addr}
  (h:o.op = .call ⟨.builtin .copy,#[x,y],#[t,t]⟩) (ht:Γ.get t = some ti) (hk:ti.k = .slice et 1 eb ez) (hx:ev s x = .val (.slice B (n - lo) c1)) (hB:B = some ⟨b,lo,none⟩) (hy:ev s y = .val (.slice B2 k c2)) (hB2:B2 = some ⟨b,0,none⟩)
  (hq:s.h q = .pin b n cap 1 e l) (hl:l.length = n) (hk2:k ≤ n) (hpos:0 < min k (n - lo)) :
  Good P o s ⟨.val (.int .i64 (min k (n - lo):Nat)),[],[(q,.pin b n cap 1 e (l.take lo ++ l.take (min k (n - lo)) ++ l.drop (lo + min k (n - lo))))]⟩:=by
 intro κ a w hinv hr ho N Q hN
 have r1:=hr x (by simp [h,Op.operands,Call.operands])
 have r2:=hr y (by simp [h,Op.operands,Call.operands])
 rw [hx] at r1
 rw [hy] at r2
 subst hB
 subst hB2
 have hob:=ho q (.inr (by simp [Up.ws]))
 rw [hq] at hob
 obtain ⟨e0,b',cap',cs,T,fr,e1,e2,e3,e4,e5,e6⟩:=hob
 rw [e0] at e1
 cases e1
 obtain ⟨hu,ii,zv,q1,q2,q3,q4,q5⟩:=Cb Γ ht hk
 obtain ⟨mn,hmn⟩:∃ mn,min k (n - lo) = mn:=⟨_,rfl⟩
 rw [hmn] at hpos hN
 have hnc:n ≤ cs.length:=by omega
 have hall:∀ i,i < n → ∃ u:Value,u.cells.size = 1 ∧ Ones u.cells.toList ∧ ∀ j,j < 1 → cs[i * 1 + j]? = u.cells[j]?:=fun i hi=>by
  obtain ⟨_,u,_,u2⟩:=e6 i (e l[i]) ⟨by omega,rfl⟩
  exact ⟨u,u2⟩
 obtain ⟨news,hnews⟩:∃ news,news = cs.take mn:=⟨_,rfl⟩
 have hnl:news.length = mn:=by rw [hnews,List.length_take]; omega
 have hget:∀ p,p < mn → news[p]? = cs[p]?:=fun p hp=>by rw [hnews,List.getElem?_take,if_pos hp]
 have hones:Ones news:=fun v hv=>by
  obtain ⟨p,hp,he⟩:=List.getElem_of_mem hv
  have h1:news[p]? = some v:=by rw [List.getElem?_eq_getElem hp,he]
  rw [hnl] at hp
  rw [hget p hp] at h1
  exact Add (n:=n) hall (by omega) h1
 obtain ⟨w',f1,f2,f3,f4,f5,f6,f7⟩:=Cm P b lo T fr news 0 cs w e2 e3 (by omega) hones
 obtain ⟨st,inv⟩:=Ms hinv e0 f3 f4 f5 f6 f7
 have hcell:∀ p v,cs[p]? = some v → w.cell? ⟨b,p,none⟩ = some v:=fun p v hp=>by simp [World.cell?,e2,hp]
 have hc:=Aar (P:=P) w w' t t o.type et ⟨b,lo,none⟩ ⟨b,0,none⟩ (n - lo) c1 k c2 news hu q1 q2 (by rw [hnl,hmn]) (fun j v hv=>by
  rw [Addr.add_lit]
  have hlt:j < mn:=by rw [← hnl]; exact (List.getElem?_eq_some_iff.1 hv).1
  rw [hget j hlt] at hv
  rw [Nat.zero_add]
  exact hcell _ _ hv) f1
 rw [hnl] at hc
 have hrun:(execOp a.eval o).run P w = .ok (.value (.int .i64 (mn:Nat))) w':=by
  simp [execOp,h,resolve,invoke,builtin,r1.val,r2.val,hc]
 simp only [Oper.wp,hrun,Oper.upon]
 refine hN _ κ w' (st.weaken (fun k hk=>by subst hk; simp [Up.ws])) inv (by simp only [Rd]) (fun p hp=>?_)
 simp only [List.mem_singleton] at hp
 subst hp
 refine ⟨e0,b,cap,_,T,fr,e0,f2,by rw [Bz]; exact e3,by rw [Bz]; exact e4,e5,?_⟩
 rintro i z ⟨hi0,rfl⟩
 have hset:=Js cs news (lo + 0)
 have hlen:(l.take lo ++ l.take mn ++ l.drop (lo + mn)).length = n:=by
  simp only [List.length_append,List.length_take,List.length_drop]; omega
 rw [hlen] at hi0
 have src:∀ j (hj:j < l.length),∃ u:Value,RdD (Own κ) w (e l[j]) u ∧ u.cells.size = 1 ∧ Ones u.cells.toList ∧ ∀ p,p < 1 → cs[j * 1 + p]? = u.cells[p]?:=fun j hj=>(e6 j (e l[j]) ⟨hj,rfl⟩).2
 by_cases hi1:i < lo
 ·obtain ⟨u,u1,u2,u3,u4⟩:=src i (by omega)
  refine ⟨hi0,u,?_,u2,u3,fun p hp=>?_⟩
  ·have:(l.take lo ++ l.take mn ++ l.drop (lo + mn))[i]'(by rw [hlen]; exact hi0) = l[i]'(by omega):=by
    rw [List.getElem_append_left (by simp only [List.length_append,List.length_take]; omega),List.getElem_append_left (by simp only [List.length_take]; omega),List.getElem_take]
   rw [this]
   exact RdD.keep st.keeps _ _ u1
  ·rw [hset _ (by omega),if_neg (by omega),u4 p hp]
 ·by_cases hi2:i < lo + mn
  ·obtain ⟨u,u1,u2,u3,u4⟩:=src (i - lo) (by omega)
   refine ⟨hi0,u,?_,u2,u3,fun p hp=>?_⟩
   ·have:(l.take lo ++ l.take mn ++ l.drop (lo + mn))[i]'(by rw [hlen]; exact hi0) = l[i - lo]'(by omega):=by
     rw [List.getElem_append_left (by simp only [List.length_append,List.length_take]; omega),List.getElem_append_right (by simp only [List.length_take]; omega),List.getElem_take]
     congr 1
     simp only [List.length_take]; omega
    rw [this]
    exact RdD.keep st.keeps _ _ u1
   ·rw [hset _ (by omega),if_pos (by omega),hget _ (by omega),← u4 p hp]
    congr 1
    omega
  ·obtain ⟨u,u1,u2,u3,u4⟩:=src i (by omega)
   refine ⟨hi0,u,?_,u2,u3,fun p hp=>?_⟩
   ·have:(l.take lo ++ l.take mn ++ l.drop (lo + mn))[i]'(by rw [hlen]; exact hi0) = l[i]'(by omega):=by
     rw [List.getElem_append_right (by simp only [List.length_append,List.length_take]; omega),List.getElem_drop]
     congr 1
     simp only [List.length_append,List.length_take]; omega
    rw [this]
    exact RdD.keep st.keeps _ _ u1
   ·rw [hset _ (by omega),if_neg (by omega),u4 p hp]
end Go.Sy
namespace Go.Sy.YtmelpejjondedaaGreat
open Go.Proofs
attribute [local irreducible] Go.Sy.G Go.Sy.DR
set_option maxRecDepth 100000
set_option maxHeartbeats 4000000
theorem Yz (m:Nat) (h:m < 4294967296):bits .and .u64 (m:Int) 4294967295 = (m:Int):=by
 have:=bits_and_u64_nat m 4294967295 (by omega) (by decide)
 rw [show ((4294967295:Nat):Int) = 4294967295 from rfl] at this
 rw [this]
 have h2:=Nat.and_two_pow_sub_one_eq_mod m 32
 rw [show 2 ^ 32 - 1 = 4294967295 from rfl,show 2 ^ 32 = 4294967296 from rfl] at h2
 rw [h2,Nat.mod_eq_of_lt h]
theorem Aft (m:Nat) (h:m < 4294967296):(m:Int).fdiv (2 ^ (min (Int.toNat 32) IntKind.u64.bits)) = 0:=by
 show (m:Int).fdiv 4294967296 = 0
 rw [Int.fdiv_eq_ediv_of_nonneg _ (by decide)]
 omega
theorem mul64S (m:Nat) (h:m < 4294967296):Sy.Spec Tryz.prog 154 [Ay 1,Ay m] [] (.tup [Ay 0,Ay m]) []:=Ab Γ hm 100 F154 Tryz.ntmps154 rfl fun F hF=>by
 have e0:bits .and .u64 1 4294967295 = 1:=Yz 1 (by decide)
 have e1:(1:Int).fdiv (2 ^ (min (Int.toNat 32) IntKind.u64.bits)) = 0:=Aft 1 (by decide)
 have e2:=Yz m h
 have e3:=Aft m h
 have w1:IntKind.u64.wrap (1 * (m:Int)) = m:=by rw [IntKind.wrap_u64]; omega
 have w0:IntKind.u64.wrap (0 * (m:Int)) = 0:=by rw [IntKind.wrap_u64]; omega
 have z0:IntKind.u64.wrap (0 + 0) = 0:=rfl
 have a0:bits .and .u64 0 4294967295 = 0:=Yz 0 (by decide)
 have s0:(0:Int).fdiv (2 ^ (min (Int.toNat 32) IntKind.u64.bits)) = 0:=Aft 0 (by decide)
 conv=>whnf
 rw [e0]
 refine ⟨by decide,?_⟩
 rw [e1]
 conv=>whnf
 rw [e2]
 refine ⟨by decide,?_⟩
 rw [e3]
 conv=>whnf
 rw [w1,w0]
 refine ⟨by decide,?_⟩
 rw [e3]
 conv=>whnf
 rw [z0,a0]
 refine ⟨by decide,?_⟩
 rw [s0]
 conv=>whnf
 refine ⟨by decide,?_⟩
 conv=>whnf
 refine Ac E (.cons .tmp (.cons .tmp .nil)) ?_ E
 refine congrArg (fun z:Int=>SV.tup [Ay 0,Ay z]) ?_
 exact w1.symm
theorem mulS (m:Nat) (h:m < 4294967296):Sy.Spec Tryz.prog 83 [Ay 1,Ay m] [] (.tup [Ay 0,Ay m]) []:=Ab Γ hm 100 F83 Tryz.ntmps83 rfl fun F hF=>by
 ((conv=>whnf);refine aF ?_;refine rg ?_;conv=>whnf)
 refine Ag (mul64S m h) F154 E E E E E ?_
 refine rg ?_;conv=>whnf
 exact Ac E (.cons .tmp (.cons .tmp .nil)) E E
def Jw (m k:Nat):List Bool:=List.replicate k true ++ List.replicate (m - k) false
theorem Mz (m k:Nat) (h:k ≤ m):(Jw m k).length = m:=by simp [Jw]; omega
theorem Amu (m:Nat):Jw m m = List.replicate m true:=by simp [Jw]
theorem Aj7 (m k c:Nat) (h:k ≤ m) (hc:c = min k (m - k)):(Jw m k).take k ++ (Jw m k).take c ++ (Jw m k).drop (k + c) = Jw m (k + c):=by
 have e1:(Jw m k).take k = List.replicate k true:=by
  rw [Jw,List.take_append_of_le_length (by simp)]; simp
 have e2:(Jw m k).take c = List.replicate c true:=by
  rw [Jw,List.take_append_of_le_length (by simp; omega)]; simp; omega
 have e3:(Jw m k).drop (k + c) = List.replicate (m - (k + c)) false:=by
  rw [Jw,List.drop_append,List.drop_eq_nil_of_le (by simp),List.nil_append]
  simp
  omega
 rw [e1,e2,e3,Jw,List.replicate_append_replicate]
theorem Aio (m:Nat) (h:m < 2147483648):Sy.Spec Tryz.prog 43 [.sl 1 Ad [true],Aa m] [] (.sl 1 Ad (List.replicate m true)) []:=Ab Γ hm 100 F43 Tryz.ntmps43 rfl fun F hF=>by
 have hw:IntKind.u64.wrap (m:Int) = m:=by rw [IntKind.wrap_u64]; omega
 have hw2:IntKind.i64.wrap (m:Int) = m:=by rw [IntKind.wrap_i64]; omega
 have q:=mulS m (by omega)
 rw [← hw] at q
 ((conv=>whnf);refine aF ?_;refine rg ?_;conv=>whnf)
 refine Ag q F83 E E E E E ?_
 rw [hw]
 (refine rg ?_;(conv=>whnf);refine aF ?_;refine rg ?_;conv=>whnf)
 refine ⟨fun h1=>absurd (of_decide_eq_true h1) (by omega),fun _=>?_⟩
 refine rg ?_;conv=>whnf
 rw [hw2]
 refine Ai (Bw Γ.toTy (d:=30) (n:=m) Ad false E E E E E E E E (by omega) (by omega) E E E) E E ?_
 refine rg ?_;conv=>whnf
 refine Ai (U8 Γ.toTy (l:=List.replicate m false) (m:=[true]) E E E E E .sl) E E ?_
 have e0:[true].take (List.replicate m false).length ++ (List.replicate m false).drop [true].length = Jw m (min 1 m):=by
  cases m with
  | zero=>rfl
  | succ m=>simp [Jw,Nat.min_eq_left,List.replicate_succ]
 have e1:min [true].length (List.replicate m false).length = min 1 m:=by simp
 rw [e0,e1]
 refine rg ?_;conv=>whnf
 refine Aqj (fun k:Nat=>min 1 m ≤ k ∧ k ≤ m) (fun k=>[(7,.osl 30),(8,Aa k)]) (fun k=>[(30,.row 1 Ad (Jw m k))]) (fun k=>m - k) (min 1 m) [] (by omega) ⟨⟨E,E,E,E,Y⟩,⟨.inl E,E,Y⟩,E,E⟩ ?_
 intro k hk
 have hl:=Mz m k hk.2
 refine rg ?_;conv=>whnf
 refine ⟨fun h1=>?_,fun h1=>?_⟩
 ·have hlt:k < m:=by have:=of_decide_eq_true h1; rw [hl] at this; omega
  clear h1
  have hk1:1 ≤ k:=by omega
  have hne:Jw m k ≠ []:=fun e=>by rw [e] at hl; simp at hl; omega
  refine Ajh 30 [7] E hne (fun i hi=>by simp at hi; subst hi; rfl) ?_
  intro b cap hc
  rw [hl] at hc ⊢
  have hcl:¬ cap = k:=by omega
  have hcp:=Aj7 m k (min k (m - k)) hk.2 rfl
  refine rg ?_;conv=>whnf
  refine Bi (C1 (lo:=k) (hi:=m) Γ.toTy E E E E (.inr ⟨_,_,E,E⟩) (.inl ⟨E,E⟩) (by omega) (by omega)) (by kernel_rfl) E ?_
  refine rd (by kernel_rfl) ?_;conv=>whnf
  refine Bi (C1 (lo:=0) (hi:=k) Γ.toTy E E E E (.inl ⟨E,E⟩) (.inr ⟨_,_,E,E⟩) (by omega) (by omega)) (by kernel_rfl) E ?_
  refine rd (by kernel_rfl) ?_;conv=>whnf
  refine Bi (Zm Γ.toTy 30 (lo:=k) (k:=k) E E E E (by rw [if_neg hcl,Nat.mul_one]) E (by rw [if_neg (by omega),Nat.zero_mul]) E hl (by omega) (by omega)) (by kernel_rfl) E ?_
  refine rd (by kernel_rfl) ?_;conv=>whnf
  refine ⟨by unfold I64; omega,?_⟩
  conv=>whnf
  refine ⟨(by kernel_rfl),?_⟩
  conv=>whnf
  refine Wr 30 31 [7] m E E (by rw [hcp,Mz m _ (by omega)]; exact Nat.le_refl _) (fun i hi=>by simp at hi; subst hi; rfl) ?_
  have hfin:((Jw m k).take k ++ (Jw m k).take (min k (m - k)) ++ (Jw m k).drop (k + min k (m - k))).take m = Jw m (k + min k (m - k)):=by
   rw [hcp,List.take_of_length_le (by rw [Mz m _ (by omega)]; exact Nat.le_refl _)]
  exact Aoy (k + min k (m - k)) [(30,31)] (by omega) (by omega) ⟨⟨E,E,E,E,Y⟩,⟨.inl (congrArg (Ob.row 1 Ad) hfin.symm),E,Y⟩,E,E⟩
 ·have hkm:k = m:=by have:=of_decide_eq_false h1; rw [hl] at this; omega
  subst hkm
  rw [Amu]
  refine rg ?_;conv=>whnf
  refine As 30 E ?_
  exact Ac E (.cons .tmp .nil) E E
def H8 (t:List EntryM):SV:=.sl 3 Al t
def La (l:List QueuedM):SV:=.sl 7 Aw l
def V9 (n:Net) (k:Nat) (now inj:Int) (d:Nat → Int):List SV :=
 [.sl 5 Br n.devices,.sl 7 Bh n.ports,.sl 3 Cp n.links,.sl 6 A0 n.domains,.sl 4 Bp n.statics,.sl 4 B6 n.floods,.sl 5 Cz n.vrfs,.sl 5 Dm n.irbs,.ptr k 0,.osl 2,.osl 3,.val (.int .i64 now),.val (.int .i64 inj),
 .val (.int .i64 (d 0)),.val (.int .i64 (d 1)),.val (.int .i64 (d 2)),.val (.int .i64 (d 3)),.val (.int .i64 (d 4)),.val (.int .i64 (d 5)),.val (.int .i64 (d 6)),.val (.int .i64 (d 7)),.val (.int .i64 (d 8)),.val (.int .i64 (d 9)),.val (.int .i64 (d 10)),.val (.int .i64 (d 11)),.val (.int .i64 (d 12)),.val (.int .i64 (d 13)),.val (.int .i64 (d 14)),.val (.int .i64 (d 15)),.val (.int .i64 (d 16)),.val (.int .i64 (d 17)),.val (.int .i64 (d 18)),.val (.int .i64 (d 19)),.val (.int .i64 (d 20)),.val (.int .i64 (d 21)),.val (.int .i64 (d 22)),.val (.int .i64 (d 23)),.val (.int .i64 (d 24)),.val (.int .i64 (d 25)),.val (.int .i64 (d 26)),.val (.int .i64 (d 27)),.val (.int .i64 (d 28)),.val (.int .i64 (d 29)),.val (.int .i64 (d 30)),.val (.int .i64 (d 31)),.val (.int .i64 (d 32)),.val (.int .i64 (d 33)),.val (.int .i64 (d 34)),.val (.int .i64 (d 35)),.val (.int .i64 (d 36)),.val (.int .i64 (d 37)),.val (.int .i64 (d 38)),.val (.int .i64 (d 39)),.val (.int .i64 (d 40)),.val (.int .i64 (d 41)),.val (.int .i64 (d 42)),.val (.int .i64 (d 43)),.val (.int .i64 (d 44)),.val (.int .i64 (d 45)),.val (.int .i64 (d 46)),.val (.int .i64 (d 47)),.val (.int .i64 (d 48)),.val (.int .i64 (d 49)),.val (.int .i64 (d 50)),.val (.int .i64 (d 51)),.val (.int .i64 (d 52)),.val (.int .i64 (d 53)),.val (.int .i64 (d 54)),.val (.int .i64 (d 55)),.val (.int .i64 (d 56)),.val (.int .i64 (d 57)),.val (.int .i64 (d 58)),.val (.int .i64 (d 59)),.val (.int .i64 (d 60)),.val (.int .i64 (d 61)),.val (.int .i64 (d 62)),.val (.int .i64 (d 63))]
def onceL (up:List Bool) (done:Int) (fw:List Bool):List SV:=[.sl 1 Ad up,.val (.int .u32 done),.val (.int .i32 0),.val (.int .u32 0),.sl 1 Ad fw]
def Mj (n:Net) (up:List Bool) (d:Bool):List SV:=onceL up (if d then 1 else 0) (if d then Hs n up else [])
def B8 (n:Net) (m:MacM) (d:Bool):Obs:=[(0,.box (V9 n 1 m.now m.injected m.drops)),(1,.box (Mj n m.up d)),(2,.row 1 H8 m.tables),(3,.row 1 La m.queues)]
theorem getI_map (f:Nat → SV):∀ (k a n:Nat),k < n → D9 ((List.range' a n).map f) k = some (f (a + k))
 | 0,a,n + 1,_=>rfl
 | k + 1,a,n + 1,h=>by
  show D9 ((List.range' (a + 1) n).map f) k = _
  rw [getI_map f k (a + 1) n (by omega)]
  congr 2; omega
theorem Aa5 (f:Nat → SV) (x:SV):∀ (k a n:Nat),((List.range' a n).map f).set k x = (List.range' a n).map (fun i=>if i = a + k then x else f i)
 | _,_,0=>rfl
 | 0,a,n + 1=>by
  show x :: (List.range' (a + 1) n).map f = (if a = a + 0 then x else f a) :: (List.range' (a + 1) n).map _
  rw [if_pos (by omega)]
  congr 1
  apply List.map_congr_left
  intro i hi
  have:=(List.mem_range'_1.1 hi).1
  rw [if_neg (by omega)]
 | k + 1,a,n + 1=>by
  show f a :: ((List.range' (a + 1) n).map f).set k x = (if a = a + (k + 1) then x else f a) :: (List.range' (a + 1) n).map _
  rw [if_neg (by omega),Aa5 f x k (a + 1) n]
  congr 1
  apply List.map_congr_left
  intro i _
  rw [show a + 1 + k = a + (k + 1) by omega]
theorem Q8 (n:Net) (k:Nat) (now inj:Int) (d:Nat → Int):V9 n k now inj d =
  .sl 5 Br n.devices :: .sl 7 Bh n.ports :: .sl 3 Cp n.links :: .sl 6 A0 n.domains :: .sl 4 Bp n.statics :: .sl 4 B6 n.floods :: .sl 5 Cz n.vrfs :: .sl 5 Dm n.irbs :: .ptr k 0 :: .osl 2 :: .osl 3 :: .val (.int .i64 now) :: .val (.int .i64 inj) ::
   (List.range' 0 64).map (fun i=>.val (.int .i64 (d i))):=rfl
theorem Ac7 (n:Net) (k:Nat) (now inj:Int) (d:Nat → Int) (e:Nat) (he:e < 64):D9 (V9 n k now inj d) (13 + e) = some (.val (.int .i64 (d e))):=by
 rw [Q8,Nat.add_comm]
 show D9 ((List.range' 0 64).map (fun i=>SV.val (.int .i64 (d i)))) e = _
 rw [getI_map _ e 0 64 he,Nat.zero_add]
theorem Amm (n:Net) (k:Nat) (now inj:Int) (d:Nat → Int) (e:Nat) (v:Int):(V9 n k now inj d).set (13 + e) (.val (.int .i64 v)) = V9 n k now inj (fun i=>if i = e then v else d i):=by
 rw [Q8,Q8,Nat.add_comm]
 have h:=Aa5 (fun i=>SV.val (.int .i64 (d i))) (.val (.int .i64 v)) e 0 64
 have h2:(fun i=>if i = 0 + e then SV.val (.int .i64 v) else SV.val (.int .i64 (d i))) = (fun i=>SV.val (.int .i64 (if i = e then v else d i))):=by
  funext i
  rw [Nat.zero_add]
  split <;> rfl
 rw [h2] at h
 rw [← h]
 rfl
theorem load64 (a:Addr) (x:Int) (w:World) (hc:w.cell? a = some (.int .i64 x)):(callFunc 189 #[.pointer (some a)]).run Tryz.prog w = .ok (.value (.int .i64 x)) w :=
 run_call_load Tryz.func189 (by kernel_rfl) (by kernel_rfl) (by kernel_rfl) .i64 (by kernel_rfl) hc
theorem add64 (a:Addr) (x y:Int) (w:World) (hc:w.cell? a = some (.int .i64 x)) (hz:w.frozen? a = false):(callFunc 257 #[.pointer (some a),.int .i64 y]).run Tryz.prog w = .ok (.value (.int .i64 (IntKind.i64.wrap (x + y)))) (w.setCell a (.int .i64 (IntKind.i64.wrap (x + y)))) :=
 run_call_add Tryz.func257 (by kernel_rfl) (by kernel_rfl) (by kernel_rfl) .i64 (by kernel_rfl) hc hz rfl
theorem Ajw (n:Net) (k:Nat) (m:MacM) (e:Int):V9 n k m.now m.injected (Be m e).drops = (V9 n k m.now m.injected m.drops).set (13 + e.toNat) (.val (.int .i64 (m.drops e.toNat + 1))):=by
 rw [Amm]
 congr 1
 funext i
 show (if i = e.toNat then m.drops i + 1 else m.drops i) = _
 split
 ·rename_i h; rw [h]
 ·rfl
theorem Ahy {x:Int} (h:0 ≤ x ∧ x ≤ 1000000000000):IntKind.i64.wrap (x + 1) = x + 1:=by
 rw [IntKind.wrap_i64]; omega
theorem Aic (n:Net) (m:MacM) (d:Bool) (e:Int) (h0:0 ≤ e) (h1:e < 64) (hb:IntKind.i64.wrap (m.drops e.toNat + 1) = m.drops e.toNat + 1) :
  Sy.Spec Tryz.prog 181 [.ptr 0 (13 + e.toNat),Aa 1] (B8 n m d) (Aa (m.drops e.toNat + 1)) (B8 n (Be m e) d):=Ab Γ hm 100 F181 Tryz.ntmps181 rfl fun F hF=>by
 have hg:=Ac7 n 1 m.now m.injected m.drops e.toNat (by omega)
 have hs:=Ajw n 1 m e
 have hlt:=Jm hg
 conv=>whnf
 refine Ai (Ab2 add64 E E E E hg hb) E E ?_
 refine rg ?_;conv=>whnf
 exact done E (.cons .tmp .nil) [] (B8 n (Be m e) d) (fun _ h=>h) E E ⟨Y,⟨.inl (congrArg Ob.box hs),E,.inl E,E,.inl E,E,.inl E,E,Y⟩,E,E⟩
theorem Ae4 (n:Net) (m:MacM) (d:Bool) (e:Int) (h0:0 ≤ e) (h1:e < 64) (hb:0 ≤ m.drops e.toNat ∧ m.drops e.toNat ≤ 1000000000000) :
  Sy.Spec Tryz.prog 104 [.ptr 0 0,Aa e] (B8 n m d) (.tup []) (B8 n (Be m e) d):=Ab Γ hm 100 F104 Tryz.ntmps104 rfl fun F hF=>by
 conv=>whnf
 refine ⟨h0,by omega,?_⟩
 refine rg ?_;conv=>whnf
 refine Ai (Ak [] E F181 (Aic n m d e h0 h1 (Ahy hb)) (congrArg (fun z=>[SV.ptr 0 z,Aa 1]) (show 13 + e.toNat = 0 + 13 + e.toNat * 1 by omega)) ⟨E,E,E,E,Y⟩ E ⟨.inl E,.inl E,.inl E,.inl E,Y⟩) E E ?_
 refine rg ?_;conv=>whnf
 exact Bx E .nil [] (B8 n (Be m e) d) (fun _ h=>h) E E ⟨Y,⟨.inl E,E,.inl E,E,.inl E,E,.inl E,E,Y⟩,E,E⟩
theorem Afe (n:Net) (m:MacM) (d:Bool) (e:Nat) (h1:e < 64) :
  Sy.Spec Tryz.prog 109 [.ptr 0 (13 + e)] (B8 n m d) (Aa (m.drops e)) (B8 n m d):=Ab Γ hm 100 F109 Tryz.ntmps109 rfl fun F hF=>by
 have hg:=Ac7 n 1 m.now m.injected m.drops e h1
 have hlt:=Jm hg
 conv=>whnf
 refine Ai (Q0 load64 E E E hg) E E ?_
 refine rg ?_;conv=>whnf
 exact done E (.cons .tmp .nil) [] (B8 n m d) (fun _ h=>h) E E ⟨Y,⟨.inl E,E,.inl E,E,.inl E,E,.inl E,E,Y⟩,E,E⟩
def dropsT (m:MacM) (e:Int):Int:=if 0 ≤ e ∧ e < 64 then m.drops e.toNat else 0
theorem dropsS (n:Net) (m:MacM) (d:Bool) (e:Int) :
  Sy.Spec Tryz.prog 60 [.ptr 0 0,Aa e] (B8 n m d) (Aa (dropsT m e)) (B8 n m d):=Ab Γ hm 100 F60 Tryz.ntmps60 rfl fun F hF=>by
 have hres:=dropsT.eq_1 m e
 generalize dropsT m e = res at *
 have hfin:∀ x,(SV.val (.int .i64 x)).ren (A6 []) = SV.val (.int .i64 x):=fun _=>rfl
 ((conv=>whnf);refine aF ?_;refine rg ?_;conv=>whnf)
 refine ⟨fun h=>?_,fun h=>?_⟩
 ·have h:=of_decide_eq_true h
  rw [if_neg (by omega)] at hres
  subst hres
  (refine rg ?_;(conv=>whnf);refine aT ?_;refine rg ?_;conv=>whnf)
  (skip)
  exact done E (.cons .tmp .nil) [] (B8 n m d) (fun _ h=>h) E E ⟨Y,⟨.inl E,E,.inl E,E,.inl E,E,.inl E,E,Y⟩,E,E⟩
 have h0:=of_decide_eq_false h
 clear h
 refine rg ?_;conv=>whnf
 refine ⟨fun h=>?_,fun h=>?_⟩
 ·have h:=of_decide_eq_true h
  rw [if_neg (by omega)] at hres
  subst hres
  refine rg ?_;conv=>whnf
  exact done E (.cons .tmp .nil) [] (B8 n m d) (fun _ h=>h) E E ⟨Y,⟨.inl E,E,.inl E,E,.inl E,E,.inl E,E,Y⟩,E,E⟩
 have h1:=of_decide_eq_false h
 clear h
 rw [if_pos (by omega)] at hres
 subst hres
 refine rg ?_;conv=>whnf
 refine ⟨by omega,by omega,?_⟩
 refine rg ?_;conv=>whnf
 refine Ai (Ak [] E F109 (Afe n m d e.toNat (by omega)) (congrArg (fun z=>[SV.ptr 0 z]) (show 13 + e.toNat = 0 + 13 + e.toNat * 1 by omega)) ⟨E,E,E,E,Y⟩ E ⟨.inl E,.inl E,.inl E,.inl E,Y⟩) E E ?_
 refine rg ?_;conv=>whnf
 exact done E (.cons .tmp .nil) [] (B8 n m d) (fun _ h=>h) E E ⟨Y,⟨.inl E,E,.inl E,E,.inl E,E,.inl E,E,Y⟩,E,E⟩
theorem Wi (n:Net) (m:MacM) (d:Bool) (dom:Int) :
  Sy.Spec Tryz.prog 46 [.ptr 0 0,Aa dom] (B8 n m d) (Ad (Am dom m.queues.length)) (B8 n m d):=Ab Γ hm 100 F46 Tryz.ntmps46 rfl fun F hF=>by
 have hres:Am dom m.queues.length = (decide (0 ≤ dom) && decide (dom < m.queues.length)):=rfl
 generalize Am dom m.queues.length = res at *
 ((conv=>whnf);refine aT ?_;refine rg ?_;conv=>whnf)
 refine ⟨fun h=>?_,fun h=>?_⟩
 ·refine rg ?_;conv=>whnf
  (skip)
  refine done E (.cons .tmp .nil) [] (B8 n m d) (fun _ h=>h) ?_ E ⟨Y,⟨.inl E,E,.inl E,E,.inl E,E,.inl E,E,Y⟩,E,E⟩
  rw [hres,h]
  rfl
 ·refine rg ?_;conv=>whnf
  (skip)
  refine done E (.cons .tmp .nil) [] (B8 n m d) (fun _ h=>h) ?_ E ⟨Y,⟨.inl E,E,.inl E,E,.inl E,E,.inl E,E,Y⟩,E,E⟩
  rw [hres,h]
  rfl
theorem Wh (a b:Nat) (ha:a < 4294967296) (hb:b < 4294967296):bits .or .u32 (a:Int) (b:Int) = ((a ||| b:Nat):Int):=by
 have hx:a ||| b < 2 ^ 32:=Nat.or_lt_two_pow (by omega) (by omega)
 have h1:(BitVec.ofInt 32 (a:Int)).toNat = a:=by
  rw [BitVec.ofInt_natCast,BitVec.toNat_ofNat]; exact Nat.mod_eq_of_lt (by omega)
 have h2:(BitVec.ofInt 32 (b:Int)).toNat = b:=by
  rw [BitVec.ofInt_natCast,BitVec.toNat_ofNat]; exact Nat.mod_eq_of_lt (by omega)
 show IntKind.u32.wrap ((BitVec.ofInt 32 (a:Int) ||| BitVec.ofInt 32 (b:Int)).toNat:Int) = _
 rw [BitVec.toNat_or,h1,h2,IntKind.wrap_u32]
 omega
theorem Wp (x:UInt8) (k:UInt8):((x.toNat:Int) != (k.toNat:Int)) = decide (x ≠ k):=by
 rw [Bool.eq_iff_iff]
 simp only [bne_iff_ne,decide_eq_true_eq,ne_eq,← UInt8.toNat_inj]
 omega
theorem Tq (b:List UInt8) (k:Nat) (h:k + 2 ≤ b.length) (hb:b.length < 100000):Sy.Spec Tryz.prog 294 [.sl 1 Aj b,Aa k] [] (Aa (numAt b k 2)) []:=Ab Γ hm 100 F294 Tryz.ntmps294 rfl fun F hF=>by
 have i0:((k:Nat):Int).toNat < b.length:=by simpa using (by omega:k < b.length)
 have i1:((k:Int) + 1).toNat < b.length:=by omega
 have e0:b[((k:Nat):Int).toNat]'i0 = b[k]'(by omega):=rfl
 have e1:b[((k:Int) + 1).toNat]'i1 = b[k + 1]'(by omega):=rfl
 have hp:=Ev (b[k]'(by omega)) (b[k + 1]'(by omega))
 have hn:=J4 h
 rw [← hn] at hp
 conv=>whnf
 refine ⟨E,by omega,i0,?_⟩
 rw [e0]
 conv=>whnf
 refine ⟨by decide,?_⟩
 conv=>whnf
 refine ⟨by unfold I64; omega,?_⟩
 conv=>whnf
 refine ⟨E,by omega,i1,?_⟩
 rw [e1]
 conv=>whnf
 refine ⟨(by kernel_rfl),?_⟩
 rw [hp]
 conv=>whnf
 exact Ac E (.cons .tmp .nil) E E
theorem Al6 (x y:Nat) (hx:x < 65536) (hy:y < 65536):bits .or .u32 (IntKind.u32.wrap ((IntKind.u32.wrap (x:Int)) * 2 ^ min (Int.toNat 16) IntKind.u32.bits)) (IntKind.u32.wrap (y:Int)) = ((x * 65536 + y:Nat):Int):=by
 have e1:IntKind.u32.wrap (x:Int) = (x:Int):=by rw [IntKind.wrap_u32]; omega
 have e2:IntKind.u32.wrap (y:Int) = (y:Int):=by rw [IntKind.wrap_u32]; omega
 rw [e1,e2]
 have e3:IntKind.u32.wrap ((x:Int) * 2 ^ min (Int.toNat 16) IntKind.u32.bits) = ((x * 65536:Nat):Int):=by
  show IntKind.u32.wrap ((x:Int) * 65536) = _
  rw [IntKind.wrap_u32]
  omega
 rw [e3,Wh _ _ (by omega) (by omega)]
 congr 1
 have h:=Nat.two_pow_add_eq_or_of_lt (i:=16) (b:=y) (by omega) x
 rw [Nat.mul_comm x 65536]
 exact h.symm
theorem Ai0 (b:List UInt8) (k:Nat) (h:k + 4 ≤ b.length) (hb:b.length < 100000):Sy.Spec Tryz.prog 296 [.sl 1 Aj b,Aa k] [] (B0 (numAt b k 4)) []:=Ab Γ hm 100 F296 Tryz.ntmps296 rfl fun F hF=>by
 have q1:=Tq b k (by omega) hb
 have q2:=Tq b (k + 2) (by omega) hb
 rw [show ((k + 2:Nat):Int) = (k:Int) + 2 by omega] at q2
 have hf:=Al6 (numAt b k 2) (numAt b (k + 2) 2) (by have:=E7 b k 2; omega) (by have:=E7 b (k + 2) 2; omega)
 rw [← numAt4 h] at hf
 conv=>whnf
 refine Ag q1 F294 E E E E E ?_
 refine rg ?_;conv=>whnf
 refine ⟨by decide,?_⟩
 conv=>whnf
 refine ⟨by unfold I64; omega,?_⟩
 conv=>whnf
 refine Ag q2 F294 E E E E E ?_
 refine rg ?_;conv=>whnf
 rw [hf]
 exact Ac E (.cons .tmp .nil) E E
theorem Ajm (l:List UInt8) (hl:l.length < 100000) (h2:l.length % 2 = 0):Sy.Spec Tryz.prog 295 [.sl 1 Aj l] [] (Ad (decide (C9 (H7 l (l.length / 2)) = 65535))) []:=Ab Γ hm 100 F295 Tryz.ntmps295 rfl fun F hF=>by
 have ha:=Aij l hl h2
 conv=>whnf
 refine Ag ha F329 E E E E E ?_
 refine rg ?_;conv=>whnf
 refine Ac E (.cons .tmp .nil) (congrArg Ad ?_) E
 rw [Bool.eq_iff_iff]
 simp only [beq_iff_eq,decide_eq_true_eq]
 omega
theorem Adr (l:List UInt8) (hl:l.length < 100000) (h2:l.length % 2 = 0):Sy.Spec Tryz.prog 268 [.sl 1 Aj l] [] (Ad (decide (C9 (H7 l (l.length / 2)) = 65535))) []:=Ab Γ hm 100 F268 Tryz.ntmps268 rfl fun F hF=>by
 have ha:=Aip l hl h2
 conv=>whnf
 refine Ag ha F323 E E E E E ?_
 refine rg ?_;conv=>whnf
 refine Ac E (.cons .tmp .nil) (congrArg Ad ?_) E
 rw [Bool.eq_iff_iff]
 simp only [beq_iff_eq,decide_eq_true_eq]
 omega
abbrev zP:List SV:=[Aa 0,Aa 0,Aa 0,Aa 0,B0 0,B0 0,.sl 1 Aj []]
theorem Aiy (b:List UInt8) (hb:b.length < 100000):Sy.Spec Tryz.prog 245 [.sl 1 Aj b] [] (.tup [Iy (ipTakeT b).1,Aa (ipTakeT b).2]) []:=Ab Γ hm 100 F245 Tryz.ntmps245 rfl fun F hF=>by
 have hres:=ipTakeT.eq_1 b
 generalize ipTakeT b = res at *
 conv=>whnf
 refine ⟨fun h=>?_,fun h=>?_⟩
 ·rw [if_pos (by have:=of_decide_eq_true h; omega)] at hres
  subst hres
  refine rg ?_;conv=>whnf
  refine Av 2 zP E (.cons (.refl _) (.cons (.refl _) (.cons (.refl _) (.cons (.refl _) (.cons (.refl _) (.cons (.refl _) (.cons .nil .nil))))))) ?_
  exact Ac E (.cons (.cell E E E E) (.cons .tmp .nil)) E E
 have h20:20 ≤ b.length:=by have:=of_decide_eq_false h; omega
 rw [if_neg (by omega)] at hres
 clear h
 have i0:(0:Int).toNat < b.length:=by show 0 < _; omega
 have i1:(1:Int).toNat < b.length:=by show 1 < _; omega
 have i8:(8:Int).toNat < b.length:=by show 8 < _; omega
 have i9:(9:Int).toNat < b.length:=by show 9 < _; omega
 have e0:b[(0:Int).toNat]'i0 = bAt b 0:=(Ou (by omega)).symm
 have q2:=Tq b 2 (by omega) hb
 have q4:=Tq b 4 (by omega) hb
 have q6:=Tq b 6 (by omega) hb
 have q12:=Ai0 b 12 (by omega) hb
 have q16:=Ai0 b 16 (by omega) hb
 have hl20:(b.take 20).length = 20:=by rw [List.length_take]; omega
 have hdiv:(b.take 20).length / 2 = 10:=by rw [hl20]
 have qs:=Ajm (b.take 20) (by omega) (by rw [hl20])
 rw [hdiv] at qs
 refine rg ?_;conv=>whnf
 refine ⟨E,by decide,i0,?_⟩
 rw [e0]
 conv=>whnf
 refine ⟨fun h=>?_,fun h=>?_⟩
 ·rw [if_pos (.inl (by rw [show ((69:Int)) = ((69:UInt8).toNat:Int) from rfl,Wp] at h; exact of_decide_eq_true h))] at hres
  subst hres
  (refine rg ?_;(conv=>whnf);refine aT ?_;refine rg ?_;conv=>whnf)
  refine Av 2 zP E (.cons (.refl _) (.cons (.refl _) (.cons (.refl _) (.cons (.refl _) (.cons (.refl _) (.cons (.refl _) (.cons .nil .nil))))))) ?_
  exact Ac E (.cons (.cell E E E E) (.cons .tmp .nil)) E E
 have h69:¬ bAt b 0 ≠ 69:=by rw [show ((69:Int)) = ((69:UInt8).toNat:Int) from rfl,Wp] at h; exact of_decide_eq_false h
 clear h
 refine rg ?_;conv=>whnf
 refine Ag q2 F294 E E E E E ?_
 refine rg ?_;conv=>whnf
 refine ⟨fun h=>?_,fun h=>?_⟩
 ·rw [if_pos (.inr (by have:=of_decide_eq_true h; omega))] at hres
  subst hres
  refine rg ?_;conv=>whnf
  refine Av 2 zP E (.cons (.refl _) (.cons (.refl _) (.cons (.refl _) (.cons (.refl _) (.cons (.refl _) (.cons (.refl _) (.cons .nil .nil))))))) ?_
  exact Ac E (.cons (.cell E E E E) (.cons .tmp .nil)) E E
 have hs20:20 ≤ numAt b 2 2:=by have:=of_decide_eq_false h; omega
 rw [if_neg (fun h=>h.elim h69 (by omega))] at hres
 clear h
 refine rg ?_;conv=>whnf
 refine Ag q2 F294 E E E E E ?_
 refine rg ?_;conv=>whnf
 refine ⟨fun h=>?_,fun h=>?_⟩
 ·rw [if_pos (by have:=of_decide_eq_true h; omega)] at hres
  subst hres
  refine rg ?_;conv=>whnf
  refine Av 2 zP E (.cons (.refl _) (.cons (.refl _) (.cons (.refl _) (.cons (.refl _) (.cons (.refl _) (.cons (.refl _) (.cons .nil .nil))))))) ?_
  exact Ac E (.cons (.cell E E E E) (.cons .tmp .nil)) E E
 have hsl:numAt b 2 2 ≤ b.length:=by have:=of_decide_eq_false h; omega
 rw [if_neg (by omega)] at hres
 clear h
 refine rg ?_;conv=>whnf
 refine Ag q6 F294 E E E E E ?_
 refine rg ?_;conv=>whnf
 refine ⟨fun h=>?_,fun h=>?_⟩
 ·rw [if_pos (by have:(numAt b 6 2:Int) ≠ 0:=(by simpa using h); omega)] at hres
  subst hres
  refine rg ?_;conv=>whnf
  refine Av 2 zP E (.cons (.refl _) (.cons (.refl _) (.cons (.refl _) (.cons (.refl _) (.cons (.refl _) (.cons (.refl _) (.cons .nil .nil))))))) ?_
  exact Ac E (.cons (.cell E E E E) (.cons .tmp .nil)) E E
 rw [if_neg (by have:(numAt b 6 2:Int) = 0:=(by simpa using h); omega)] at hres
 clear h
 refine rg ?_;conv=>whnf
 refine Ai (Bb (lo:=0) (hi:=20) Γ.toTy E E E E (.inl ⟨E,E⟩) (.inr ⟨_,_,E,E⟩) (by omega) h20) E E ?_
 refine rg ?_;conv=>whnf
 refine Ag qs F295 E E E E E ?_
 by_cases hsum:C9 (H7 (b.take 20) 10) = 65535
 rotate_left
 ·rw [if_pos hsum] at hres
  subst hres
  rw [decide_eq_false hsum]
  (refine rg ?_;(conv=>whnf);refine aT ?_;refine rg ?_;conv=>whnf)
  refine Av 2 zP E (.cons (.refl _) (.cons (.refl _) (.cons (.refl _) (.cons (.refl _) (.cons (.refl _) (.cons (.refl _) (.cons .nil .nil))))))) ?_
  exact Ac E (.cons (.cell E E E E) (.cons .tmp .nil)) E E
 rw [if_neg (fun h=>h hsum)] at hres
 subst hres
 rw [decide_eq_true hsum]
 have qc:=Md ((b.take (numAt b 2 2)).drop 20) (by rw [List.length_drop,List.length_take]; omega)
 have w1:IntKind.i64.wrap ((b[(1:Int).toNat]'i1).toNat:Int) = ((bAt b 1).toNat:Int):=by
  rw [Ou (show 1 < b.length by omega)]
  have:=(b[1]'(by omega)).toNat_lt
  show IntKind.i64.wrap ((b[1]'(by omega)).toNat:Int) = _
  rw [IntKind.wrap_i64]; omega
 have w8:IntKind.i64.wrap ((b[(8:Int).toNat]'i8).toNat:Int) = ((bAt b 8).toNat:Int):=by
  rw [Ou (show 8 < b.length by omega)]
  have:=(b[8]'(by omega)).toNat_lt
  show IntKind.i64.wrap ((b[8]'(by omega)).toNat:Int) = _
  rw [IntKind.wrap_i64]; omega
 have w9:IntKind.i64.wrap ((b[(9:Int).toNat]'i9).toNat:Int) = ((bAt b 9).toNat:Int):=by
  rw [Ou (show 9 < b.length by omega)]
  have:=(b[9]'(by omega)).toNat_lt
  show IntKind.i64.wrap ((b[9]'(by omega)).toNat:Int) = _
  rw [IntKind.wrap_i64]; omega
 (refine rg ?_;(conv=>whnf);refine aF ?_;refine rg ?_;conv=>whnf)
 refine ⟨E,by decide,i1,?_⟩
 conv=>whnf
 refine At q4 F294 E E E (by kernel_rfl) E ?_
 refine rd (by kernel_rfl) ?_;conv=>whnf
 refine ⟨E,by decide,i8,?_⟩
 conv=>whnf
 refine ⟨E,by decide,i9,?_⟩
 conv=>whnf
 refine At q12 F296 E E E (by kernel_rfl) E ?_
 refine rd (by kernel_rfl) ?_;conv=>whnf
 refine At q16 F296 E E E (by kernel_rfl) E ?_
 refine rd (by kernel_rfl) ?_;conv=>whnf
 refine At q2 F294 E E E (by kernel_rfl) E ?_
 refine rd (by kernel_rfl) ?_;conv=>whnf
 refine Bi (Bb (lo:=20) (hi:=numAt b 2 2) Γ.toTy E E E E (.inr ⟨_,_,E,E⟩) (.inr ⟨_,_,E,E⟩) hs20 hsl) (by kernel_rfl) E ?_
 refine rd (by kernel_rfl) ?_;conv=>whnf
 refine At qc F63 E E E (by kernel_rfl) E ?_
 refine rd (by kernel_rfl) ?_;conv=>whnf
 refine ⟨(by kernel_rfl),?_⟩
 conv=>whnf
 refine Ac E (.cons (.cell E E E E) (.cons .tmp .nil)) ?_ E
 show SV.tup [.agg [Aa (bAt b 1).toNat,_,Aa (bAt b 8).toNat,Aa (bAt b 9).toNat,_,_,_],_] = SV.tup [.agg [Aa (IntKind.i64.wrap ((b[(1:Int).toNat]'i1).toNat:Int)),_,Aa (IntKind.i64.wrap ((b[(8:Int).toNat]'i8).toNat:Int)),Aa (IntKind.i64.wrap ((b[(9:Int).toNat]'i9).toNat:Int)),_,_,_],_]
 rw [w1,w8,w9]
 rfl
theorem Abf (l:List UInt8) (h:l.length ≤ 6):Sy.Spec Tryz.prog 267 [.sl 1 Aj l] [] (Aa (Ey l)) []:=Ab Γ hm 100 F267 Tryz.ntmps267 rfl fun F hF=>by
 conv=>whnf
 refine Au l.length (fun j=>[(0,.sl 1 Aj l),(3,Aa (Ey (l.take j))),(4,Aa j)]) (fun _=>[]) [] ⟨⟨E,E,E,E,E,E,Y⟩,Y,E,E⟩ ?_
 intro j hj
 have hlt2:=Je _ (l.take j) rfl
 refine rg ?_;conv=>whnf
 refine ⟨fun h2=>?_,fun h2=>?_⟩
 ·have hlt:j < l.length:=by have:=of_decide_eq_true h2; omega
  have hj0:((j:Nat):Int).toNat < l.length:=by simpa using hlt
  have hs:=Un l hlt
  have hll:(l.take j).length = j:=by rw [List.length_take]; omega
  rw [hll] at hlt2
  have h5:Ey (l.take j) < 1099511627776:=Nat.lt_of_lt_of_le hlt2 (by
   have:(256:Nat) ^ j ≤ 256 ^ 5:=Nat.pow_le_pow_right (by decide) (by omega)
   exact this)
  obtain ⟨c,hc⟩:∃ c,l[((j:Nat):Int).toNat]'hj0 = c:=⟨_,rfl⟩
  have hc':l[j] = c:=hc
  rw [hc'] at hs
  have hcn:=c.toNat_lt
  generalize Ey (l.take j) = m at *
  have w0:IntKind.i64.wrap (c.toNat:Int) = c.toNat:=by rw [IntKind.wrap_i64]; omega
  refine rg ?_;conv=>whnf
  refine ⟨by unfold I64; omega,?_⟩
  conv=>whnf
  refine ⟨E,by omega,hj0,?_⟩
  rw [hc]
  conv=>whnf
  rw [w0]
  refine ⟨by unfold I64; omega,?_⟩
  conv=>whnf
  refine ⟨by unfold I64; omega,?_⟩
  conv=>whnf
  refine Ar [] hlt ⟨⟨E,E,congrArg (fun z:Int=>SV.val (.int .i64 z)) ?_,E,E,E,Y⟩,Y,E,E⟩
  rw [hs]
  omega
 ·have hje:j = l.length:=by have:=of_decide_eq_false h2; omega
  subst hje
  rw [List.take_length]
  refine rg ?_;conv=>whnf
  exact Ac E (.cons .tmp .nil) E E
theorem Jx (b:List UInt8) (k m:Nat) (hm:m ≤ 6):Sy.Spec Tryz.prog 267 [.sl 1 Aj ((b.take (k + m)).drop k)] [] (Aa (numAt b k m)) []:=by
 have e:(b.take (k + m)).drop k = (b.drop k).take m:=by rw [List.drop_take]; congr 1; omega
 rw [e]
 exact Abf _ (by rw [List.length_take]; omega)
theorem Xk (b:List UInt8) (hb:b.length < 100000):Sy.Spec Tryz.prog 214 [.sl 1 Aj b] [] (.tup [Iy (ipTakeT b).1,Aa (ipTakeT b).2]) []:=Ab Γ hm 100 F214 Tryz.ntmps214 rfl fun F hF=>by
 have hres:=ipTakeT.eq_1 b
 generalize ipTakeT b = res at *
 conv=>whnf
 refine ⟨fun h=>?_,fun h=>?_⟩
 ·rw [if_pos (by have:=of_decide_eq_true h; omega)] at hres
  subst hres
  refine rg ?_;conv=>whnf
  refine Av 2 zP E (.cons (.refl _) (.cons (.refl _) (.cons (.refl _) (.cons (.refl _) (.cons (.refl _) (.cons (.refl _) (.cons .nil .nil))))))) ?_
  exact Ac E (.cons (.cell E E E E) (.cons .tmp .nil)) E E
 have h20:20 ≤ b.length:=by have:=of_decide_eq_false h; omega
 rw [if_neg (by omega)] at hres
 clear h
 have i0:(0:Int).toNat < b.length:=by show 0 < _; omega
 have i1:(1:Int).toNat < b.length:=by show 1 < _; omega
 have i8:(8:Int).toNat < b.length:=by show 8 < _; omega
 have i9:(9:Int).toNat < b.length:=by show 9 < _; omega
 have e0:b[(0:Int).toNat]'i0 = bAt b 0:=(Ou (by omega)).symm
 have q2:=Jx b 2 2 (by decide)
 have q4:=Jx b 4 2 (by decide)
 have q6:=Jx b 6 2 (by decide)
 have q12:=Jx b 12 4 (by decide)
 have q16:=Jx b 16 4 (by decide)
 have hl20:(b.take 20).length = 20:=by rw [List.length_take]; omega
 have hdiv:(b.take 20).length / 2 = 10:=by rw [hl20]
 have qs:=Adr (b.take 20) (by omega) (by rw [hl20])
 rw [hdiv] at qs
 refine rg ?_;conv=>whnf
 refine Ai (Bb (lo:=2) (hi:=4) Γ.toTy E E E E (.inr ⟨_,_,E,E⟩) (.inr ⟨_,_,E,E⟩) (by omega) (by omega)) E E ?_
 refine rg ?_;conv=>whnf
 refine Ag q2 F267 E E E E E ?_
 refine rg ?_;conv=>whnf
 refine ⟨E,by decide,i0,?_⟩
 rw [e0]
 conv=>whnf
 refine ⟨fun h=>?_,fun h=>?_⟩
 ·rw [if_pos (.inl (by rw [show ((69:Int)) = ((69:UInt8).toNat:Int) from rfl,Wp] at h; exact of_decide_eq_true h))] at hres
  subst hres
  (refine rg ?_;(conv=>whnf);refine aT ?_;refine rg ?_;conv=>whnf)
  refine Av 2 zP E (.cons (.refl _) (.cons (.refl _) (.cons (.refl _) (.cons (.refl _) (.cons (.refl _) (.cons (.refl _) (.cons .nil .nil))))))) ?_
  exact Ac E (.cons (.cell E E E E) (.cons .tmp .nil)) E E
 have h69:¬ bAt b 0 ≠ 69:=by rw [show ((69:Int)) = ((69:UInt8).toNat:Int) from rfl,Wp] at h; exact of_decide_eq_false h
 clear h
 refine rg ?_;conv=>whnf
 refine ⟨fun h=>?_,fun h=>?_⟩
 ·rw [if_pos (.inr (by have:=of_decide_eq_true h; omega))] at hres
  subst hres
  refine rg ?_;conv=>whnf
  refine Av 2 zP E (.cons (.refl _) (.cons (.refl _) (.cons (.refl _) (.cons (.refl _) (.cons (.refl _) (.cons (.refl _) (.cons .nil .nil))))))) ?_
  exact Ac E (.cons (.cell E E E E) (.cons .tmp .nil)) E E
 have hs20:20 ≤ numAt b 2 2:=by have:=of_decide_eq_false h; omega
 rw [if_neg (fun h=>h.elim h69 (by omega))] at hres
 clear h
 refine rg ?_;conv=>whnf
 refine ⟨fun h=>?_,fun h=>?_⟩
 ·rw [if_pos (by have:=of_decide_eq_true h; omega)] at hres
  subst hres
  refine rg ?_;conv=>whnf
  refine Av 2 zP E (.cons (.refl _) (.cons (.refl _) (.cons (.refl _) (.cons (.refl _) (.cons (.refl _) (.cons (.refl _) (.cons .nil .nil))))))) ?_
  exact Ac E (.cons (.cell E E E E) (.cons .tmp .nil)) E E
 have hsl:numAt b 2 2 ≤ b.length:=by have:=of_decide_eq_false h; omega
 rw [if_neg (by omega)] at hres
 clear h
 refine rg ?_;conv=>whnf
 refine Ai (Bb (lo:=6) (hi:=8) Γ.toTy E E E E (.inr ⟨_,_,E,E⟩) (.inr ⟨_,_,E,E⟩) (by omega) (by omega)) E E ?_
 refine rg ?_;conv=>whnf
 refine Ag q6 F267 E E E E E ?_
 refine rg ?_;conv=>whnf
 refine ⟨fun h=>?_,fun h=>?_⟩
 ·rw [if_pos (by have:(numAt b 6 2:Int) ≠ 0:=(by simpa using h); omega)] at hres
  subst hres
  refine rg ?_;conv=>whnf
  refine Av 2 zP E (.cons (.refl _) (.cons (.refl _) (.cons (.refl _) (.cons (.refl _) (.cons (.refl _) (.cons (.refl _) (.cons .nil .nil))))))) ?_
  exact Ac E (.cons (.cell E E E E) (.cons .tmp .nil)) E E
 rw [if_neg (by have:(numAt b 6 2:Int) = 0:=(by simpa using h); omega)] at hres
 clear h
 refine rg ?_;conv=>whnf
 refine Ai (Bb (lo:=0) (hi:=20) Γ.toTy E E E E (.inl ⟨E,E⟩) (.inr ⟨_,_,E,E⟩) (by omega) h20) E E ?_
 refine rg ?_;conv=>whnf
 refine Ag qs F268 E E E E E ?_
 by_cases hsum:C9 (H7 (b.take 20) 10) = 65535
 rotate_left
 ·rw [if_pos hsum] at hres
  subst hres
  rw [decide_eq_false hsum]
  (refine rg ?_;(conv=>whnf);refine aT ?_;refine rg ?_;conv=>whnf)
  refine Av 2 zP E (.cons (.refl _) (.cons (.refl _) (.cons (.refl _) (.cons (.refl _) (.cons (.refl _) (.cons (.refl _) (.cons .nil .nil))))))) ?_
  exact Ac E (.cons (.cell E E E E) (.cons .tmp .nil)) E E
 rw [if_neg (fun h=>h hsum)] at hres
 subst hres
 rw [decide_eq_true hsum]
 have w1:IntKind.i64.wrap ((b[(1:Int).toNat]'i1).toNat:Int) = ((bAt b 1).toNat:Int):=by
  rw [Ou (show 1 < b.length by omega)]
  have:=(b[1]'(by omega)).toNat_lt
  show IntKind.i64.wrap ((b[1]'(by omega)).toNat:Int) = _
  rw [IntKind.wrap_i64]; omega
 have w8:IntKind.i64.wrap ((b[(8:Int).toNat]'i8).toNat:Int) = ((bAt b 8).toNat:Int):=by
  rw [Ou (show 8 < b.length by omega)]
  have:=(b[8]'(by omega)).toNat_lt
  show IntKind.i64.wrap ((b[8]'(by omega)).toNat:Int) = _
  rw [IntKind.wrap_i64]; omega
 have w9:IntKind.i64.wrap ((b[(9:Int).toNat]'i9).toNat:Int) = ((bAt b 9).toNat:Int):=by
  rw [Ou (show 9 < b.length by omega)]
  have:=(b[9]'(by omega)).toNat_lt
  show IntKind.i64.wrap ((b[9]'(by omega)).toNat:Int) = _
  rw [IntKind.wrap_i64]; omega
 have u12:IntKind.u32.wrap (numAt b 12 4:Int) = (numAt b 12 4:Int):=by have:=E7 b 12 4; rw [IntKind.wrap_u32]; omega
 have u16:IntKind.u32.wrap (numAt b 16 4:Int) = (numAt b 16 4:Int):=by have:=E7 b 16 4; rw [IntKind.wrap_u32]; omega
 (refine rg ?_;(conv=>whnf);refine aF ?_;refine rg ?_;conv=>whnf)
 refine ⟨E,by decide,i1,?_⟩
 conv=>whnf
 refine Bi (Bb (lo:=4) (hi:=6) Γ.toTy E E E E (.inr ⟨_,_,E,E⟩) (.inr ⟨_,_,E,E⟩) (by omega) (by omega)) (by kernel_rfl) E ?_
 refine rd (by kernel_rfl) ?_;conv=>whnf
 refine At q4 F267 E E E (by kernel_rfl) E ?_
 refine rd (by kernel_rfl) ?_;conv=>whnf
 refine ⟨E,by decide,i8,?_⟩
 conv=>whnf
 refine ⟨E,by decide,i9,?_⟩
 conv=>whnf
 refine ⟨(by kernel_rfl),?_⟩
 rw [w1,w8,w9]
 conv=>whnf
 refine Ai (Bb (lo:=12) (hi:=16) Γ.toTy E E E E (.inr ⟨_,_,E,E⟩) (.inr ⟨_,_,E,E⟩) (by omega) (by omega)) E E ?_
 refine rg ?_;conv=>whnf
 refine Ag q12 F267 E E E E E ?_
 refine rg ?_;conv=>whnf
 rw [u12]
 refine Ai (Bb (lo:=16) (hi:=20) Γ.toTy E E E E (.inr ⟨_,_,E,E⟩) (.inr ⟨_,_,E,E⟩) (by omega) (by omega)) E E ?_
 refine rg ?_;conv=>whnf
 refine Ag q16 F267 E E E E E ?_
 refine rg ?_;conv=>whnf
 rw [u16]
 refine Ai (Bb (lo:=20) (hi:=numAt b 2 2) Γ.toTy E E E E (.inr ⟨_,_,E,E⟩) (.inr ⟨_,_,E,E⟩) hs20 hsl) E E ?_
 refine rg ?_;conv=>whnf
 refine Ai (Af Γ.toTy 67 E E E E E (.lit (e:=Aj) (l:=[]) E E) .sl (by simp) (by simp; omega) (by simp; omega)) E E ?_
 refine As 67 E ?_
 refine rg ?_;conv=>whnf
 exact Ac E (.cons (.cell E E E E) (.cons .tmp .nil)) E E
theorem Am6 (t:Nat) (h:t ≤ 255):bits .or .i64 17664 (t:Int) = ((17664 + t:Nat):Int):=by
 have h1:=Df 17664 t (by decide) (by omega)
 rw [show ((17664:Nat):Int) = 17664 from rfl] at h1
 rw [h1]
 congr 1
 have h2:=Nat.two_pow_add_eq_or_of_lt (i:=8) (b:=t) (by omega) 69
 rw [show 2 ^ 8 * 69 = 17664 from rfl] at h2
 rw [← h2]
theorem Apn (x y:Nat) (hx:x ≤ 255) (hy:y ≤ 255):bits .or .i64 (IntKind.i64.wrap ((x:Int) * 2 ^ min (Int.toNat 8) IntKind.i64.bits)) (y:Int) = ((x * 256 + y:Nat):Int):=by
 have h3:IntKind.i64.wrap ((x:Int) * 2 ^ min (Int.toNat 8) IntKind.i64.bits) = ((x * 256:Nat):Int):=by
  show IntKind.i64.wrap ((x:Int) * 256) = _
  rw [IntKind.wrap_i64]
  omega
 rw [h3,Df _ _ (by omega) (by omega)]
 congr 1
 have h:=Nat.two_pow_add_eq_or_of_lt (i:=8) (b:=y) (by omega) x
 rw [Nat.mul_comm x 256]
 exact h.symm
theorem Aen (x:Nat) (h:x < 4294967296):IntKind.i64.wrap ((x:Int).fdiv (2 ^ (min (Int.toNat 16) IntKind.u32.bits))) = ((x / 65536:Nat):Int):=by
 show IntKind.i64.wrap ((x:Int).fdiv 65536) = _
 rw [Int.fdiv_eq_ediv_of_nonneg _ (by decide),IntKind.wrap_i64]
 omega
theorem Wl (x:Nat) (h:x < 4294967296):IntKind.i64.wrap (x:Int) = (x:Int):=by rw [IntKind.wrap_i64]; omega
theorem Aiz (p:PacketM) (hp:PacketOK p) (hb:p.body.length < 100000):Sy.Spec Tryz.prog 248 [Iy p] [] (.tup [.sl 1 Aj (ipPutT p).1,Aa (ipPutT p).2]) []:=Ab Γ hm 100 F248 Tryz.ntmps248 rfl fun F hF=>by
 have hres:=ipPutT.eq_1 p
 generalize ipPutT p = res at *
 have h1:=hp.tos
 have h2:=hp.id
 have h3:=hp.ttl
 have h4:=hp.proto
 have h5:=hp.src
 have h6:=hp.dst
 conv=>whnf
 refine Ep ⟨⟨_,_,F303⟩,Aa3 p.tos 255 (by omega)⟩ E E E E E E ?_
 (refine rg ?_;(conv=>whnf);refine aF ?_;refine rg ?_;conv=>whnf)
 refine Ep ⟨⟨_,_,F303⟩,Aa3 p.ttl 255 (by omega)⟩ E E E E E E ?_
 (refine rg ?_;(conv=>whnf);refine aF ?_;refine rg ?_;conv=>whnf)
 refine Ep ⟨⟨_,_,F303⟩,Aa3 p.proto 255 (by omega)⟩ E E E E E E ?_
 (refine rg ?_;(conv=>whnf);refine aF ?_;refine rg ?_;conv=>whnf)
 refine Ep ⟨⟨_,_,F303⟩,Aa3 p.id 65535 (by omega)⟩ E E E E E E ?_
 (refine rg ?_;(conv=>whnf);refine aF ?_;refine rg ?_;conv=>whnf)
 refine ⟨fun h=>?_,fun h=>?_⟩
 ·rw [if_pos (by have:=of_decide_eq_true h; omega)] at hres
  subst hres
  refine rg ?_;conv=>whnf
  refine An 2 1 Aj E ?_
  exact Ac E (.cons .tmp (.cons .tmp .nil)) E E
 have hl:p.body.length ≤ 1480:=by have:=of_decide_eq_false h; omega
 rw [if_neg (by omega)] at hres
 subst hres
 clear h
 have hsz:Ts p = ((Hj p 0).set 10 (UInt8.ofNat (Lh p / 256))).set 11 (UInt8.ofNat (Lh p)) ++ p.body:=by rw [Ahj,Ts]
 rw [hsz]
 have hil:=Kz p 0
 have hs:=sumOfS (Hj p 0) (by rw [hil]; decide) (by rw [hil])
 have hput:=Anq [17664 + p.tos,20 + p.body.length,p.id,0,p.ttl * 256 + p.proto,0,p.src / 65536,p.src,p.dst / 65536,p.dst] (by simp)
 rw [show J2 [17664 + p.tos,20 + p.body.length,p.id,0,p.ttl * 256 + p.proto,0,p.src / 65536,p.src,p.dst / 65536,p.dst] = Hj p 0 from rfl] at hput
 have hss:S4 (Hj p 0) = Lh p:=rfl
 rw [hss] at hs
 have hsl:Lh p ≤ 65535:=Nat.sub_le _ _
 generalize Lh p = s at *
 have htb:=Er s
 have o1:=Am6 p.tos h1
 have o2:=Apn p.ttl p.proto h3 h4
 have g1:=Aen p.src h5
 have g2:=Wl p.src h5
 have g3:=Aen p.dst h6
 have g4:=Wl p.dst h6
 generalize Hj p 0 = b at *
 refine rg ?_;conv=>whnf
 refine ⟨by unfold I64; omega,?_⟩
 conv=>whnf
 refine ⟨by decide,?_⟩
 conv=>whnf
 refine ⟨by decide,?_⟩
 conv=>whnf
 refine ⟨by decide,?_⟩
 conv=>whnf
 refine Afj 68 (e:=Ang) (l:=[17664 + p.tos,20 + p.body.length,p.id,0,p.ttl * 256 + p.proto,0,p.src / 65536,p.src,p.dst / 65536,p.dst]) E ?_ ?_
 ·show _ = [SV.val (.int .i64 (bits .or .i64 17664 (p.tos:Int))),SV.val _,SV.val _,SV.val _,SV.val (.int .i64 (bits .or .i64 (IntKind.i64.wrap ((p.ttl:Int) * 2 ^ min (Int.toNat 8) IntKind.i64.bits)) (p.proto:Int))),SV.val _,
   SV.val (.int .i64 (IntKind.i64.wrap ((p.src:Int).fdiv (2 ^ (min (Int.toNat 16) IntKind.u32.bits))))),SV.val (.int .i64 (IntKind.i64.wrap (p.src:Int))),SV.val (.int .i64 (IntKind.i64.wrap ((p.dst:Int).fdiv (2 ^ (min (Int.toNat 16) IntKind.u32.bits))))),SV.val (.int .i64 (IntKind.i64.wrap (p.dst:Int)))]
  rw [o1,o2,g1,g2,g3,g4]
  rfl
 refine As 68 E ?_
 refine Ai (Ak [(0,69)] E F304 hput E Y E ⟨.inr E,Y⟩) E E ?_
 refine rg ?_;conv=>whnf
 refine Afb [69] hs F305 E (.cons (.row E E) .nil) E E E ?_
 refine rg ?_;conv=>whnf
 have hb1:=(List.cons.inj htb).1
 have hb2:=(List.cons.inj (List.cons.inj htb).2).1
 refine ⟨by omega,?_⟩
 conv=>whnf
 refine ⟨by decide,by rw [hil]; decide,?_⟩
 conv=>whnf
 refine ⟨E,by rw [hil]; decide,UInt8.ofNat (s / 256),congrArg (fun z=>[z]) hb1,E,?_⟩
 conv=>whnf
 refine ⟨by decide,by simp [hil],?_⟩
 conv=>whnf
 refine ⟨E,by simp [hil],UInt8.ofNat s,congrArg (fun z=>[z]) hb2,E,?_⟩
 conv=>whnf
 refine Ai (Af Γ.toTy 84 E E E E E (.row E) .sl (by decide) (by simp [hil]; omega) (by simp [hil]; omega)) E E ?_
 refine As 84 E ?_
 refine rg ?_;conv=>whnf
 exact Ac E (.cons .tmp (.cons .tmp .nil)) E E
theorem Wy (n:Nat):IntKind.u8.wrap (n:Int) = ((UInt8.ofNat n).toNat:Int):=Aqq n
theorem Z2 (p:PacketM) (hp:PacketOK p) (hb:p.body.length < 100000):Sy.Spec Tryz.prog 217 [Iy p] [] (.tup [.sl 1 Aj (ipPutT p).1,Aa (ipPutT p).2]) []:=Ab Γ hm 100 F217 Tryz.ntmps217 rfl fun F hF=>by
 have hres:=ipPutT.eq_1 p
 generalize ipPutT p = res at *
 have h1:=hp.tos
 have h2:=hp.id
 have h3:=hp.ttl
 have h4:=hp.proto
 have h5:=hp.src
 have h6:=hp.dst
 conv=>whnf
 refine Ag (Apl p.tos 255 (by omega)) F273 E E E E E ?_
 (refine rg ?_;(conv=>whnf);refine aF ?_;refine rg ?_;conv=>whnf)
 refine Ag (Apl p.ttl 255 (by omega)) F273 E E E E E ?_
 (refine rg ?_;(conv=>whnf);refine aF ?_;refine rg ?_;conv=>whnf)
 refine Ag (Apl p.proto 255 (by omega)) F273 E E E E E ?_
 (refine rg ?_;(conv=>whnf);refine aF ?_;refine rg ?_;conv=>whnf)
 refine Ag (Apl p.id 65535 (by omega)) F273 E E E E E ?_
 (refine rg ?_;(conv=>whnf);refine aF ?_;refine rg ?_;conv=>whnf)
 refine ⟨fun h=>?_,fun h=>?_⟩
 ·rw [if_pos (by have:=of_decide_eq_true h; omega)] at hres
  subst hres
  refine rg ?_;conv=>whnf
  refine An 2 1 Aj E ?_
  exact Ac E (.cons .tmp (.cons .tmp .nil)) E E
 have hl:p.body.length ≤ 1480:=by have:=of_decide_eq_false h; omega
 rw [if_neg (by omega)] at hres
 subst hres
 clear h
 have hall:=Aek hp
 have hsum:=Aej hp hl
 have h2l:=Oa p
 have hs:=Aj8 (Qc p) (by rw [h2l]; decide) (by rw [h2l])
 rw [hsum] at hs
 have hsl:Lh p ≤ 65535:=Nat.sub_le _ _
 have hby:Ts p = [69,UInt8.ofNat p.tos] ++ be 2 (20 + p.body.length) ++ be 2 p.id ++ [0,0,UInt8.ofNat p.ttl,UInt8.ofNat p.proto] ++ be 2 (Lh p) ++ (be 4 p.src ++ be 4 p.dst) ++ p.body:=by rw [hall,Ts]
 rw [hby]
 clear hby hall
 generalize Lh p = s at *
 have g2:=Wl p.src h5
 have g4:=Wl p.dst h6
 have b2:=K9 p.src 4 (by omega) (by decide)
 have b4:=K9 p.dst 4 (by omega) (by decide)
 rw [← g2] at b2
 rw [← g4] at b4
 have hu1:=Wy p.tos
 have hu3:=Wy p.ttl
 have hu4:=Wy p.proto
 have hm1:[69,UInt8.ofNat p.tos].map Aj = [SV.val (.int .u8 69),SV.val (.int .u8 (IntKind.u8.wrap (p.tos:Int)))]:=by rw [hu1]; rfl
 have hm2:[0,0,UInt8.ofNat p.ttl,UInt8.ofNat p.proto].map Aj = [SV.val (.int .u8 0),SV.val (.int .u8 0),SV.val (.int .u8 (IntKind.u8.wrap (p.ttl:Int))),SV.val (.int .u8 (IntKind.u8.wrap (p.proto:Int)))]:=by rw [hu3,hu4]; rfl
 refine rg ?_;conv=>whnf
 refine ⟨by unfold I64; omega,?_⟩
 conv=>whnf
 refine Ai (Ak [(0,39)] E F274 (K9 (20 + p.body.length) 2 (by omega) (by decide)) E Y E ⟨.inr E,Y⟩) E E ?_
 refine rg ?_;conv=>whnf
 refine Ai (Af Γ.toTy 40 E E E E E (.lit (e:=Aj) (l:=[69,UInt8.ofNat p.tos]) E hm1) (.row E) (by decide) (by simp [A4]) (by simp [A4])) E E ?_
 refine rg ?_;conv=>whnf
 refine Ai (Ak [(0,44)] E F274 (K9 p.id 2 (by omega) (by decide)) E Y E ⟨.inr E,Y⟩) E E ?_
 refine rg ?_;conv=>whnf
 refine Ai (Af Γ.toTy 45 E E E E E (.row E) (.row E) (by decide) (by simp [A4]) (by simp [A4])) E E ?_
 refine rg ?_;conv=>whnf
 refine Ai (Af Γ.toTy 54 E E E E E (.row E) (.lit (e:=Aj) (l:=[0,0,UInt8.ofNat p.ttl,UInt8.ofNat p.proto]) E hm2) (by decide) (by simp [A4]) (by simp [A4])) E E ?_
 refine rg ?_;conv=>whnf
 refine Bi (Ak [(0,58)] E F274 b2 E Y E ⟨.inr E,Y⟩) (by kernel_rfl) E ?_
 refine rd (by kernel_rfl) ?_;conv=>whnf
 refine Bi (Ak [(0,62)] E F274 b4 E Y E ⟨.inr E,Y⟩) (by kernel_rfl) E ?_
 refine rd (by kernel_rfl) ?_;conv=>whnf
 refine Bi (Af Γ.toTy 63 E E E E E (.row E) (.row E) (by decide) (by simp [A4]) (by simp [A4])) (by kernel_rfl) E ?_
 refine rd (by kernel_rfl) ?_;conv=>whnf
 refine ⟨(by kernel_rfl),?_⟩
 conv=>whnf
 refine Ai (Af Γ.toTy 66 E E E E E (.lit (e:=Aj) (l:=[]) E E) (.row E) (by decide) (by simp [A4]) (by simp [A4])) E E ?_
 refine rg ?_;conv=>whnf
 refine Ai (Af Γ.toTy 68 E E E E E (.row E) (.row E) (by decide) (by simp [A4]) (by simp [A4])) E E ?_
 refine rg ?_;conv=>whnf
 refine Afb [68] hs F275 E (.cons (.row ?_ E) .nil) E E E ?_
 ·rfl
 refine rg ?_;conv=>whnf
 refine Ai (Ak [(0,72)] E F274 (K9 s 2 (by omega) (by decide)) E Y E ⟨.inr E,Y⟩) E E ?_
 refine rg ?_;conv=>whnf
 refine Ai (Af Γ.toTy 73 E E E E E (.row E) (.row E) (by decide) (by simp [A4]) (by simp [A4])) E E ?_
 refine rg ?_;conv=>whnf
 refine Ai (Af Γ.toTy 75 E E E E E (.row E) (.row E) (by decide) (by simp [A4]) (by simp [A4])) E E ?_
 refine rg ?_;conv=>whnf
 refine Ai (Af Γ.toTy 79 E E E E E (.row E) .sl (by decide) (by simp [A4]; omega) (by simp [A4]; omega)) E E ?_
 refine As 79 E ?_
 refine rg ?_;conv=>whnf
 exact Ac E (.cons .tmp (.cons .tmp .nil)) E E
def hop1 (p:PacketM):PacketM × Int:=if p.ttl ≤ 1 then (noP,13) else (Aem p,0)
theorem ipHopS (p:PacketM) (hb:p.body.length < 100000) (ht:p.ttl ≤ 255):Sy.Spec Tryz.prog 246 [Iy p] [] (.tup [Iy (hop1 p).1,Aa (hop1 p).2]) []:=Ab Γ hm 100 F246 Tryz.ntmps246 rfl fun F hF=>by
 have hres:=hop1.eq_1 p
 generalize hop1 p = res at *
 have qc:=Md p.body (by omega)
 conv=>whnf
 refine ⟨fun h=>?_,fun h=>?_⟩
 ·rw [if_pos (by have:=of_decide_eq_true h; omega)] at hres
  subst hres
  refine rg ?_;conv=>whnf
  refine Av 2 zP E (.cons (.refl _) (.cons (.refl _) (.cons (.refl _) (.cons (.refl _) (.cons (.refl _) (.cons (.refl _) (.cons .nil .nil))))))) ?_
  exact Ac E (.cons (.cell E E E E) (.cons .tmp .nil)) E E
 have h2:¬ p.ttl ≤ 1:=by have:=of_decide_eq_false h; omega
 rw [if_neg h2] at hres
 subst hres
 have e:((p.ttl - 1:Nat):Int) = (p.ttl:Int) - 1:=by omega
 refine rg ?_;conv=>whnf
 refine ⟨by unfold I64; omega,?_⟩
 conv=>whnf
 refine Ag qc F63 E E E E E ?_
 refine rg ?_;conv=>whnf
 refine Ac E (.cons (.cell E E E E) (.cons .tmp .nil)) ?_ E
 show SV.tup [.agg [_,_,Aa ((p.ttl - 1:Nat):Int),_,_,_,_],_] = SV.tup [.agg [_,_,Aa ((p.ttl:Int) - 1),_,_,_,_],_]
 rw [e]
 rfl
theorem Akj (p:PacketM) (hb:p.body.length < 100000) (ht:p.ttl ≤ 255):Sy.Spec Tryz.prog 215 [Iy p] [] (.tup [Iy (hop1 p).1,Aa (hop1 p).2]) []:=Ab Γ hm 100 F215 Tryz.ntmps215 rfl fun F hF=>by
 have hres:=hop1.eq_1 p
 generalize hop1 p = res at *
 conv=>whnf
 refine ⟨fun h=>?_,fun h=>?_⟩
 ·rw [if_pos (by have:=of_decide_eq_true h; omega)] at hres
  subst hres
  refine rg ?_;conv=>whnf
  refine Av 2 zP E (.cons (.refl _) (.cons (.refl _) (.cons (.refl _) (.cons (.refl _) (.cons (.refl _) (.cons (.refl _) (.cons .nil .nil))))))) ?_
  exact Ac E (.cons (.cell E E E E) (.cons .tmp .nil)) E E
 have h2:¬ p.ttl ≤ 1:=by have:=of_decide_eq_false h; omega
 rw [if_neg h2] at hres
 subst hres
 have e:((p.ttl - 1:Nat):Int) = (p.ttl:Int) - 1:=by omega
 refine rg ?_;conv=>whnf
 refine ⟨by unfold I64; omega,?_⟩
 conv=>whnf
 refine Ac E (.cons (.cell E E E E) (.cons .tmp .nil)) ?_ E
 show SV.tup [.agg [_,_,Aa ((p.ttl - 1:Nat):Int),_,_,_,_],_] = SV.tup [.agg [_,_,Aa ((p.ttl:Int) - 1),_,_,_,_],_]
 rw [e]
 rfl
def udpU (b:List UInt8):Nat → List SV
 | 0=>[Aa 0,Aa 0,Aa 0,Aa 0]
 | 1=>[Aa (numAt b 0 2),Aa 0,Aa 0,Aa 0]
 | 2=>[Aa (numAt b 0 2),Aa (numAt b 2 2),Aa 0,Aa 0]
 | 3=>[Aa (numAt b 0 2),Aa (numAt b 2 2),Aa (numAt b 4 2),Aa 0]
 | _=>[Aa (numAt b 0 2),Aa (numAt b 2 2),Aa (numAt b 4 2),Aa (numAt b 6 2)]
theorem Al4 (b:List UInt8) (hb:b.length < 100000):Sy.Spec Tryz.prog 339 [.sl 1 Aj b] [] (.tup [Aa (udpTakeT b).1,Aa (udpTakeT b).2.1,.sl 1 Aj (udpTakeT b).2.2.1,Aa (udpTakeT b).2.2.2]) []:=Ab Γ hm 100 F339 Tryz.ntmps339 rfl fun F hF=>by
 have hres:=udpTakeT.eq_1 b
 generalize udpTakeT b = res at *
 conv=>whnf
 refine ⟨fun h=>?_,fun h=>?_⟩
 ·rw [if_pos (by have:=of_decide_eq_true h; omega)] at hres
  subst hres
  refine rg ?_;conv=>whnf
  refine An 4 1 Aj E ?_
  exact Ac E (.cons .tmp (.cons .tmp (.cons .tmp (.cons .tmp .nil)))) E E
 have h8:8 ≤ b.length:=by have:=of_decide_eq_false h; omega
 rw [if_neg (by omega)] at hres
 clear h
 have hp0:=Ev (b[0]'(by omega)) (b[1]'(by omega))
 rw [← J4 (show 0 + 2 ≤ b.length by omega)] at hp0
 have hp1:=Ev (b[2]'(by omega)) (b[3]'(by omega))
 rw [← J4 (show 2 + 2 ≤ b.length by omega)] at hp1
 have hp2:=Ev (b[4]'(by omega)) (b[5]'(by omega))
 rw [← J4 (show 4 + 2 ≤ b.length by omega)] at hp2
 have hp3:=Ev (b[6]'(by omega)) (b[7]'(by omega))
 rw [← J4 (show 6 + 2 ≤ b.length by omega)] at hp3
 refine rg ?_;conv=>whnf
 refine Au 4 (fun j=>[(0,.sl 1 Aj b),(6,.ptr 6 0),(11,Aa j)]) (fun j=>[(6,.box (udpU b j))]) [] ⟨⟨E,E,E,E,E,E,Y⟩,⟨.inl E,E,Y⟩,E,E⟩ ?_
 intro j hj
 have hcase:j = 0 ∨ j = 1 ∨ j = 2 ∨ j = 3 ∨ j = 4:=by omega
 rcases hcase with rfl | rfl | rfl | rfl | rfl
 ·(refine rg ?_;(conv=>whnf);refine aT ?_;refine rg ?_;conv=>whnf)
  refine ⟨by unfold I64; omega,?_⟩
  conv=>whnf
  refine ⟨E,by omega,by omega,?_⟩
  conv=>whnf
  refine ⟨by decide,?_⟩
  conv=>whnf
  refine ⟨by unfold I64; omega,?_⟩
  conv=>whnf
  refine ⟨by unfold I64; omega,?_⟩
  conv=>whnf
  refine ⟨E,by omega,by omega,?_⟩
  conv=>whnf
  refine ⟨by decide,by decide,?_⟩
  conv=>whnf
  refine ⟨(by kernel_rfl),?_⟩
  conv=>whnf
  refine ⟨by unfold I64; omega,?_⟩
  conv=>whnf
  exact Ar [] (by decide) ⟨⟨E,E,E,E,E,E,Y⟩,⟨.inl (congrArg (fun z:Int=>Ob.box [Aa z,Aa 0,Aa 0,Aa 0]) hp0.symm),E,Y⟩,E,E⟩
 ·(refine rg ?_;(conv=>whnf);refine aT ?_;refine rg ?_;conv=>whnf)
  refine ⟨by unfold I64; omega,?_⟩
  conv=>whnf
  refine ⟨E,by omega,by omega,?_⟩
  conv=>whnf
  refine ⟨by decide,?_⟩
  conv=>whnf
  refine ⟨by unfold I64; omega,?_⟩
  conv=>whnf
  refine ⟨by unfold I64; omega,?_⟩
  conv=>whnf
  refine ⟨E,by omega,by omega,?_⟩
  conv=>whnf
  refine ⟨by decide,by decide,?_⟩
  conv=>whnf
  refine ⟨(by kernel_rfl),?_⟩
  conv=>whnf
  refine ⟨by unfold I64; omega,?_⟩
  conv=>whnf
  exact Ar [] (by decide) ⟨⟨E,E,E,E,E,E,Y⟩,⟨.inl (congrArg (fun z:Int=>Ob.box [Aa (numAt b 0 2),Aa z,Aa 0,Aa 0]) hp1.symm),E,Y⟩,E,E⟩
 ·(refine rg ?_;(conv=>whnf);refine aT ?_;refine rg ?_;conv=>whnf)
  refine ⟨by unfold I64; omega,?_⟩
  conv=>whnf
  refine ⟨E,by omega,by omega,?_⟩
  conv=>whnf
  refine ⟨by decide,?_⟩
  conv=>whnf
  refine ⟨by unfold I64; omega,?_⟩
  conv=>whnf
  refine ⟨by unfold I64; omega,?_⟩
  conv=>whnf
  refine ⟨E,by omega,by omega,?_⟩
  conv=>whnf
  refine ⟨by decide,by decide,?_⟩
  conv=>whnf
  refine ⟨(by kernel_rfl),?_⟩
  conv=>whnf
  refine ⟨by unfold I64; omega,?_⟩
  conv=>whnf
  exact Ar [] (by decide) ⟨⟨E,E,E,E,E,E,Y⟩,⟨.inl (congrArg (fun z:Int=>Ob.box [Aa (numAt b 0 2),Aa (numAt b 2 2),Aa z,Aa 0]) hp2.symm),E,Y⟩,E,E⟩
 ·(refine rg ?_;(conv=>whnf);refine aT ?_;refine rg ?_;conv=>whnf)
  refine ⟨by unfold I64; omega,?_⟩
  conv=>whnf
  refine ⟨E,by omega,by omega,?_⟩
  conv=>whnf
  refine ⟨by decide,?_⟩
  conv=>whnf
  refine ⟨by unfold I64; omega,?_⟩
  conv=>whnf
  refine ⟨by unfold I64; omega,?_⟩
  conv=>whnf
  refine ⟨E,by omega,by omega,?_⟩
  conv=>whnf
  refine ⟨by decide,by decide,?_⟩
  conv=>whnf
  refine ⟨(by kernel_rfl),?_⟩
  conv=>whnf
  refine ⟨by unfold I64; omega,?_⟩
  conv=>whnf
  exact Ar [] (by decide) ⟨⟨E,E,E,E,E,E,Y⟩,⟨.inl (congrArg (fun z:Int=>Ob.box [Aa (numAt b 0 2),Aa (numAt b 2 2),Aa (numAt b 4 2),Aa z]) hp3.symm),E,Y⟩,E,E⟩
 clear hp0 hp1 hp2 hp3
 (refine rg ?_;(conv=>whnf);refine aF ?_;refine rg ?_;conv=>whnf)
 refine ⟨by decide,by decide,?_⟩
 conv=>whnf
 refine ⟨fun h=>?_,fun h=>?_⟩
 ·rw [if_pos (by have:=of_decide_eq_true h; omega)] at hres
  subst hres
  refine rg ?_;conv=>whnf
  refine An 4 1 Aj E ?_
  exact Ac E (.cons .tmp (.cons .tmp (.cons .tmp (.cons .tmp .nil)))) E E
 have hs8:8 ≤ numAt b 4 2:=by have:=of_decide_eq_false h; omega
 rw [if_neg (by omega)] at hres
 clear h
 refine rg ?_;conv=>whnf
 refine ⟨by decide,by decide,?_⟩
 conv=>whnf
 refine ⟨fun h=>?_,fun h=>?_⟩
 ·rw [if_pos (by have:=of_decide_eq_true h; omega)] at hres
  subst hres
  refine rg ?_;conv=>whnf
  refine An 4 1 Aj E ?_
  exact Ac E (.cons .tmp (.cons .tmp (.cons .tmp (.cons .tmp .nil)))) E E
 have hsl:numAt b 4 2 ≤ b.length:=by have:=of_decide_eq_false h; omega
 rw [if_neg (by omega)] at hres
 clear h
 refine rg ?_;conv=>whnf
 refine ⟨by decide,by decide,?_⟩
 conv=>whnf
 refine ⟨fun h=>?_,fun h=>?_⟩
 ·rw [if_pos (by have:(numAt b 6 2:Int) ≠ 0:=(by simpa using h); omega)] at hres
  subst hres
  refine rg ?_;conv=>whnf
  refine An 4 1 Aj E ?_
  exact Ac E (.cons .tmp (.cons .tmp (.cons .tmp (.cons .tmp .nil)))) E E
 rw [if_neg (by have:(numAt b 6 2:Int) = 0:=(by simpa using h); omega)] at hres
 subst hres
 clear h
 have qc:=Md ((b.take (numAt b 4 2)).drop 8) (by rw [List.length_drop,List.length_take]; omega)
 refine rg ?_;conv=>whnf
 refine ⟨by decide,by decide,?_⟩
 conv=>whnf
 refine ⟨by decide,by decide,?_⟩
 conv=>whnf
 refine ⟨by decide,by decide,?_⟩
 conv=>whnf
 refine Bi (Bb (lo:=8) (hi:=numAt b 4 2) Γ.toTy E E E E (.inr ⟨_,_,E,E⟩) (.inr ⟨_,_,E,E⟩) hs8 hsl) (by kernel_rfl) E ?_
 refine rd (by kernel_rfl) ?_;conv=>whnf
 refine At qc F63 E E E (by kernel_rfl) E ?_
 refine rd (by kernel_rfl) ?_;conv=>whnf
 refine ⟨(by kernel_rfl),?_⟩
 conv=>whnf
 exact Ac E (.cons .tmp (.cons .tmp (.cons .tmp (.cons .tmp .nil)))) E E
theorem Agi (b:List UInt8) (hb:b.length < 100000):Sy.Spec Tryz.prog 279 [.sl 1 Aj b] [] (.tup [Aa (udpTakeT b).1,Aa (udpTakeT b).2.1,.sl 1 Aj (udpTakeT b).2.2.1,Aa (udpTakeT b).2.2.2]) []:=Ab Γ hm 100 F279 Tryz.ntmps279 rfl fun F hF=>by
 have hres:=udpTakeT.eq_1 b
 generalize udpTakeT b = res at *
 conv=>whnf
 refine ⟨fun h=>?_,fun h=>?_⟩
 ·rw [if_pos (by have:=of_decide_eq_true h; omega)] at hres
  subst hres
  refine rg ?_;conv=>whnf
  refine An 4 1 Aj E ?_
  exact Ac E (.cons .tmp (.cons .tmp (.cons .tmp (.cons .tmp .nil)))) E E
 have h8:8 ≤ b.length:=by have:=of_decide_eq_false h; omega
 rw [if_neg (by omega)] at hres
 clear h
 have n0:=J4 (show 0 + 2 ≤ b.length by omega)
 have n2:=J4 (show 2 + 2 ≤ b.length by omega)
 have n4:=J4 (show 4 + 2 ≤ b.length by omega)
 have n6:=J4 (show 6 + 2 ≤ b.length by omega)
 have hp0:=Lc (b[0]'(by omega)) (b[1]'(by omega))
 have hp2:=Lc (b[2]'(by omega)) (b[3]'(by omega))
 have hp4:=Lc (b[4]'(by omega)) (b[5]'(by omega))
 rw [← n0] at hp0
 rw [← n2] at hp2
 rw [← n4] at hp4
 have w:∀ x:UInt8,IntKind.i64.wrap (x.toNat:Int) = x.toNat ∧ x.toNat < 256:=fun x=>by have:=x.toNat_lt; refine ⟨?_,this⟩; rw [IntKind.wrap_i64]; omega
 obtain ⟨w0,l0⟩:=w (b[0]'(by omega))
 obtain ⟨w1,l1⟩:=w (b[1]'(by omega))
 obtain ⟨w2,l2⟩:=w (b[2]'(by omega))
 obtain ⟨w3,l3⟩:=w (b[3]'(by omega))
 obtain ⟨w4,l4⟩:=w (b[4]'(by omega))
 obtain ⟨w5,l5⟩:=w (b[5]'(by omega))
 have i0:(0:Int).toNat < b.length:=by show 0 < _; omega
 have i1:(1:Int).toNat < b.length:=by show 1 < _; omega
 have i2:(2:Int).toNat < b.length:=by show 2 < _; omega
 have i3:(3:Int).toNat < b.length:=by show 3 < _; omega
 have i4:(4:Int).toNat < b.length:=by show 4 < _; omega
 have i5:(5:Int).toNat < b.length:=by show 5 < _; omega
 have i6:(6:Int).toNat < b.length:=by show 6 < _; omega
 have i7:(7:Int).toNat < b.length:=by show 7 < _; omega
 have e4:b[(4:Int).toNat]'i4 = b[4]'(by omega):=rfl
 have e5:b[(5:Int).toNat]'i5 = b[5]'(by omega):=rfl
 have e6:b[(6:Int).toNat]'i6 = b[6]'(by omega):=rfl
 have e7:b[(7:Int).toNat]'i7 = b[7]'(by omega):=rfl
 refine rg ?_;conv=>whnf
 refine ⟨E,by decide,i4,?_⟩
 rw [e4]
 conv=>whnf
 refine ⟨by rw [w4]; unfold I64; omega,?_⟩
 conv=>whnf
 refine ⟨E,by decide,i5,?_⟩
 rw [e5]
 conv=>whnf
 refine ⟨by rw [hp4]; unfold I64; have:=E7 b 4 2; omega,?_⟩
 rw [hp4]
 conv=>whnf
 refine ⟨(by kernel_rfl),?_⟩
 conv=>whnf
 refine ⟨fun h=>?_,fun h=>?_⟩
 ·rw [if_pos (by have:=of_decide_eq_true h; omega)] at hres
  subst hres
  refine rg ?_;conv=>whnf
  refine An 4 1 Aj E ?_
  exact Ac E (.cons .tmp (.cons .tmp (.cons .tmp (.cons .tmp .nil)))) E E
 have hs8:8 ≤ numAt b 4 2:=by have:=of_decide_eq_false h; omega
 rw [if_neg (by omega)] at hres
 clear h
 refine rg ?_;conv=>whnf
 refine ⟨fun h=>?_,fun h=>?_⟩
 ·rw [if_pos (by have:=of_decide_eq_true h; omega)] at hres
  subst hres
  refine rg ?_;conv=>whnf
  refine An 4 1 Aj E ?_
  exact Ac E (.cons .tmp (.cons .tmp (.cons .tmp (.cons .tmp .nil)))) E E
 have hsl:numAt b 4 2 ≤ b.length:=by have:=of_decide_eq_false h; omega
 rw [if_neg (by omega)] at hres
 clear h
 refine rg ?_;conv=>whnf
 refine ⟨E,by decide,i6,?_⟩
 rw [e6]
 conv=>whnf
 refine ⟨fun h=>?_,fun h=>?_⟩
 ·have h2:((b[6]'(by omega)).toNat:Int) ≠ 0:=by simpa using h
  rw [if_pos (by rw [n6]; omega)] at hres
  subst hres
  (refine rg ?_;(conv=>whnf);refine aT ?_;refine rg ?_;conv=>whnf)
  refine An 4 1 Aj E ?_
  exact Ac E (.cons .tmp (.cons .tmp (.cons .tmp (.cons .tmp .nil)))) E E
 have h6:((b[6]'(by omega)).toNat:Int) = 0:=by simpa using h
 clear h
 refine rg ?_;conv=>whnf
 refine ⟨E,by decide,i7,?_⟩
 rw [e7]
 conv=>whnf
 refine ⟨fun h=>?_,fun h=>?_⟩
 ·have h2:((b[7]'(by omega)).toNat:Int) ≠ 0:=by simpa using h
  rw [if_pos (by rw [n6]; show (b[6]'(by omega)).toNat * 256 + (b[7]'(by omega)).toNat ≠ 0; omega)] at hres
  subst hres
  refine rg ?_;conv=>whnf
  refine An 4 1 Aj E ?_
  exact Ac E (.cons .tmp (.cons .tmp (.cons .tmp (.cons .tmp .nil)))) E E
 have h7:((b[7]'(by omega)).toNat:Int) = 0:=by simpa using h
 rw [if_neg (by rw [n6]; show ¬ (b[6]'(by omega)).toNat * 256 + (b[7]'(by omega)).toNat ≠ 0; omega)] at hres
 subst hres
 clear h
 refine rg ?_;conv=>whnf
 refine ⟨E,by decide,i0,?_⟩
 conv=>whnf
 refine ⟨(by show I64 (IntKind.i64.wrap ((b[0]'(by omega)).toNat:Int) * 256); rw [w0]; unfold I64; omega),?_⟩
 conv=>whnf
 refine ⟨E,by decide,i1,?_⟩
 conv=>whnf
 refine ⟨(by show I64 (IntKind.i64.wrap ((b[0]'(by omega)).toNat:Int) * 256 + IntKind.i64.wrap ((b[1]'(by omega)).toNat:Int)); rw [w0,w1]; unfold I64; omega),?_⟩
 conv=>whnf
 refine ⟨E,by decide,i2,?_⟩
 conv=>whnf
 refine ⟨(by show I64 (IntKind.i64.wrap ((b[2]'(by omega)).toNat:Int) * 256); rw [w2]; unfold I64; omega),?_⟩
 conv=>whnf
 refine ⟨E,by decide,i3,?_⟩
 conv=>whnf
 refine ⟨(by show I64 (IntKind.i64.wrap ((b[2]'(by omega)).toNat:Int) * 256 + IntKind.i64.wrap ((b[3]'(by omega)).toNat:Int)); rw [w2,w3]; unfold I64; omega),?_⟩
 conv=>whnf
 refine Bi (Bb (lo:=8) (hi:=numAt b 4 2) Γ.toTy E E E E (.inr ⟨_,_,E,E⟩) (.inr ⟨_,_,E,E⟩) hs8 hsl) (by kernel_rfl) E ?_
 refine rd (by kernel_rfl) ?_;conv=>whnf
 refine Bi (Af Γ.toTy 60 E E E E E (.lit (e:=Aj) (l:=[]) E E) .sl (by simp) (by simp; omega) (by simp; omega)) (by kernel_rfl) E ?_
 refine rd (by kernel_rfl) ?_;conv=>whnf
 refine ⟨(by kernel_rfl),?_⟩
 conv=>whnf
 refine As 60 E ?_
 refine Ac E (.cons .tmp (.cons .tmp (.cons .tmp (.cons .tmp .nil)))) ?_ E
 show SV.tup [Aa (numAt b 0 2),Aa (numAt b 2 2),_,_] = SV.tup [Aa (IntKind.i64.wrap ((b[0]'(by omega)).toNat:Int) * (256:Int) + IntKind.i64.wrap ((b[1]'(by omega)).toNat:Int)),Aa (IntKind.i64.wrap ((b[2]'(by omega)).toNat:Int) * (256:Int) + IntKind.i64.wrap ((b[3]'(by omega)).toNat:Int)),_,_]
 rw [hp0,hp2]
 rfl
theorem Ao7 (src dst:Nat) (body:List UInt8) (h1:src ≤ 65535) (h2:dst ≤ 65535) (h3:body.length ≤ 1472):Sy.Spec Tryz.prog 310 [Aa src,Aa dst,.sl 1 Aj body] [] (.tup [.sl 1 Aj (Acy src dst body),Aa 0]) []:=Ab Γ hm 100 F310 Tryz.ntmps310 rfl fun F hF=>by
 ((conv=>whnf);refine aF ?_;refine rg ?_;conv=>whnf)
 (refine ⟨fun h=>False.elim (by simp at h; omega),fun _=>?_⟩;refine rg ?_;(conv=>whnf);refine aF ?_;refine rg ?_;(conv=>whnf);refine ⟨fun h=>False.elim (by simp at h; omega),fun _=>?_⟩;refine rg ?_;(conv=>whnf);refine ⟨fun h=>False.elim (by simp at h; omega),fun _=>?_⟩;refine rg ?_;conv=>whnf)
 refine ⟨by unfold I64; omega,?_⟩
 conv=>whnf
 refine Bt 8 1000 1 Aj E E ?_
 refine Ai (Aeo Γ.toTy E E E E E E) E E ?_
 refine rg ?_;conv=>whnf
 have key:∀ (x:Nat) (pre:List Nat),pre.length ≤ 4 → B5 (pre ++ [x]) = B5 pre ++ [UInt8.ofNat (x / 256),UInt8.ofNat x]:=fun x pre _=>Is pre x
 have hwl:∀ l:List Nat,(B5 l).length = 2 * l.length:=Io
 obtain ⟨ws,hws⟩:∃ ws:List Nat,ws = [src,dst,8 + body.length,0]:=⟨_,rfl⟩
 refine Au 4 (fun j=>[(2,.sl 1 Aj body),(8,.osl 1000),(35,.agg [Aa src,Aa dst,Aa (8 + body.length:Nat),Aa 0]),(36,Aa j)]) (fun j=>[(1000,.row 1 Aj (B5 (ws.take j)))]) [] ⟨⟨E,E,E,E,E,E,E,E,Y⟩,⟨.inl (congrArg (Ob.row 1 Aj) (by simp [B5])),E,Y⟩,E,E⟩ ?_
 intro j hj
 have hcase:j = 0 ∨ j = 1 ∨ j = 2 ∨ j = 3 ∨ j = 4:=by omega
 rcases hcase with rfl | rfl | rfl | rfl | rfl
 ·have hs:B5 (ws.take 1) = B5 (ws.take 0) ++ [UInt8.ofNat (src / 256),UInt8.ofNat src]:=by subst hws; exact Is [] src
  have hl:=hwl (ws.take 0)
  have hl2:(ws.take 0).length ≤ 4:=by rw [List.length_take]; omega
  have htb:=Er src
  (refine rg ?_;(conv=>whnf);refine aT ?_;refine rg ?_;conv=>whnf)
  refine Ai (Hd (k:=.int .i64) Γ.toTy E E E Tryz.underlying3 E E (by decide) (by decide) E) E E ?_
  refine rg ?_;conv=>whnf
  refine ⟨by decide,?_⟩
  conv=>whnf
  refine Ai (Af Γ.toTy 46 E E E E E (.row E) (.lit (e:=Aj) (l:=[UInt8.ofNat (src / 256),UInt8.ofNat src]) E htb) (by simp) (by rw [hl]; simp only [List.length_cons,List.length_nil]; omega) (by rw [hl]; simp only [List.length_cons,List.length_nil]; omega)) E E ?_
  refine rg ?_;conv=>whnf
  refine ⟨by unfold I64; omega,?_⟩
  conv=>whnf
  exact Ar [(1000,46)] (by decide) ⟨⟨E,E,E,E,E,E,E,E,Y⟩,⟨.inl (congrArg (Ob.row 1 Aj) hs),E,Y⟩,E,E⟩
 ·have hs:B5 (ws.take 2) = B5 (ws.take 1) ++ [UInt8.ofNat (dst / 256),UInt8.ofNat dst]:=by subst hws; exact Is [src] dst
  have hl:=hwl (ws.take 1)
  have hl2:(ws.take 1).length ≤ 4:=by rw [List.length_take]; omega
  have htb:=Er dst
  (refine rg ?_;(conv=>whnf);refine aT ?_;refine rg ?_;conv=>whnf)
  refine Ai (Hd (k:=.int .i64) Γ.toTy E E E Tryz.underlying3 E E (by decide) (by decide) E) E E ?_
  refine rg ?_;conv=>whnf
  refine ⟨by decide,?_⟩
  conv=>whnf
  refine Ai (Af Γ.toTy 46 E E E E E (.row E) (.lit (e:=Aj) (l:=[UInt8.ofNat (dst / 256),UInt8.ofNat dst]) E htb) (by simp) (by rw [hl]; simp only [List.length_cons,List.length_nil]; omega) (by rw [hl]; simp only [List.length_cons,List.length_nil]; omega)) E E ?_
  refine rg ?_;conv=>whnf
  refine ⟨by unfold I64; omega,?_⟩
  conv=>whnf
  exact Ar [(1000,46)] (by decide) ⟨⟨E,E,E,E,E,E,E,E,Y⟩,⟨.inl (congrArg (Ob.row 1 Aj) hs),E,Y⟩,E,E⟩
 ·have hs:B5 (ws.take 3) = B5 (ws.take 2) ++ [UInt8.ofNat ((8 + body.length) / 256),UInt8.ofNat (8 + body.length)]:=by subst hws; exact Is [src,dst] (8 + body.length)
  have hl:=hwl (ws.take 2)
  have hl2:(ws.take 2).length ≤ 4:=by rw [List.length_take]; omega
  have htb:=Er (8 + body.length)
  (refine rg ?_;(conv=>whnf);refine aT ?_;refine rg ?_;conv=>whnf)
  refine Ai (Hd (k:=.int .i64) Γ.toTy E E E Tryz.underlying3 E E (by decide) (by decide) E) E E ?_
  refine rg ?_;conv=>whnf
  refine ⟨by decide,?_⟩
  conv=>whnf
  refine Ai (Af Γ.toTy 46 E E E E E (.row E) (.lit (e:=Aj) (l:=[UInt8.ofNat ((8 + body.length) / 256),UInt8.ofNat (8 + body.length)]) E htb) (by simp) (by rw [hl]; simp only [List.length_cons,List.length_nil]; omega) (by rw [hl]; simp only [List.length_cons,List.length_nil]; omega)) E E ?_
  refine rg ?_;conv=>whnf
  refine ⟨by unfold I64; omega,?_⟩
  conv=>whnf
  exact Ar [(1000,46)] (by decide) ⟨⟨E,E,E,E,E,E,E,E,Y⟩,⟨.inl (congrArg (Ob.row 1 Aj) hs),E,Y⟩,E,E⟩
 ·have hs:B5 (ws.take 4) = B5 (ws.take 3) ++ [UInt8.ofNat (0 / 256),UInt8.ofNat 0]:=by subst hws; exact Is [src,dst,8 + body.length] 0
  have hl:=hwl (ws.take 3)
  have hl2:(ws.take 3).length ≤ 4:=by rw [List.length_take]; omega
  have htb:=Er 0
  (refine rg ?_;(conv=>whnf);refine aT ?_;refine rg ?_;conv=>whnf)
  refine Ai (Hd (k:=.int .i64) Γ.toTy E E E Tryz.underlying3 E E (by decide) (by decide) E) E E ?_
  refine rg ?_;conv=>whnf
  refine ⟨by decide,?_⟩
  conv=>whnf
  refine Ai (Af Γ.toTy 46 E E E E E (.row E) (.lit (e:=Aj) (l:=[UInt8.ofNat (0 / 256),UInt8.ofNat 0]) E htb) (by simp) (by rw [hl]; simp only [List.length_cons,List.length_nil]; omega) (by rw [hl]; simp only [List.length_cons,List.length_nil]; omega)) E E ?_
  refine rg ?_;conv=>whnf
  refine ⟨by unfold I64; omega,?_⟩
  conv=>whnf
  exact Ar [(1000,46)] (by decide) ⟨⟨E,E,E,E,E,E,E,E,Y⟩,⟨.inl (congrArg (Ob.row 1 Aj) hs),E,Y⟩,E,E⟩
 have hl:=hwl (ws.take 4)
 have e:ws.take 4 = [src,dst,8 + body.length,0]:=by rw [hws]; rfl
 rw [e] at hl ⊢
 have hl3:(B5 [src,dst,8 + body.length,0]).length = 8:=hl
 (refine rg ?_;(conv=>whnf);refine aF ?_;refine rg ?_;conv=>whnf)
 refine Ai (Af Γ.toTy 50 E E E E E (.row E) .sl (by simp) (by rw [hl3]; simp; omega) (by rw [hl3]; omega)) E E ?_
 refine As 50 E ?_
 refine rg ?_;conv=>whnf
 exact Ac E (.cons .tmp (.cons .tmp .nil)) E E
theorem Aki (src dst:Nat) (body:List UInt8) (h1:src ≤ 65535) (h2:dst ≤ 65535) (h3:body.length ≤ 1472):Sy.Spec Tryz.prog 277 [Aa src,Aa dst,.sl 1 Aj body] [] (.tup [.sl 1 Aj (Acy src dst body),Aa 0]) []:=Ab Γ hm 100 F277 Tryz.ntmps277 rfl fun F hF=>by
 have t1:=Ib src h1
 have t2:=Ib dst h2
 have t3:=Ib (8 + body.length) (by omega)
 obtain ⟨l,hl⟩:∃ l:List UInt8,l = B5 [src,dst,8 + body.length,0]:=⟨_,rfl⟩
 have hll:l.length = 8:=by rw [hl,Io]; rfl
 have hudp:Acy src dst body = l ++ body:=by rw [hl,Acy]
 rw [hudp]
 ((conv=>whnf);refine aF ?_;refine rg ?_;(conv=>whnf);refine aF ?_;refine rg ?_;conv=>whnf)
 (refine ⟨fun h=>False.elim (by simp at h; omega),fun _=>?_⟩;refine rg ?_;(conv=>whnf);refine ⟨fun h=>False.elim (by simp at h; omega),fun _=>?_⟩;refine rg ?_;(conv=>whnf);refine ⟨fun h=>False.elim (by simp at h; omega),fun _=>?_⟩;refine rg ?_;conv=>whnf)
 refine ⟨by unfold I64; omega,?_⟩
 conv=>whnf
 repeat (refine ⟨by decide,?_⟩; ((conv=>whnf);repeat((first|refine aF ?_|refine aT ?_);(first|refine rG Γ hm ?_|refine rD Γ hm (by kernel_rfl) ?_);conv=>whnf)))
 refine Ai (Af Γ.toTy 51 E E E E E (.lit (e:=Aj) (l:=l) E ?_) .sl (by simp) (by simp [hll]; omega) (by simp [hll]; omega)) E E ?_
 ·have a1:=List.cons.inj t1
  have a2:=List.cons.inj t2
  have a3:=List.cons.inj t3
  have b1:=List.cons.inj a1.2
  have b2:=List.cons.inj a2.2
  have b3:=List.cons.inj a3.2
  rw [hl]
  simp only [B5,List.flatMap_cons,List.flatMap_nil,List.append_nil,List.cons_append,List.nil_append,List.map_cons,List.map_nil,a1.1,b1.1,a2.1,b2.1,a3.1,b3.1]
  rfl
 refine As 51 E ?_
 refine rg ?_;conv=>whnf
 exact Ac E (.cons .tmp (.cons .tmp .nil)) E E
theorem Al5 (a b:Nat) (ha:a < 18446744073709551616) (hb:b < 18446744073709551616):Sy.Spec Tryz.prog 311 [Ay a,Ay b] [] (Aa (udpPort a b:Nat)) []:=Ab Γ hm 100 F311 Tryz.ntmps311 rfl fun F hF=>by
 have hx:=bits_xor_u64_nat a b ha hb
 have hmd:((a ^^^ b:Nat):Int).tmod 16384 = (((a ^^^ b) % 16384:Nat):Int):=by rw [Int.tmod_eq_emod_of_nonneg (by omega)]; omega
 have hl:=Nat.mod_lt (a ^^^ b) (show 0 < 16384 by decide)
 have hw:IntKind.i64.wrap (((a ^^^ b) % 16384:Nat):Int) = (((a ^^^ b) % 16384:Nat):Int):=by rw [IntKind.wrap_i64]; omega
 conv=>whnf
 refine ⟨by decide,?_⟩
 rw [hx,hmd]
 conv=>whnf
 rw [hw]
 refine ⟨by unfold I64; omega,?_⟩
 conv=>whnf
 refine Ac E (.cons .tmp .nil) ?_ E
 refine congrArg (fun z:Int=>SV.val (.int .i64 z)) ?_
 rw [udpPort]
 omega
theorem Ao3 (a b j:Nat):(a ^^^ b) / 2 ^ j % 2 = if a / 2 ^ j % 2 = b / 2 ^ j % 2 then 0 else 1:=by
 have h:=Nat.testBit_xor a b j
 rw [Nat.testBit_eq_decide_div_mod_eq,Nat.testBit_eq_decide_div_mod_eq,Nat.testBit_eq_decide_div_mod_eq] at h
 have h1:=Nat.mod_two_eq_zero_or_one ((a ^^^ b) / 2 ^ j)
 have h2:=Nat.mod_two_eq_zero_or_one (a / 2 ^ j)
 have h3:=Nat.mod_two_eq_zero_or_one (b / 2 ^ j)
 rcases h1 with h1 | h1 <;> rcases h2 with h2 | h2 <;> rcases h3 with h3 | h3 <;> simp_all
theorem Abr (x j:Nat):x % 2 ^ (j + 1) = x % 2 ^ j + 2 ^ j * (x / 2 ^ j % 2):=by
 rw [Nat.pow_succ,Nat.mod_mul]
theorem Agj (a b:Nat) (ha:a < 18446744073709551616) (hb:b < 18446744073709551616):Sy.Spec Tryz.prog 278 [Ay a,Ay b] [] (Aa (udpPort a b:Nat)) []:=Ab Γ hm 100 F278 Tryz.ntmps278 rfl fun F hF=>by
 conv=>whnf
 refine Au 14 (fun j=>[(0,Ay (a / 2 ^ j:Nat)),(1,Ay (b / 2 ^ j:Nat)),(5,Aa ((a ^^^ b) % 2 ^ j:Nat)),(6,Aa (2 ^ j:Nat)),(7,Aa j)]) (fun _=>[]) []
  ⟨⟨congrArg (fun z:Nat=>Ay z) (by simp),rfl,congrArg (fun z:Nat=>Ay z) (by simp),rfl,congrArg (fun z:Nat=>Aa z) (by simp; omega),rfl,rfl,rfl,rfl,rfl,trivial⟩,trivial,rfl,rfl⟩ ?_
 intro j hj
 have hp:2 ^ j ≤ 16384:=by
  have:(2:Nat) ^ j ≤ 2 ^ 14:=Nat.pow_le_pow_right (by decide) hj
  exact this
 have hpp:0 < 2 ^ j:=Nat.two_pow_pos j
 have hx:=Ao3 a b j
 have hmd:=Abr (a ^^^ b) j
 have hml:=Nat.mod_lt (a ^^^ b) hpp
 have ea:a / 2 ^ (j + 1) = a / 2 ^ j / 2:=by rw [Nat.pow_succ,Nat.div_div_eq_div_mul]
 have eb:b / 2 ^ (j + 1) = b / 2 ^ j / 2:=by rw [Nat.pow_succ,Nat.div_div_eq_div_mul]
 have ep:2 ^ (j + 1) = 2 ^ j * 2:=Nat.pow_succ 2 j
 have la:=Nat.div_le_self a (2 ^ j)
 have lb:=Nat.div_le_self b (2 ^ j)
 rw [hx] at hmd
 clear hx
 by_cases hje:j = 14
 ·subst hje
  have hu:udpPort a b = 49152 + (a ^^^ b) % 2 ^ 14:=rfl
  rw [hu]
  generalize (a ^^^ b) % 2 ^ 14 = r at *
  (refine rg ?_;(conv=>whnf);refine aF ?_;refine rg ?_;conv=>whnf)
  (skip)
  refine ⟨by unfold I64; omega,?_⟩
  conv=>whnf
  exact Ac E (.cons .tmp .nil) (congrArg (fun z:Int=>SV.val (.int .i64 z)) (by omega)) E
 have hj14:j < 14:=by omega
 generalize (a ^^^ b) % 2 ^ j = r0 at *
 generalize a / 2 ^ j = a0 at *
 generalize b / 2 ^ j = b0 at *
 generalize 2 ^ j = p0 at *
 have ta:((a0:Nat):Int).tmod 2 = ((a0 % 2:Nat):Int):=by rw [Int.tmod_eq_emod_of_nonneg (by omega)]; omega
 have tb:((b0:Nat):Int).tmod 2 = ((b0 % 2:Nat):Int):=by rw [Int.tmod_eq_emod_of_nonneg (by omega)]; omega
 have da:IntKind.u64.wrap (((a0:Nat):Int).tdiv 2) = ((a0 / 2:Nat):Int):=by rw [Int.tdiv_eq_ediv_of_nonneg (by omega),IntKind.wrap_u64]; omega
 have db:IntKind.u64.wrap (((b0:Nat):Int).tdiv 2) = ((b0 / 2:Nat):Int):=by rw [Int.tdiv_eq_ediv_of_nonneg (by omega),IntKind.wrap_u64]; omega
 refine rg ?_;conv=>whnf
 refine ⟨fun _=>?_,fun h=>absurd (of_decide_eq_false h) (by omega)⟩
 refine rg ?_;conv=>whnf
 refine ⟨by decide,?_⟩
 conv=>whnf
 refine ⟨by decide,?_⟩
 conv=>whnf
 refine ⟨fun h=>?_,fun h=>?_⟩
 ·rw [ta,tb] at h
  have hne:a0 % 2 ≠ b0 % 2:=by
   have:((a0 % 2:Nat):Int) ≠ ((b0 % 2:Nat):Int):=by simpa using h
   omega
  rw [if_neg hne] at hmd
  refine rg ?_;conv=>whnf
  refine ⟨by unfold I64; omega,?_⟩
  conv=>whnf
  refine ⟨by decide,?_⟩
  conv=>whnf
  refine ⟨by decide,?_⟩
  conv=>whnf
  refine ⟨by unfold I64; omega,?_⟩
  conv=>whnf
  refine ⟨by unfold I64; omega,?_⟩
  conv=>whnf
  refine Ar [] hj14 ⟨⟨congrArg (fun z:Int=>SV.val (.int .u64 z)) ?_,E,congrArg (fun z:Int=>SV.val (.int .u64 z)) ?_,E,congrArg (fun z:Int=>SV.val (.int .i64 z)) ?_,E,congrArg (fun z:Int=>SV.val (.int .i64 z)) ?_,E,E,E,Y⟩,Y,E,E⟩
  ·rw [da,ea]
  ·rw [db,eb]
  ·rw [hmd]; omega
  ·rw [ep]; omega
 ·rw [ta,tb] at h
  have hne:a0 % 2 = b0 % 2:=by
   have:((a0 % 2:Nat):Int) = ((b0 % 2:Nat):Int):=by simpa using h
   omega
  rw [if_pos hne] at hmd
  refine rg ?_;conv=>whnf
  refine ⟨by decide,?_⟩
  conv=>whnf
  refine ⟨by decide,?_⟩
  conv=>whnf
  refine ⟨by unfold I64; omega,?_⟩
  conv=>whnf
  refine ⟨by unfold I64; omega,?_⟩
  conv=>whnf
  refine Ar [] hj14 ⟨⟨congrArg (fun z:Int=>SV.val (.int .u64 z)) ?_,E,congrArg (fun z:Int=>SV.val (.int .u64 z)) ?_,E,congrArg (fun z:Int=>SV.val (.int .i64 z)) ?_,E,congrArg (fun z:Int=>SV.val (.int .i64 z)) ?_,E,E,E,Y⟩,Y,E,E⟩
  ·rw [da,ea]
  ·rw [db,eb]
  ·rw [hmd]; omega
  ·rw [ep]; omega
theorem Ai2 (v:Int) (h:Lt v = true):Sy.Spec Tryz.prog 309 [Aa v] [] (.tup [.sl 1 Aj [],Aa 17]) []:=Ab Γ hm 100 F309 Tryz.ntmps309 rfl fun F hF=>by
 simp only [Lt,Bool.or_eq_true,decide_eq_true_eq] at h
 conv=>whnf
 refine ⟨fun h1=>?_,fun h1=>?_⟩
 ·(refine rg ?_;(conv=>whnf);refine aT ?_;refine rg ?_;conv=>whnf)
  refine An 2 1 Aj E ?_
  exact Ac E (.cons .tmp (.cons .tmp .nil)) E E
 refine rg ?_;conv=>whnf
 refine ⟨fun h2=>?_,fun h2=>absurd (of_decide_eq_false h2) (by have:=of_decide_eq_false h1; omega)⟩
 refine rg ?_;conv=>whnf
 refine An 2 1 Aj E ?_
 exact Ac E (.cons .tmp (.cons .tmp .nil)) E E
theorem Acn {v:Int} (h:Lt v = false):1 ≤ v ∧ v ≤ 16777215:=by
 simp only [Lt,Bool.or_eq_false_iff,decide_eq_false_iff_not] at h
 omega
theorem Ak8 (k:Nat):(H1 k).map Aj = [SV.val (.int .u8 8),SV.val (.int .u8 0),SV.val (.int .u8 0),SV.val (.int .u8 0),SV.val (.int .u8 (IntKind.u8.wrap ((k:Int).fdiv (2 ^ (min (Int.toNat 16) IntKind.i64.bits))))),
  SV.val (.int .u8 (IntKind.u8.wrap ((k:Int).fdiv (2 ^ (min (Int.toNat 8) IntKind.i64.bits))))),SV.val (.int .u8 (IntKind.u8.wrap (k:Int))),SV.val (.int .u8 0)]:=by
 have h1:IntKind.u8.wrap ((k:Int).fdiv (2 ^ (min (Int.toNat 16) IntKind.i64.bits))) = ((UInt8.ofNat (k / 65536)).toNat:Int):=by
  show IntKind.u8.wrap ((k:Int).fdiv 65536) = _
  rw [Int.fdiv_eq_ediv_of_nonneg _ (by decide),IntKind.wrap_u8]
  simp
 have h2:IntKind.u8.wrap ((k:Int).fdiv (2 ^ (min (Int.toNat 8) IntKind.i64.bits))) = ((UInt8.ofNat (k / 256)).toNat:Int):=by
  show IntKind.u8.wrap ((k:Int).fdiv 256) = _
  rw [Int.fdiv_eq_ediv_of_nonneg _ (by decide),IntKind.wrap_u8]
  simp
 have h3:=Aqq k
 rw [h1,h2,h3]
 rfl
theorem Ahn (k:Nat) (hk:k ≤ 16777215):(H1 k).map Aj = [SV.val (.int .u8 8),SV.val (.int .u8 0),SV.val (.int .u8 0),SV.val (.int .u8 0),SV.val (.int .u8 (IntKind.u8.wrap (IntKind.i64.wrap ((k:Int).tdiv 65536)))),
  SV.val (.int .u8 (IntKind.u8.wrap ((IntKind.i64.wrap ((k:Int).tdiv 256)).tmod 256))),SV.val (.int .u8 (IntKind.u8.wrap ((k:Int).tmod 256))),SV.val (.int .u8 0)]:=by
 have h1:IntKind.u8.wrap (IntKind.i64.wrap ((k:Int).tdiv 65536)) = ((UInt8.ofNat (k / 65536)).toNat:Int):=by
  rw [Int.tdiv_eq_ediv_of_nonneg (by omega),IntKind.wrap_u8,IntKind.wrap_i64]
  simp
  omega
 have e2:IntKind.i64.wrap ((k:Int).tdiv 256) = ((k / 256:Nat):Int):=by rw [Int.tdiv_eq_ediv_of_nonneg (by omega),IntKind.wrap_i64]; omega
 have h2:IntKind.u8.wrap ((IntKind.i64.wrap ((k:Int).tdiv 256)).tmod 256) = ((UInt8.ofNat (k / 256)).toNat:Int):=by
  rw [e2,Int.tmod_eq_emod_of_nonneg (by omega),IntKind.wrap_u8]
  simp
 have h3:IntKind.u8.wrap ((k:Int).tmod 256) = ((UInt8.ofNat k).toNat:Int):=by
  rw [Int.tmod_eq_emod_of_nonneg (by omega),IntKind.wrap_u8]
  simp
 rw [h1,h2,h3]
 rfl
theorem Any (k:Nat) (h:1 ≤ k ∧ k ≤ 16777215):Sy.Spec Tryz.prog 309 [Aa k] [] (.tup [.osl 0,Aa 0]) [(0,.row 1 Aj (H1 k))]:=Ab Γ hm 100 F309 Tryz.ntmps309 rfl fun F hF=>by
 have hl:=Ak8 k
 conv=>whnf
 refine ⟨fun h1=>absurd (of_decide_eq_true h1) (by omega),fun _=>?_⟩
 refine rg ?_;conv=>whnf
 refine ⟨fun h1=>absurd (of_decide_eq_true h1) (by omega),fun _=>?_⟩
 refine rg ?_;conv=>whnf
 refine ⟨by decide,?_⟩
 conv=>whnf
 refine ⟨by decide,?_⟩
 conv=>whnf
 refine Eb 18 Aj (H1 k) E hl ?_
 exact done E (.cons .tmp (.cons .tmp .nil)) [(0,18)] [(0,.row 1 Aj (H1 k))] (fun _ h=>h) E E ⟨Y,⟨.inl E,E,Y⟩,E,E⟩
theorem Abe (v:Int) (h:Lt v = true):Sy.Spec Tryz.prog 276 [Aa v] [] (.tup [.sl 1 Aj [],Aa 17]) []:=Ab Γ hm 100 F276 Tryz.ntmps276 rfl fun F hF=>by
 simp only [Lt,Bool.or_eq_true,decide_eq_true_eq] at h
 conv=>whnf
 refine ⟨fun h1=>?_,fun h1=>?_⟩
 ·(refine rg ?_;(conv=>whnf);refine aT ?_;refine rg ?_;conv=>whnf)
  refine An 2 1 Aj E ?_
  exact Ac E (.cons .tmp (.cons .tmp .nil)) E E
 refine rg ?_;conv=>whnf
 refine ⟨fun h2=>?_,fun h2=>absurd (of_decide_eq_false h2) (by have:=of_decide_eq_false h1; omega)⟩
 refine rg ?_;conv=>whnf
 refine An 2 1 Aj E ?_
 exact Ac E (.cons .tmp (.cons .tmp .nil)) E E
theorem Adq (k:Nat) (h:1 ≤ k ∧ k ≤ 16777215):Sy.Spec Tryz.prog 276 [Aa k] [] (.tup [.osl 0,Aa 0]) [(0,.row 1 Aj (H1 k))]:=Ab Γ hm 100 F276 Tryz.ntmps276 rfl fun F hF=>by
 have hl:=Ahn k h.2
 conv=>whnf
 refine ⟨fun h1=>absurd (of_decide_eq_true h1) (by omega),fun _=>?_⟩
 refine rg ?_;conv=>whnf
 refine ⟨fun h1=>absurd (of_decide_eq_true h1) (by omega),fun _=>?_⟩
 refine rg ?_;conv=>whnf
 refine ⟨by decide,?_⟩
 conv=>whnf
 refine ⟨by decide,?_⟩
 conv=>whnf
 refine ⟨by decide,?_⟩
 conv=>whnf
 refine ⟨by decide,?_⟩
 conv=>whnf
 refine Eb 20 Aj (H1 k) E hl ?_
 exact done E (.cons .tmp (.cons .tmp .nil)) [(0,20)] [(0,.row 1 Aj (H1 k))] (fun _ h=>h) E E ⟨Y,⟨.inl E,E,Y⟩,E,E⟩
theorem Alo (a b:List UInt8):((⟨a.toArray⟩:ByteArray) == (⟨b.toArray⟩:ByteArray)) = decide (a = b):=by
 have key:=Go.MapKept.bytes_beq (⟨a.toArray⟩:ByteArray) ⟨b.toArray⟩
 by_cases h:a = b
 ·subst h
  rw [decide_eq_true rfl]
  exact key.2 E
 ·rw [decide_eq_false h]
  cases hb:((⟨a.toArray⟩:ByteArray) == (⟨b.toArray⟩:ByteArray)) with
  | false=>rfl
  | true =>
   have:=congrArg (fun z:ByteArray=>z.data.toList) (key.1 hb)
   exact absurd (by simpa using this) h
theorem Al7 (x y z:UInt8):bits .or .i64 (bits .or .i64 (IntKind.i64.wrap ((IntKind.i64.wrap (x.toNat:Int)) * 2 ^ min (Int.toNat 16) IntKind.i64.bits)) (IntKind.i64.wrap ((IntKind.i64.wrap (y.toNat:Int)) * 2 ^ min (Int.toNat 8) IntKind.i64.bits))) (IntKind.i64.wrap (z.toNat:Int))
  = (((x.toNat * 256 + y.toNat) * 256 + z.toNat:Nat):Int):=by
 have h1:=x.toNat_lt
 have h2:=y.toNat_lt
 have h3:=z.toNat_lt
 have e1:IntKind.i64.wrap (x.toNat:Int) = (x.toNat:Int):=by rw [IntKind.wrap_i64]; omega
 have e2:IntKind.i64.wrap (y.toNat:Int) = (y.toNat:Int):=by rw [IntKind.wrap_i64]; omega
 have e3:IntKind.i64.wrap (z.toNat:Int) = (z.toNat:Int):=by rw [IntKind.wrap_i64]; omega
 rw [e1,e2,e3]
 have f1:IntKind.i64.wrap ((x.toNat:Int) * 2 ^ min (Int.toNat 16) IntKind.i64.bits) = ((x.toNat * 65536:Nat):Int):=by
  show IntKind.i64.wrap ((x.toNat:Int) * 65536) = _
  rw [IntKind.wrap_i64]
  omega
 have f2:IntKind.i64.wrap ((y.toNat:Int) * 2 ^ min (Int.toNat 8) IntKind.i64.bits) = ((y.toNat * 256:Nat):Int):=by
  show IntKind.i64.wrap ((y.toNat:Int) * 256) = _
  rw [IntKind.wrap_i64]
  omega
 rw [f1,f2,Df _ _ (by omega) (by omega)]
 have g1:x.toNat * 65536 ||| y.toNat * 256 = x.toNat * 65536 + y.toNat * 256:=by
  have h:=Nat.two_pow_add_eq_or_of_lt (i:=16) (b:=y.toNat * 256) (by omega) x.toNat
  rw [Nat.mul_comm x.toNat 65536]
  exact h.symm
 rw [g1,Df _ _ (by omega) (by omega)]
 refine congrArg (fun n:Nat=>(n:Int)) ?_
 have h:256 * (x.toNat * 256 + y.toNat) + z.toNat = 256 * (x.toNat * 256 + y.toNat) ||| z.toNat:=Nat.two_pow_add_eq_or_of_lt (i:=8) (b:=z.toNat) (by omega) (x.toNat * 256 + y.toNat)
 have e:x.toNat * 65536 + y.toNat * 256 = 256 * (x.toNat * 256 + y.toNat):=by omega
 rw [e,← h]
 omega
theorem Al9 {b:List UInt8} (h:8 ≤ b.length):b.take 8 = [b[0]'(by omega),b[1]'(by omega),b[2]'(by omega),b[3]'(by omega),b[4]'(by omega),b[5]'(by omega),b[6]'(by omega),b[7]'(by omega)]:=by
 have h1:=Wz (b:=b) (k:=0) (by omega)
 have h2:=Wz (b:=b) (k:=4) (by omega)
 have e:b.take 8 = (b.drop 0).take 4 ++ (b.drop 4).take 4:=by
  rw [List.drop_zero,← List.take_add]
 rw [e,h1,h2]
 rfl
theorem Anx {b:List UInt8} (h:8 ≤ b.length):b.take 8 = H1 (numAt b 4 3) ↔ ((b[0]'(by omega)) = 8 ∧ (b[1]'(by omega)) = 0 ∧ (b[2]'(by omega)) = 0 ∧ (b[3]'(by omega)) = 0 ∧ (b[7]'(by omega)) = 0):=by
 have hn:=Ag4 (show 4 + 3 ≤ b.length by omega)
 have e5:b[4 + 1]'(by omega) = b[5]'(by omega):=rfl
 have e6:b[4 + 2]'(by omega) = b[6]'(by omega):=rfl
 rw [e5,e6] at hn
 rw [Al9 h,H1,hn]
 have h4:=(b[4]'(by omega)).toNat_lt
 have h5:=(b[5]'(by omega)).toNat_lt
 have h6:=(b[6]'(by omega)).toNat_lt
 have k4:UInt8.ofNat ((((b[4]'(by omega)).toNat * 256 + (b[5]'(by omega)).toNat) * 256 + (b[6]'(by omega)).toNat) / 65536) = b[4]'(by omega):=by
  apply UInt8.toNat_inj.1; rw [Kk]; omega
 have k5:UInt8.ofNat ((((b[4]'(by omega)).toNat * 256 + (b[5]'(by omega)).toNat) * 256 + (b[6]'(by omega)).toNat) / 256) = b[5]'(by omega):=by
  apply UInt8.toNat_inj.1; rw [Kk]; omega
 have k6:UInt8.ofNat (((b[4]'(by omega)).toNat * 256 + (b[5]'(by omega)).toNat) * 256 + (b[6]'(by omega)).toNat) = b[6]'(by omega):=by
  apply UInt8.toNat_inj.1; rw [Kk]; omega
 rw [k4,k5,k6]
 simp
theorem vniS (b:List UInt8) (hb:b.length < 100000):Sy.Spec Tryz.prog 340 [.sl 1 Aj b] [] (.tup [Aa (vniT b).1,.sl 1 Aj (vniT b).2.1,Aa (vniT b).2.2]) []:=Ab Γ hm 100 F340 Tryz.ntmps340 rfl fun F hF=>by
 have hres:=vniT.eq_1 b
 generalize vniT b = res at *
 conv=>whnf
 refine ⟨fun h=>?_,fun h=>?_⟩
 ·rw [if_pos (by have:=of_decide_eq_true h; omega)] at hres
  subst hres
  refine rg ?_;conv=>whnf
  refine An 3 1 Aj E ?_
  exact Ac E (.cons .tmp (.cons .tmp (.cons .tmp .nil))) E E
 have h8:8 ≤ b.length:=by have:=of_decide_eq_false h; omega
 rw [if_neg (by omega)] at hres
 clear h
 have i4:(4:Int).toNat < b.length:=by show 4 < _; omega
 have i5:(5:Int).toNat < b.length:=by show 5 < _; omega
 have i6:(6:Int).toNat < b.length:=by show 6 < _; omega
 have hv:bits .or .i64 (bits .or .i64 (IntKind.i64.wrap ((IntKind.i64.wrap ((b[(4:Int).toNat]'i4).toNat:Int)) * 2 ^ min (Int.toNat 16) IntKind.i64.bits)) (IntKind.i64.wrap ((IntKind.i64.wrap ((b[(5:Int).toNat]'i5).toNat:Int)) * 2 ^ min (Int.toNat 8) IntKind.i64.bits))) (IntKind.i64.wrap ((b[(6:Int).toNat]'i6).toNat:Int))
   = (numAt b 4 3:Int):=by
  rw [Al7,Ag4 (show 4 + 3 ≤ b.length by omega)]
  rfl
 have hvl:=E7 b 4 3
 refine rg ?_;conv=>whnf
 refine ⟨E,by decide,i4,?_⟩
 conv=>whnf
 refine ⟨by decide,?_⟩
 conv=>whnf
 refine ⟨E,by decide,i5,?_⟩
 conv=>whnf
 refine ⟨by decide,?_⟩
 conv=>whnf
 refine ⟨E,by decide,i6,?_⟩
 conv=>whnf
 refine ⟨(by kernel_rfl),?_⟩
 rw [hv]
 generalize hvv:numAt b 4 3 = v at *
 conv=>whnf
 by_cases h0:v = 0
 ·rw [if_pos (.inl h0)] at hres
  subst hres
  have q:=Ai2 v (by rw [h0]; decide)
  refine Ag q F309 E E E E E ?_
  (refine rg ?_;(conv=>whnf);refine aT ?_;refine rd (by kernel_rfl) ?_;conv=>whnf)
  refine ⟨(by kernel_rfl),?_⟩
  ((conv=>whnf);refine aT ?_;refine rg ?_;conv=>whnf)
  refine An 3 1 Aj E ?_
  exact Ac E (.cons .tmp (.cons .tmp (.cons .tmp .nil))) E E
 have q:=Any v (by omega)
 refine Ai (Ak [(0,55)] E F309 q E Y E ⟨.inr E,Y⟩) E E ?_
 refine As 55 E ?_
 (refine rg ?_;(conv=>whnf);refine aF ?_;refine rd (by kernel_rfl) ?_;conv=>whnf)
 refine Bi (Dh Γ.toTy (bs:=H1 v) E E E E E E E .sl) (by kernel_rfl) E ?_
 refine rd (by kernel_rfl) ?_;conv=>whnf
 refine Bi (Bb (lo:=0) (hi:=8) Γ.toTy E E E E (.inl ⟨E,E⟩) (.inr ⟨_,_,E,E⟩) (by omega) h8) (by kernel_rfl) E ?_
 refine rd (by kernel_rfl) ?_;conv=>whnf
 refine Bi (Dh Γ.toTy (bs:=b.take 8) E E E E E E E .sl) (by kernel_rfl) E ?_
 refine rd (by kernel_rfl) ?_;conv=>whnf
 refine ⟨(by kernel_rfl),?_⟩
 conv=>whnf
 have hbe:=Alo (H1 v) (b.take 8)
 rw [hbe]
 by_cases he:b.take 8 = H1 v
 rotate_left
 ·rw [if_pos (.inr he)] at hres
  subst hres
  rw [decide_eq_false (fun e=>he e.symm)]
  refine ⟨fun _=>?_,fun h=>absurd h (by decide)⟩
  refine rg ?_;conv=>whnf
  refine An 3 1 Aj E ?_
  exact Ac E (.cons .tmp (.cons .tmp (.cons .tmp .nil))) E E
 rw [if_neg (fun h=>h.elim h0 (fun h2=>h2 he))] at hres
 subst hres
 rw [decide_eq_true he.symm]
 have etk:(b.take b.length).drop 8 = b.drop 8:=by rw [List.take_length]
 refine ⟨fun h=>absurd h (by decide),fun _=>?_⟩
 refine rg ?_;conv=>whnf
 refine Ai (Bb (lo:=8) (hi:=b.length) Γ.toTy E E E E (.inr ⟨_,_,E,E⟩) (.inl ⟨E,E⟩) h8 (Nat.le_refl _)) E E ?_
 refine rg ?_;conv=>whnf
 refine Ai (Af Γ.toTy 45 E E E E E .nil .sl (by simp) (by simp; omega) (by simp; omega)) E E ?_
 refine As 45 E ?_
 refine rg ?_;conv=>whnf
 refine Ac E (.cons .tmp (.cons .tmp (.cons .tmp .nil))) ?_ E
 show SV.tup [_,.sl 1 Aj (b.drop 8),_] = SV.tup [_,.sl 1 Aj ([] ++ (b.take b.length).drop 8),_]
 rw [etk]
 rfl
theorem Akh (b:List UInt8) (hb:b.length < 100000):Sy.Spec Tryz.prog 280 [.sl 1 Aj b] [] (.tup [Aa (vniT b).1,.sl 1 Aj (vniT b).2.1,Aa (vniT b).2.2]) []:=Ab Γ hm 100 F280 Tryz.ntmps280 rfl fun F hF=>by
 have hres:=vniT.eq_1 b
 generalize vniT b = res at *
 conv=>whnf
 refine ⟨fun h=>?_,fun h=>?_⟩
 ·rw [if_pos (by have:=of_decide_eq_true h; omega)] at hres
  subst hres
  refine rg ?_;conv=>whnf
  refine An 3 1 Aj E ?_
  exact Ac E (.cons .tmp (.cons .tmp (.cons .tmp .nil))) E E
 have h8:8 ≤ b.length:=by have:=of_decide_eq_false h; omega
 rw [if_neg (by omega)] at hres
 clear h
 have hi:=Anx h8
 have i0:(0:Int).toNat < b.length:=by show 0 < _; omega
 have i1:(1:Int).toNat < b.length:=by show 1 < _; omega
 have i2:(2:Int).toNat < b.length:=by show 2 < _; omega
 have i3:(3:Int).toNat < b.length:=by show 3 < _; omega
 have i4:(4:Int).toNat < b.length:=by show 4 < _; omega
 have i5:(5:Int).toNat < b.length:=by show 5 < _; omega
 have i6:(6:Int).toNat < b.length:=by show 6 < _; omega
 have i7:(7:Int).toNat < b.length:=by show 7 < _; omega
 have hvn:=Ag4 (show 4 + 3 ≤ b.length by omega)
 have e5:b[4 + 1]'(by omega) = b[5]'(by omega):=rfl
 have e6:b[4 + 2]'(by omega) = b[6]'(by omega):=rfl
 rw [e5,e6] at hvn
 have w:∀ x:UInt8,IntKind.i64.wrap (x.toNat:Int) = x.toNat ∧ x.toNat < 256:=fun x=>by have:=x.toNat_lt; refine ⟨?_,this⟩; rw [IntKind.wrap_i64]; omega
 obtain ⟨w4,l4⟩:=w (b[4]'(by omega))
 obtain ⟨w5,l5⟩:=w (b[5]'(by omega))
 obtain ⟨w6,l6⟩:=w (b[6]'(by omega))
 have g0:b[(0:Int).toNat]'i0 = b[0]'(by omega):=rfl
 have g1:b[(1:Int).toNat]'i1 = b[1]'(by omega):=rfl
 have g2:b[(2:Int).toNat]'i2 = b[2]'(by omega):=rfl
 have g3:b[(3:Int).toNat]'i3 = b[3]'(by omega):=rfl
 have g4:b[(4:Int).toNat]'i4 = b[4]'(by omega):=rfl
 have g5:b[(5:Int).toNat]'i5 = b[5]'(by omega):=rfl
 have g6:b[(6:Int).toNat]'i6 = b[6]'(by omega):=rfl
 have g7:b[(7:Int).toNat]'i7 = b[7]'(by omega):=rfl
 have iz:∀ x:UInt8,(x.toNat:Int) ≠ 0 → ¬ x = 0:=fun x h e=>h (by rw [e]; rfl)
 have iy:∀ x:UInt8,(x.toNat:Int) = 0 → x = 0:=fun x h=>by apply UInt8.toNat_inj.1; show x.toNat = 0; omega
 generalize b[0]'(by omega) = x0 at *
 generalize b[1]'(by omega) = x1 at *
 generalize b[2]'(by omega) = x2 at *
 generalize b[3]'(by omega) = x3 at *
 generalize b[4]'(by omega) = x4 at *
 generalize b[5]'(by omega) = x5 at *
 generalize b[6]'(by omega) = x6 at *
 generalize b[7]'(by omega) = x7 at *
 have hvv:(x4.toNat:Int) * 65536 + (x5.toNat:Int) * 256 + (x6.toNat:Int) = (numAt b 4 3:Int):=by rw [hvn]; omega
 have hvl:=E7 b 4 3
 refine rg ?_;conv=>whnf
 refine ⟨E,by decide,i4,?_⟩
 rw [g4]
 conv=>whnf
 rw [w4]
 refine ⟨by unfold I64; omega,?_⟩
 conv=>whnf
 refine ⟨E,by decide,i5,?_⟩
 rw [g5]
 conv=>whnf
 rw [w5]
 refine ⟨by unfold I64; omega,?_⟩
 conv=>whnf
 refine ⟨by unfold I64; omega,?_⟩
 conv=>whnf
 refine ⟨E,by decide,i6,?_⟩
 rw [g6]
 conv=>whnf
 rw [w6]
 refine ⟨by unfold I64; omega,?_⟩
 rw [hvv]
 generalize numAt b 4 3 = v at *
 conv=>whnf
 refine ⟨(by kernel_rfl),?_⟩
 conv=>whnf
 refine ⟨E,by decide,i0,?_⟩
 rw [g0]
 conv=>whnf
 refine ⟨fun h=>?_,fun h=>?_⟩
 ·have hne:¬ x0 = 8:=fun e=>by rw [e] at h; revert h; decide
  rw [if_pos (.inr (fun e=>hne (hi.1 e).1))] at hres
  subst hres
  (refine rg ?_;(conv=>whnf);refine aT ?_;refine rg ?_;(conv=>whnf);refine aT ?_;refine rg ?_;(conv=>whnf);refine aT ?_;refine rg ?_;(conv=>whnf);refine aT ?_;refine rg ?_;(conv=>whnf);refine aT ?_;refine rg ?_;conv=>whnf)
  refine An 3 1 Aj E ?_
  exact Ac E (.cons .tmp (.cons .tmp (.cons .tmp .nil))) E E
 have c0:x0 = 8:=by
  have h2:(x0.toNat:Int) = 8:=by simpa using h
  apply UInt8.toNat_inj.1; show x0.toNat = 8; omega
 clear h
 refine rg ?_;conv=>whnf
 refine ⟨E,by decide,i1,?_⟩
 rw [g1]
 conv=>whnf
 refine ⟨fun h=>?_,fun h=>?_⟩
 ·rw [if_pos (.inr (fun e=>iz x1 (by simpa using h) (hi.1 e).2.1))] at hres
  subst hres
  (refine rg ?_;(conv=>whnf);refine aT ?_;refine rg ?_;(conv=>whnf);refine aT ?_;refine rg ?_;(conv=>whnf);refine aT ?_;refine rg ?_;(conv=>whnf);refine aT ?_;refine rg ?_;conv=>whnf)
  refine An 3 1 Aj E ?_
  exact Ac E (.cons .tmp (.cons .tmp (.cons .tmp .nil))) E E
 have c1:=iy x1 (by simpa using h)
 clear h
 refine rg ?_;conv=>whnf
 refine ⟨E,by decide,i2,?_⟩
 rw [g2]
 conv=>whnf
 refine ⟨fun h=>?_,fun h=>?_⟩
 ·rw [if_pos (.inr (fun e=>iz x2 (by simpa using h) (hi.1 e).2.2.1))] at hres
  subst hres
  (refine rg ?_;(conv=>whnf);refine aT ?_;refine rg ?_;(conv=>whnf);refine aT ?_;refine rg ?_;(conv=>whnf);refine aT ?_;refine rg ?_;conv=>whnf)
  refine An 3 1 Aj E ?_
  exact Ac E (.cons .tmp (.cons .tmp (.cons .tmp .nil))) E E
 have c2:=iy x2 (by simpa using h)
 clear h
 refine rg ?_;conv=>whnf
 refine ⟨E,by decide,i3,?_⟩
 rw [g3]
 conv=>whnf
 refine ⟨fun h=>?_,fun h=>?_⟩
 ·rw [if_pos (.inr (fun e=>iz x3 (by simpa using h) (hi.1 e).2.2.2.1))] at hres
  subst hres
  (refine rg ?_;(conv=>whnf);refine aT ?_;refine rg ?_;(conv=>whnf);refine aT ?_;refine rg ?_;conv=>whnf)
  refine An 3 1 Aj E ?_
  exact Ac E (.cons .tmp (.cons .tmp (.cons .tmp .nil))) E E
 have c3:=iy x3 (by simpa using h)
 clear h
 refine rg ?_;conv=>whnf
 refine ⟨E,by decide,i7,?_⟩
 rw [g7]
 conv=>whnf
 refine ⟨fun h=>?_,fun h=>?_⟩
 ·rw [if_pos (.inr (fun e=>iz x7 (by simpa using h) (hi.1 e).2.2.2.2))] at hres
  subst hres
  (refine rg ?_;(conv=>whnf);refine aT ?_;refine rg ?_;conv=>whnf)
  refine An 3 1 Aj E ?_
  exact Ac E (.cons .tmp (.cons .tmp (.cons .tmp .nil))) E E
 have c7:=iy x7 (by simpa using h)
 clear h
 have he:=hi.2 ⟨c0,c1,c2,c3,c7⟩
 refine rg ?_;conv=>whnf
 refine ⟨fun h=>?_,fun h=>?_⟩
 ·rw [if_pos (.inl (by have:(v:Int) = 0:=(by simpa using h); omega))] at hres
  subst hres
  refine rg ?_;conv=>whnf
  refine An 3 1 Aj E ?_
  exact Ac E (.cons .tmp (.cons .tmp (.cons .tmp .nil))) E E
 have h0:¬ v = 0:=by
  have:¬ (v:Int) = 0:=by simpa using h
  omega
 rw [if_neg (fun h=>h.elim h0 (fun h2=>h2 he))] at hres
 subst hres
 have etk:(b.take b.length).drop 8 = b.drop 8:=by rw [List.take_length]
 refine rg ?_;conv=>whnf
 refine Ai (Bb (lo:=8) (hi:=b.length) Γ.toTy E E E E (.inr ⟨_,_,E,E⟩) (.inl ⟨E,E⟩) h8 (Nat.le_refl _)) E E ?_
 refine rg ?_;conv=>whnf
 refine Ai (Af Γ.toTy 61 E E E E E (.lit (e:=Aj) (l:=[]) E E) .sl (by simp) (by simp; omega) (by simp; omega)) E E ?_
 refine As 61 E ?_
 refine rg ?_;conv=>whnf
 refine Ac E (.cons .tmp (.cons .tmp (.cons .tmp .nil))) ?_ E
 show SV.tup [_,.sl 1 Aj (b.drop 8),_] = SV.tup [_,.sl 1 Aj ([] ++ (b.take b.length).drop 8),_]
 rw [etk]
 rfl
end Go.Sy.YtmelpejjondedaaGreat
