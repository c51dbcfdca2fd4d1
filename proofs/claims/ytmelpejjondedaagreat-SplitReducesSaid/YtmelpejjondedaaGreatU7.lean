/-
  Sy35 Sy36 Sy37 Sy38 Z3 Z4 K27 K28 K29 K30 K31 K32 K33 K34 K35: parts of a proof, joined by program.
-/
import Derived.Test.YtmelpejjondedaaGreatU3
import Derived.Test.YtmelpejjondedaaGreatU6
import Derived.Laws.LoneSync
import Derived.Test.YtmelpejjondedaaGreatU5
namespace Go.Sy
theorem G_dat {C:Cx} {kk:List KI} {s:SS} (i q:Nat) {sz:Nat} {α:Type} {e:α→SV} {l:List α} (h:s.σ i=.sl sz e l) (hl:l≠[])
  (hg:∀ b off cap,l.length≤cap→G C kk ⟨upd s.σ i (.val (.slice (some ⟨b,off,none⟩) l.length cap)),upd s.h q (.dat (.slice (some ⟨b,off,none⟩) l.length cap) sz e l)⟩):G C kk s:=fun κ a w hs=>by
 have h1:=hs.slot i
 rw[h]at h1
 have h1':=h1
 simp only[Rd,RdD]at h1
 rcases h1 with ⟨h2,_⟩ | ⟨b,off,cap,h2,h3,_⟩
 ·exact absurd h2 hl
 ·refine hg b off cap h3 κ a w ⟨hs.defers,hs.size,hs.inv,hs.ctx,fun j=>?_,fun j=>?_⟩
  ·show Rd κ w (upd s.σ i (.val (.slice (some ⟨b,off,none⟩) l.length cap)) j) _
   by_cases hj:j=i
   ·subst hj;rw[Bq];simp only[Rd];exact h2
   ·rw[Cd _ _ hj];exact hs.slot j
  ·show ObOK κ w j (upd s.h q (.dat (.slice (some ⟨b,off,none⟩) l.length cap) sz e l) j)
   by_cases hj:j=q
   ·subst hj;rw[Bq];rw[h2]at h1';exact h1'
   ·rw[Cd _ _ hj];exact hs.obj j
theorem Aai {P:Program} (Γ:Ty P) {o:Oper} {s:SS} {t:TypeId} {ti:TI} {et:TypeId} {sz eb b off n cap hi:Nat} {ez:List Value} {x hx mx:Operand} {k2 k3:IntKind}
  (h:o.op=.slice t x none (some hx) (some mx)) (ht:Γ.get t=some ti) (hk:ti.k=.slice et sz eb ez) (hxe:ev s x=.val (.slice (some ⟨b,off,none⟩) n cap)) (hhi:ev s hx=.val (.int k2 hi)) (hmx:ev s mx=.val (.int k3 hi))
  (h3:hi≤cap):Good P o s ⟨.val (.slice (some ⟨b,off,none⟩) hi hi),[],[]⟩ :=
 Good.pure fun κ a w _ hr _=>by
  have r1:=hr x (by simp[h,Op.operands])
  have r3:=hr hx (by simp[h,Op.operands])
  have r4:=hr mx (by simp[h,Op.operands])
  rw[hxe]at r1
  rw[hhi]at r3
  rw[hmx]at r4
  obtain ⟨hu,i,zv,q1,q2,q3,q4,q5⟩:=Ce Γ ht hk
  have hb:(Instr.sliceBounds true n cap none (some (a.eval hx)) (some (a.eval mx))).run P w=.ok (0,hi,hi) w:=by
   rw[r3.val,r4.val]
   simp[Instr.sliceBounds,Instr.sliceBound,asIntOf,h3]
  refine⟨.slice (some ⟨b,off,none⟩) hi hi,?_,by simp only[Rd]⟩
  by_cases hc:hi=0
  ·subst hc
   simp[execOp,h,r1.val,Instr.sliceAt,Instr.slice,run_underlying hu,hb,sizeOf,typeInfo,q1]
  ·simp[execOp,h,r1.val,Instr.sliceAt,Instr.slice,run_underlying hu,hb,sizeOf,typeInfo,q1,q2,hc,Addr.add_lit]
theorem Aao {P:Program} (Γ:Ty P) {o:Oper} {s:SS} (q:Nat) {t:TypeId} {ti:TI} {et:TypeId} {sz eb b off n cap:Nat} {ez:List Value} {x y:Operand} {α:Type} {e:α→SV} {l l':List α}
  (h:o.op=.call ⟨.builtin .append,#[x,y],#[t,t]⟩) (ht:Γ.get t=some ti) (hk:ti.k=.slice et sz eb ez) (hez:ez.length=sz) (hx:ev s x=.val (.slice (some ⟨b,off,none⟩) n n))
  (hq:s.h q=.dat (.slice (some ⟨b,off,none⟩) l.length cap) sz e l) (hn:n≤l.length) (hy:ev s y=.sl sz e l') (hbytes:(n+l'.length) * eb≤140737488355328) (h63:n+l'.length≤9223372036854775807) :
  Good P o s ⟨.sl sz e (l.take n++l'),[q],[]⟩:=by
 intro κ a w hinv hr ho N Q hN
 have r1:=hr x (by simp[h,Op.operands,Call.operands])
 have r2:=hr y (by simp[h,Op.operands,Call.operands])
 rw[hx]at r1
 rw[hy]at r2
 have hq1:=ho q (.inl za)
 rw[hq]at hq1
 have hq1:Rd κ w (.sl sz e l) (.slice (some ⟨b,off,none⟩) l.length cap):=hq1
 obtain ⟨hu,ii,zv,q1,q2,q3,q4,q5⟩:=Ce Γ ht hk
 have hzs:zv.cells.size=sz:=by rw[← hez,← q5];simp
 have htl:(l.take n).length=n:=by rw[List.length_take];omega
 have hbase:Rd κ w (.sl sz e (l.take n)) (.slice (some ⟨b,off,none⟩) n n):=by
  simp only[Rd,RdD]at hq1 ⊢
  rcases hq1 with ⟨h0,_⟩ | ⟨b2,off2,cap2,h2,h3,h4,h5,h6⟩
  ·have hn0:n=0:=by rw[h0]at hn;simpa using hn
   subst hn0
   exact .inl ⟨by simp,_,_,E⟩
  ·cases h2
   refine .inr ⟨b,off,n,by rw[htl],by rw[htl];exact Nat.le_refl _,h4,h5,fun i hi=>?_⟩
   obtain ⟨u,h7,h8⟩:=h6 i qn
   exact⟨u,by rw[List.getElem_take];exact h7,h8⟩
 have hrb:=hbase.src
 have hru:=r2.src
 rw[htl]at hrb
 obtain ⟨m,hm⟩:∃ m,l'.length=m:=⟨_,rfl⟩
 rw[hm]at hru hbytes h63
 generalize hve:a.eval y=u at *
 obtain ⟨ad,c,news,hu2,hnl,hn1,hnc,hng⟩:∃ (a:Option Addr) (c:Nat) (news:List Value),u=.slice a m c∧news.length=m * sz∧Ones news∧(∀ W:World,(∀ p:Addr,p.block<w.heap.size→W.cell? p=w.cell? p)→(Builtin.firstCells sz m u).run P W=.ok news.toArray W) ∧
   (∀ j x,rowF e l' j x→j<m∧∃ q:Value,RdD (Own κ) w x q∧q.cells.size=sz∧Ones q.cells.toList∧∀ l,l<sz→news[j * sz+l]? = q.cells[l]?):=by
  rcases hru with ⟨rfl,hno,a,c,rfl⟩ | ⟨b,o,c,news,rfl,h1,h2,h3,h4⟩
  ·refine⟨a,c,[],E,by simp,by simp[Ones],fun W _=>?_,fun j x h=>absurd h (hno j x)⟩
   cases a<;>simp[Builtin.firstCells,loadCells,loadCellsFrom]
  ·refine⟨some ⟨b,o,none⟩,c,news,E,h1,h2,fun W hW=>?_,fun j x hx=>h4 j x hx⟩
   exact run_firstCells_some (P:=P) W sz m ⟨b,o,none⟩ m c news h1 (fun j q hj=>by
    rw[Addr.add_lit]
    have h5:=h3 j q hj
    rw[hW _ (by exact World.block_lt_of_cell? w _ h5),h5])
 subst hu2
 by_cases hm0:m=0
 ·subst hm0
  have hl':l'=[]:=List.eq_nil_of_length_eq_zero hm
  subst hl'
  have hc:=hnc w (fun _ _=>rfl)
  have hnn:news=[]:=by simpa using hnl
  subst hnn
  have hrun:(execOp a.eval o).run P w=.ok (.value (.slice (some ⟨b,off,none⟩) n n)) w:=by
   simp[execOp,h,resolve,invoke,builtin,Builtin.append_,r1.val,hve,run_underlying hu,sizeOf,typeInfo,q1,q2,Builtin.lenOf,hc,storeCells]
  simp only[Oper.wp,hrun,Oper.upon]
  refine hN _ κ w (Step.refl _ κ w) hinv ?_ (fun p hp=>by cases hp)
  rw[List.append_nil]
  exact hbase
 obtain ⟨olds,hol,hof,hfo⟩:∃ olds:List Value,olds.length=n * sz∧(∀ j x,rowF e (l.take n) j x→j<n→∃ q:Value,RdD (Own κ) w x q∧q.cells.size=sz∧Ones q.cells.toList∧∀ l,l<sz→olds[j * sz+l]? = q.cells[l]?) ∧
   (Builtin.firstCells sz n (.slice (some ⟨b,off,none⟩) n n)).run P w.drew=.ok olds.toArray w.drew:=by
  rcases hrb with ⟨rfl,hno,_⟩ | ⟨b2,o2,c2,olds,he,g1,g2,g3,g4⟩
  ·exact⟨[],by simp,fun j x _ hj=>absurd hj qn,run_firstCells_some (P:=P) w.drew sz 0 ⟨b,off,none⟩ 0 0 [] za (fun j v hj=>by simp at hj)⟩
  ·cases he
   exact⟨olds,g1,fun j x hx _=>(g4 j x hx).2,run_firstCells_some (P:=P) w.drew sz n ⟨b,off,none⟩ n n olds g1 (fun j v hj=>by
    have:=g3 j v hj
    rw[Addr.add_lit];simpa using this)⟩
 have hcap:n+m≤grownCap w (n+m) n et:=grownCap_ge w (n+m) n et
 have h48:¬ (281474976710656<Builtin.nextslicecap (n+m) n * ii.bytes):=by
  have:=growslice_fits (need:=n+m) (old:=n) (bytes:=ii.bytes) qn (by rw[q3];exact hbytes)
  omega
 have h63':¬ (9223372036854775807<(n:Int)+(m:Int)):=by omega
 have hroom:¬ n+m≤n:=by omega
 have hc:=hnc w.drew (fun _ _=>rfl)
 obtain ⟨w',hw'⟩:∃ w',w.drew.alloc (.cells (olds.toArray++news.toArray++Builtin.zeroCells zv.cells (grownCap w (n+m) n et-(n+m))) et)=w':=⟨_,rfl⟩
 have hrun:(execOp a.eval o).run P w=.ok (.value (.slice (some ⟨w.heap.size,0,none⟩) (n+m) (grownCap w (n+m) n et))) w':=by
  rw[← hw']
  simp[execOp,h,resolve,invoke,builtin,Builtin.append_,r1.val,hve,run_underlying hu,sizeOf,typeInfo,zeroValue,q4,q1,q2,Builtin.lenOf,hm0,h63',h48,Question.forced,hfo,hc,newRow,grownCap]
  rw[if_neg hroom]
  have ea:∀ Z:Array Value,olds.toArray++(news.toArray++Z)=(olds++news).toArray++Z:=fun Z=>by apply Array.ext';simp
  rw[ea]
 have g0:Grew w w':=by rw[← hw'];exact(Grew.drew w).trans (Grew.alloc _ _)
 obtain ⟨st,inv⟩:=Ak2 hinv g0
 have hblk:w'.heap[w.heap.size]? = some (.cells (olds++news++(Builtin.zeroCells zv.cells (grownCap w (n+m) n et-(n+m))).toList).toArray et):=by
  rw[← hw']
  have:(w.drew.alloc (.cells (olds.toArray++news.toArray++Builtin.zeroCells zv.cells (grownCap w (n+m) n et-(n+m))) et)).heap[w.heap.size]? = some (.cells (olds.toArray++news.toArray++Builtin.zeroCells zv.cells (grownCap w (n+m) n et-(n+m))) et):=heap_alloc_new w.drew _
  rw[this]
  congr 2
  apply Array.ext'
  simp
 have hsz:w.heap.size<w'.heap.size:=by rw[← hw'];simp
 simp only[Oper.wp,hrun,Oper.upon]
 refine hN _ κ w' (st.weaken (fun _ h=>h.elim)) inv ?_ (fun p hp=>by cases hp)
 simp only[Rd,RdD]
 have hlen:(l.take n++l').length=n+m:=by rw[List.length_append,htl,hm]
 refine .inr ⟨w.heap.size,0,grownCap w (n+m) n et,by rw[hlen],by rw[hlen];exact hcap,?_,hsz,fun j hj=>?_⟩
 ·rintro (⟨k,hk⟩ | hk)
  ·exact Nat.lt_irrefl _ (hinv.bnd k _ hk)
  ·exact Nat.lt_irrefl _ (hinv.mbnd _ hk)
 ·rw[hlen]at hj
  by_cases hjn:j<n
  ·obtain ⟨qv,g1,g2,g3,g4⟩:=hof j (e (l.take n)[j]) ⟨by omega,rfl⟩ hjn
   refine⟨qv,by rw[List.getElem_append_left qn];exact RdD.keep st.keeps _ _ g1,g2,g3,fun p hp=>?_⟩
   have:(j+1) * sz≤n * sz:=Nat.mul_le_mul_right sz qn
   rw[Nat.add_mul,Nat.one_mul]at this
   rw[cell_of_row w' _ _ _ et (0,0) hblk,List.getElem?_toArray,List.append_assoc,List.getElem?_append_left qn,Nat.zero_add]
   exact g4 p hp
  ·obtain ⟨_,qv,g1,g2,g3,g4⟩:=hng (j-n) (e (l'[j-n]'qn)) ⟨by omega,rfl⟩
   refine⟨qv,?_,g2,g3,fun p hp=>?_⟩
   ·rw[List.getElem_append_right qn]
    simp only[htl]
    exact RdD.keep st.keeps _ _ g1
   ·have e1:j * sz=n * sz+(j-n) * sz:=by rw[← Nat.add_mul];congr 1;omega
    have:(j-n+1) * sz≤m * sz:=Nat.mul_le_mul_right sz qn
    rw[Nat.add_mul,Nat.one_mul]at this
    rw[cell_of_row w' _ _ _ et (0,0) hblk,List.getElem?_toArray,List.append_assoc,List.getElem?_append_right qn,List.getElem?_append_left qn,← g4 p hp]
    congr 1
    omega
theorem Wt {P:Program} {o:Oper} {s:SS} (q:Nat) {sz:Nat} {α:Type} {e:α→SV} {l:List α} {v:Value} {x:Operand} (h:o.op=.move x∨o.op=.assign x) (hx:ev s x=.val v) (hq:s.h q=.dat v sz e l):Good P o s ⟨.sl sz e l,[q],[]⟩ :=
 Good.pure fun κ a w _ hr ho=>by
  have hq1:=ho q za
  rw[hq]at hq1
  have hr1:=hr x (by rcases h with h | h<;>simp[h,Op.operands])
  rw[hx]at hr1
  refine⟨a.eval x,?_,?_⟩
  ·rcases h with h | h<;>simp[execOp,h]
  ·rw[hr1.val];exact hq1
theorem Zj {f g:Nat→Option (Nat × Nat)}:∀ (ps:List (Nat × Value)) (cs:Array Value),(∀ p∈ps,f p.1=g p.1)→Instr.fill f cs ps=Instr.fill g cs ps
 | [],cs,_=>rfl
 | (i,v)::ps,cs,h=>by
  have h1:=h (i,v) za
  simp only[Instr.fill]
  dsimp only at h1
  rw[h1]
  cases g i with
  | none=>rfl
  | some os =>
   dsimp only
   split
   ·rfl
   ·exact Zj ps _ (fun p hp=>h p (by simp[hp]))
theorem Af1 {P:Program} (Γ:Ty P) {o:Oper} {s:SS} {t et:TypeId} {ti:TI} {len esz:Nat} {ps:List (Nat × Operand)} {out:List SV} (h:o.op=.build t ps.toArray) (ht:Γ.get t=some ti) (hk:ti.k=.array et len esz)
  (h1:Wm ti.zero=true) (hps:(ps.all fun p=>Nat.blt p.1 len)=true) (hf:Zk ((List.range len).map fun i=>(i * esz,esz)) (ti.zero.map .val) (ps.map fun p=>(p.1,ev s p.2))=some out):Good P o s ⟨.agg out,[],[]⟩ :=
 Good.pure fun κ a w _ hr _=>by
  obtain ⟨d,info,z,k1,k2,k3,k4,k5,k6⟩:=Γ.ok t ti ht
  obtain ⟨hu,i,q1,q2⟩:=Qf Γ ht hk
  have hops:∀ p∈ps,Rd κ w (ev s p.2) (a.eval p.2):=fun p hp=>hr p.2 (by
   simp only[h,Op.operands]
   simp only[List.mem_toArray,List.mem_map]
   exact⟨p,hp,E⟩)
  obtain ⟨r,r1,r2,r3⟩:=Adg (κ:=κ) (w:=w) (a:=a) ps _ out z.cells (by rw[k6];exact Vd _) (by rw[k6];exact Ov h1) hops hf
  refine⟨.agg r,?_,?_⟩
  ·have hcg:=Zj (f:=fun i=>some (i * esz,esz)) (g:=fun i=>((List.range len).map fun i=>(i * esz,esz))[i]?) (ps.map fun p=>(p.1,a.eval p.2)) z.cells (fun p hp=>by
    obtain ⟨x,hx,rfl⟩:=List.mem_map.1 hp
    have hlt:x.1<len:=Nat.le_of_ble_eq_true (List.all_eq_true.1 hps x hx)
    dsimp only
    rw[List.getElem?_map,List.getElem?_range hlt]
    rfl)
   simp only[execOp,h,Sem.run_bind,Instr.build,zeroValue,typeInfo,run_program,Result.andThen_ok,k3,k5,Sem.run_pure,run_underlying hu,sizeOf,q1,q2,List.map_toArray]
   rw[hcg,r1]
   simp
  ·simp only[Rd]
   exact⟨r.toList,by simp,r3,r2⟩
mutual
def rnb (k d:Nat):SV→SV
 | .ptr j o=>bif Nat.beq j k then .ptr d o else .ptr j o
 | .agg l=>.agg (X7 k d l)
 | .tup l=>.tup (X7 k d l)
 | .ifc t y=>.ifc t (rnb k d y)
 | .clo f g l=>.clo f (X7 k d g) (X7 k d l)
 | y=>y
def X7 (k d:Nat):List SV→List SV
 | []=>[]
 | y::l=>rnb k d y::X7 k d l
end
mutual
theorem Ahd {κ κ':Ka} {w:World} {K:Nat→Prop} {k d:Nat} (st:Step K κ w κ' w) (hx:∀ o v,Rd κ w (.ptr k o) v→Rd κ' w (.ptr d o) v):∀ (y:SV) (v:Value),Rd κ w y v→Rd κ' w (rnb k d y) v
 | .ptr j o,v,h=>by
  unfold rnb
  by_cases hk:j=k
  ·subst hk;rw[show Nat.beq j j=true from Nat.beq_refl j];exact hx o v h
  ·rw[show Nat.beq j k=false from by cases hb:Nat.beq j k with | false=>rfl | true=>exact absurd (Nat.eq_of_beq_eq_true hb) hk];exact Rd.step st _ _ h
 | .agg l,v,h=>by
  simp only[Rd]at h
  unfold rnb
  simp only[Rd]
  obtain ⟨cs,h1,h2,h3⟩:=h
  exact⟨cs,h1,h2,Mf st hx l cs h3⟩
 | .tup l,v,h=>by
  simp only[Rd]at h
  unfold rnb
  simp only[Rd]
  obtain ⟨cs,h1,h3⟩:=h
  exact⟨cs,h1,Mf st hx l cs h3⟩
 | .ifc t y,v,h=>by
  simp only[Rd]at h
  unfold rnb
  simp only[Rd]
  obtain ⟨u,h1,h3⟩:=h
  exact⟨u,h1,Ahd st hx y u h3⟩
 | .clo f g l,v,h=>by
  simp only[Rd]at h
  unfold rnb
  simp only[Rd]
  obtain ⟨fs,cs,h1,h2,h3⟩:=h
  exact⟨fs,cs,h1,Mf st hx g fs h2,Mf st hx l cs h3⟩
 | .top,v,h=>by unfold rnb;exact Rd.step st _ _ h
 | .val u,v,h=>by unfold rnb;exact Rd.step st _ _ h
 | .sl sz e l,v,h=>by unfold rnb;exact Rd.step st _ _ h
 | .ref sz z o,v,h=>by unfold rnb;exact Rd.step st _ _ h
 | .rpt k sz i o,v,h=>by unfold rnb;exact Rd.step st _ _ h
 | .osl k,v,h=>by unfold rnb;exact Rd.step st _ _ h
theorem Mf {κ κ':Ka} {w:World} {K:Nat→Prop} {k d:Nat} (st:Step K κ w κ' w) (hx:∀ o v,Rd κ w (.ptr k o) v→Rd κ' w (.ptr d o) v):∀ (l:List SV) (vs:List Value),RdL κ w l vs→RdL κ' w (X7 k d l) vs
 | [],vs,h=>by
  unfold X7
  simpa [RdL] using h
 | y::l,vs,h=>by
  simp only[RdL]at h
  unfold X7
  simp only[RdL]
  obtain ⟨v,r,h1,h2,h3⟩:=h
  exact⟨v,r,h1,Ahd st hx y v h2,Mf st hx l r h3⟩
end
def rnbO (k d:Nat):Ob→Ob
 | .box l=>.box (X7 k d l)
 | o=>o
theorem Ag2 {κ:Ka} {w:World} {k d b:Nat} (hi:Inv κ w) (hk:κ k=.blk b) (hd:κ d=.new) :
  Step (fun j=>j=k∨j=d) κ w (Db (Db κ k .dead) d (.blk b)) w∧Inv (Db (Db κ k .dead) d (.blk b)) w:=by
 have hkd:k≠d:=fun e=>by subst e;rw[hk]at hd;cases hd
 have hkb:(κ k).block? = some b:=by rw[hk];rfl
 have key:∀ j c,((Db (Db κ k .dead) d (.blk b)) j).block? = some c→(j=d∧c=b)∨(j≠d∧j≠k∧(κ j).block? = some c):=by
  intro j c h
  by_cases hj:j=d
  ·subst hj;rw[Ax]at h;exact .inl ⟨rfl,by simpa [Ent.block?] using h.symm⟩
  ·rw[Bz _ _ hj]at h
   by_cases hj2:j=k
   ·subst hj2;rw[Ax]at h;cases h
   ·rw[Bz _ _ hj2]at h;exact .inr ⟨hj,hj2,h⟩
 refine⟨⟨Nat.le_refl _,E,E,E,E,fun _ _=>rfl,fun _ _ _=>rfl,fun _ _ _ _=>rfl,fun j hj=>?_,?_,?_⟩,⟨?_,?_,?_,fun c h=>hi.mbnd c h⟩⟩
 ·rw[Bz _ _ (fun e=>hj (.inr e)),Bz _ _ (fun e=>hj (.inl e))]
 ·rintro j (rfl | rfl)
  ·exact .inr (.inr (by rw[Bz _ _ hkd,Ax]))
  ·exact .inl hd
 ·rintro c (⟨j,hj⟩ | hj)
  ·rcases key j c hj with ⟨_,rfl⟩ | ⟨_,_,h⟩
   ·exact .inl (.inl ⟨k,hkb⟩)
   ·exact .inl (.inl ⟨j,h⟩)
  ·exact .inl (.inr hj)
 ·intro i j c h1 h2
  rcases key i c h1 with ⟨a1,a2⟩ | ⟨a1,a2,a3⟩<;>rcases key j c h2 with ⟨b1,b2⟩ | ⟨b1,b2,b3⟩
  ·exact a1.trans b1.symm
  ·subst a2;exact absurd (hi.inj j k _ b3 hkb) b2
  ·subst b2;exact absurd (hi.inj i k _ a3 hkb) a2
  ·exact hi.inj i j c a3 b3
 ·intro j c h
  rcases key j c h with ⟨_,rfl⟩ | ⟨_,_,h⟩
  ·exact hi.bnd k _ hkb
  ·exact hi.bnd j c h
 ·intro j c h
  rcases key j c h with ⟨_,rfl⟩ | ⟨_,_,h⟩
  ·exact hi.apart k _ hkb
  ·exact hi.apart j c h
theorem Iz {C:Cx} {kk:List KI} {s:SS} (k d:Nat) {l:List SV} (h:s.h k=.box l) (hd:s.h d=.fresh) (hkd:k≠d)
  (hg:G C kk ⟨fun i=>rnb k d (s.σ i),upd (fun j=>bif Nat.beq j k then .non else rnbO k d (s.h j)) d (.box (X7 k d l))⟩):G C kk s:=fun κ a w hs=>by
 have hob:=hs.obj k
 rw[h]at hob
 have hnew:κ d=.new:=by have:=hs.obj d;rwa [hd]at this
 obtain ⟨b,cs,T,fr,e1,e2,e3,e4,e5⟩:=hob
 obtain ⟨st,inv⟩:=Ag2 hs.inv e1 hnew
 have hne:∀ j,j≠k→j≠d→(Db (Db κ k .dead) d (.blk b)) j=κ j:=fun j h1 h2=>by rw[Bz _ _ h2,Bz _ _ h1]
 have hv:∀ o v,Rd κ w (.ptr k o) v→Rd (Db (Db κ k .dead) d (.blk b)) w (.ptr d o) v:=fun o v hv=>by
  simp only[Rd,e1]at hv
  simp only[Rd,Ax]
  exact hv
 refine hg _ a w ⟨hs.defers,hs.size,inv,hs.ctx.step inv st,fun j=>Ahd st hv _ _ (hs.slot j),fun j=>?_⟩
 show ObOK _ w j (upd (fun j=>bif Nat.beq j k then .non else rnbO k d (s.h j)) d (.box (X7 k d l)) j)
 by_cases hj:j=d
 ·subst hj
  rw[Bq]
  exact⟨b,cs,T,fr,Ax _ _ _,e2,e3,e4,Mf st hv l cs e5⟩
 ·rw[Cd _ _ hj]
  by_cases hj2:j=k
  ·subst hj2;rw[show Nat.beq j j=true from Nat.beq_refl j];trivial
  ·rw[show Nat.beq j k=false from by cases hb:Nat.beq j k with | false=>rfl | true=>exact absurd (Nat.eq_of_beq_eq_true hb) hj2]
   have hb:=ObOK.step st (fun e=>e.elim hj2 hj) _ (hs.obj j)
   have h0:=hs.obj j
   show ObOK _ w j (rnbO k d (s.h j))
   cases hh:s.h j with
   | box m =>
    rw[hh]at h0 hb
    obtain ⟨b2,cs2,T2,fr2,f1,f2,f3,f4,f5⟩:=h0
    exact⟨b2,cs2,T2,fr2,(hne j hj2 hj).trans f1,f2,f3,f4,Mf st hv m cs2 f5⟩
   | fresh=>rw[hh]at hb;exact hb
   | non=>rw[hh]at hb;exact hb
   | row sz' e' l'=>rw[hh]at hb;exact hb
   | lit sz' svs=>rw[hh]at hb;exact hb
   | glob sz' x' g'=>rw[hh]at hb;exact hb
   | pin b' n' cap' sz' e' l'=>rw[hh]at hb;exact hb
   | dat v' sz' e' l'=>rw[hh]at hb;exact hb
theorem VwL.get {s:SS} {V:List Nat}:∀ {l m:List SV} (_:VwL s V l m) {i:Nat} {y:SV},Eg m i=some y→∃ x,Eg l i=some x∧Vw s V x y
 | _,_,.nil,i,y,h=>by cases i<;>simp[Eg]at h
 | _,_,.cons (x:=x) h0 hs,0,y,h=>by
  simp only[Eg,Option.some.injEq]at h
  subst h
  exact⟨x,E,h0⟩
 | _,_,.cons h0 hs,i+1,y,h=>VwL.get hs (i:=i) h
theorem VwL.len {s:SS} {V:List Nat}:∀ {l m:List SV} (_:VwL s V l m),m.length=l.length
 | _,_,.nil=>rfl
 | _,_,.cons _ hs=>by simp[VwL.len hs]
theorem Aby:∀ {l:List SV} {i:Nat} {x:SV},L4 l=true→Eg l i=some x→x.data=true
 | [],i,x,_,h=>by cases i<;>simp[Eg]at h
 | y::l,0,x,hd,h=>by
  simp only[Eg,Option.some.injEq]at h
  subst h
  simp only[L4,Bool.and_eq_true]at hd
  exact hd.1
 | y::l,i+1,x,hd,h=>by
  simp only[L4,Bool.and_eq_true]at hd
  exact Aby hd.2 (i:=i) h
theorem Mw {C:Cx} {k:List KI} {s:SS} (d:Nat) {sz:Nat} {svs:List SV} (svs':List SV) (h:s.h d=.lit sz svs) (hv:VwL s [] svs svs') (hd:L4 svs'=true) (hg:G C k ⟨s.σ,upd s.h d (.lit sz svs')⟩):G C k s:=fun κ a w hs=>by
 refine hg κ a w ⟨hs.defers,hs.size,hs.inv,hs.ctx,hs.slot,fun j=>?_⟩
 show ObOK κ w j (upd s.h d (.lit sz svs') j)
 by_cases hj:j=d
 ·subst hj
  rw[Bq]
  have hob:=hs.obj j
  rw[h]at hob
  have hlen:=hv.len
  obtain ⟨b,cap,cs,T,fr,e1,e2,e3,e4,e5,e6⟩:=hob
  refine⟨b,cap,cs,T,fr,by rw[hlen];exact e1,e2,e3,e4,by omega,fun i x hx=>?_⟩
  obtain ⟨y,hy,hvw⟩:=hv.get hx
  obtain ⟨f1,u,f2,f3⟩:=e6 i y hy
  exact⟨by omega,u,Rd.data _ _ (Aby hd hx) (hvw.rd hs.inv (fun n hn=>by cases hn) f2.toRd),f3⟩
 ·rw[Cd _ _ hj];exact hs.obj j
theorem RdL.setI {κ:Ka} {w:World} {x:SV} {v:Value} (hx:Rd κ w x v):∀ {l:List SV} {cs:List Value} (i:Nat),RdL κ w l cs→RdL κ w (l.set i x) (cs.set i v)
 | [],cs,i,h=>by simp only[RdL]at h;subst h;simp[RdL]
 | y::l,cs,0,h=>by
  simp only[RdL]at h
  obtain ⟨u,r,rfl,h1,h2⟩:=h
  simp only[List.set_cons_zero,RdL]
  exact⟨v,r,E,hx,h2⟩
 | y::l,cs,i+1,h=>by
  simp only[RdL]at h
  obtain ⟨u,r,rfl,h1,h2⟩:=h
  simp only[List.set_cons_succ,RdL]
  exact⟨u,_,E,h1,h2.setI hx i⟩
theorem Jh {κ:Ka} {w:World} {k:Nat} {l:List SV} (hi:Inv κ w) (h:ObOK κ w k (.box l)) {off:Nat} {x:SV} {v:Value} (hx:x.plain=true) (hv:∀ κ w,Rd κ w x v) (h1:v.oneCell'=true) :
  ∃ b,κ k=.blk b∧(∀ j y,Eg l j=some y→∃ u,w.cell? ⟨b,j,none⟩=some u∧Rd κ w y u)∧(∀ j,j<l.length→w.frozen? ⟨b,j,none⟩=false) ∧
   Step (·=k) κ w κ (w.setCell ⟨b,off,none⟩ v)∧Inv κ (w.setCell ⟨b,off,none⟩ v)∧ObOK κ (w.setCell ⟨b,off,none⟩ v) k (.box (l.set off x)):=by
 obtain ⟨b,cs,T,fr,e1,e2,e3,e4,e5⟩:=h
 have hsame:(w.setCell ⟨b,off,none⟩ v).heap[b]? = some (.cells (cs.set off v).toArray T fr):=by
  simp[World.setCell,Array.getElem?_modify,e2]
 have hoth:∀ j,j≠b→(w.setCell ⟨b,off,none⟩ v).heap[j]? = w.heap[j]?:=fun j hj=>heap_setCell_other w ⟨b,off,none⟩ j v hj
 obtain ⟨st,inv⟩:=Ma (w':=w.setCell ⟨b,off,none⟩ v) hi (k:=k) (b:=b) (by rw[e1];rfl) rfl rfl rfl za hoth
 have hlen:=e5.length
 refine⟨b,e1,fun j y hy=>?_,fun j hj=>?_,st,inv,b,_,T,fr,e1,hsame,by rw[List.length_set];exact e3,?_,(RdL.step st _ _ e5).setI (hv _ _) off⟩
 ·obtain ⟨u,hu,hr⟩:=e5.get hy
  exact⟨u,by rw[cell_of_row w b j cs.toArray T fr e2,List.getElem?_toArray];exact hu,hr⟩
 ·obtain ⟨lo,hi'⟩:=fr
  simp only[World.frozen?,e2]
  rcases e3 with h | h
  ·simp only at h;subst h;simp
  ·simp only at h;simp;omega
 ·intro c hc
  rcases List.mem_or_eq_of_mem_set hc with h | h
  ·exact e4 c h
  ·rw[h];exact h1
theorem Aam {P:Program} {o:Oper} {s:SS} {f:FuncId} {ik:IntKind} {ts:Array TypeId} {x:Operand} {k off:Nat} {l:List SV} {v:Int}
  (hf:∀ (a:Addr) (x:Int) (w:World),w.cell? a=some (.int ik x)→(callFunc f #[.pointer (some a)]).run P w=.ok (.value (.int ik x)) w)
  (h:o.op=.call ⟨.value (.func f),#[x],ts⟩) (hx:ev s x=.ptr k off) (hk:s.h k=.box l) (hy:Eg l off=some (.val (.int ik v))):Good P o s ⟨.val (.int ik v),[k],[]⟩ :=
 Good.pure fun κ a w hi hr ho=>by
  have h1:=hr x (by simp[h,Op.operands,Call.operands])
  rw[hx]at h1
  have h2:=ho k za
  rw[hk]at h2
  obtain ⟨b,cs,T,fr,e1,e2,e3,e4,e5⟩:=h2
  simp only[Rd,e1]at h1
  obtain ⟨u,hu,hr2⟩:=e5.get hy
  have hc:w.cell? ⟨b,off,none⟩=some (.int ik v):=by rw[cell_of_row w b off cs.toArray T fr e2,List.getElem?_toArray,hu,hr2.val]
  have hrun:=hf ⟨b,off,none⟩ v w hc
  refine⟨.int ik v,?_,by simp only[Rd]⟩
  have hev:a.eval (.func f)=.func (.func f) #[] #[]:=rfl
  simp[execOp,h,resolve,hev,Deferred.ofValue,invoke,h1,hrun]
theorem Ada {P:Program} {o:Oper} {s:SS} {f:FuncId} {ts:Array TypeId} {x y:Operand} {k off:Nat} {l:List SV} {v d:Int}
  (hf:∀ (a:Addr) (x y:Int) (w:World),w.cell? a=some (.int .i64 x)→w.frozen? a=false→(callFunc f #[.pointer (some a),.int .i64 y]).run P w=.ok (.value (.int .i64 (IntKind.i64.wrap (x+y)))) (w.setCell a (.int .i64 (IntKind.i64.wrap (x+y)))))
  (h:o.op=.call ⟨.value (.func f),#[x,y],ts⟩) (hx:ev s x=.ptr k off) (hy:ev s y=.val (.int .i64 d)) (hk:s.h k=.box l) (hl:Eg l off=some (.val (.int .i64 v))) (hv:IntKind.i64.wrap (v+d)=v+d) :
  Good P o s ⟨.val (.int .i64 (v+d)),[],[(k,.box (l.set off (.val (.int .i64 (v+d)))))]⟩:=by
 intro κ a w hi hr ho N Q hN
 have h1:=hr x (by simp[h,Op.operands,Call.operands])
 have h2:=hr y (by simp[h,Op.operands,Call.operands])
 rw[hx]at h1
 rw[hy]at h2
 have h3:=ho k (.inr (by simp[Up.ws]))
 rw[hk]at h3
 obtain ⟨b,e1,c1,c2,st,inv,ob⟩:=Jh (off:=off) (x:=.val (.int .i64 (v+d))) (v:=.int .i64 (v+d)) hi h3 rfl (fun _ _=>by simp only[Rd]) rfl
 simp only[Rd,e1]at h1
 obtain ⟨u,hu,hr2⟩:=c1 off _ hl
 rw[hr2.val]at hu
 have hrun:=hf ⟨b,off,none⟩ v d w hu (c2 off (K4 hl))
 rw[hv]at hrun
 have hrun2:(execOp a.eval o).run P w=.ok (.value (.int .i64 (v+d))) (w.setCell ⟨b,off,none⟩ (.int .i64 (v+d))):=by
  have hev:a.eval (.func f)=.func (.func f) #[] #[]:=rfl
  simp[execOp,h,resolve,hev,Deferred.ofValue,invoke,h1,h2.val,hrun]
 simp only[Oper.wp,hrun2,Oper.upon]
 refine hN _ κ _ (st.weaken (by simp[Up.ws])) inv (by simp only[Rd]) (fun p hp=>?_)
 simp only[List.mem_singleton]at hp
 subst hp
 exact ob
theorem Aan {P:Program} (Γ:Ty P) {o:Oper} {s:SS} (q:Nat) {t:TypeId} {ti:TI} {et:TypeId} {eb b n cap lo k c1 c2:Nat} {ez:List Value} {x y:Operand} {α:Type} {e:α→SV} {l:List α} {B B2:Option Addr}
  (h:o.op=.call ⟨.builtin .copy,#[x,y],#[t,t]⟩) (ht:Γ.get t=some ti) (hk:ti.k=.slice et 1 eb ez) (hx:ev s x=.val (.slice B (n-lo) c1)) (hB:B=some ⟨b,lo,none⟩) (hy:ev s y=.val (.slice B2 k c2)) (hB2:B2=some ⟨b,0,none⟩)
  (hq:s.h q=.pin b n cap 1 e l) (hl:l.length=n) (hk2:k≤n) (hpos:0<min k (n-lo)) :
  Good P o s ⟨.val (.int .i64 (min k (n-lo):Nat)),[],[(q,.pin b n cap 1 e (l.take lo++l.take (min k (n-lo))++l.drop (lo+min k (n-lo))))]⟩:=by
 intro κ a w hinv hr ho N Q hN
 have r1:=hr x (by simp[h,Op.operands,Call.operands])
 have r2:=hr y (by simp[h,Op.operands,Call.operands])
 rw[hx]at r1
 rw[hy]at r2
 subst hB
 subst hB2
 have hob:=ho q (.inr (by simp[Up.ws]))
 rw[hq]at hob
 obtain ⟨e0,b',cap',cs,T,fr,e1,e2,e3,e4,e5,e6⟩:=hob
 rw[e0]at e1
 cases e1
 obtain ⟨hu,ii,zv,q1,q2,q3,q4,q5⟩:=Ce Γ ht hk
 obtain ⟨mn,hmn⟩:∃ mn,min k (n-lo)=mn:=⟨_,rfl⟩
 rw[hmn]at hpos hN
 have hnc:n≤cs.length:=by omega
 have hall:∀ i,i<n→∃ u:Value,u.cells.size=1∧Ones u.cells.toList∧∀ j,j<1→cs[i * 1+j]? = u.cells[j]?:=fun i hi=>by
  obtain ⟨_,u,_,u2⟩:=e6 i (e l[i]) ⟨by omega,rfl⟩
  exact⟨u,u2⟩
 obtain ⟨news,hnews⟩:∃ news,news=cs.take mn:=⟨_,rfl⟩
 have hnl:news.length=mn:=by rw[hnews,List.length_take];omega
 have hget:∀ p,p<mn→news[p]? = cs[p]?:=fun p hp=>by rw[hnews,List.getElem?_take,if_pos hp]
 have hones:Ones news:=fun v hv=>by
  obtain ⟨p,hp,he⟩:=List.getElem_of_mem hv
  have h1:news[p]? = some v:=by rw[List.getElem?_eq_getElem hp,he]
  rw[hnl]at hp
  rw[hget p hp]at h1
  exact Aem (n:=n) hall qn h1
 obtain ⟨w',f1,f2,f3,f4,f5,f6,f7⟩:=Cq P b lo T fr news 0 cs w e2 e3 qn hones
 obtain ⟨st,inv⟩:=Oa hinv e0 f3 f4 f5 f6 f7
 have hcell:∀ p v,cs[p]? = some v→w.cell? ⟨b,p,none⟩=some v:=fun p v hp=>by simp[World.cell?,e2,hp]
 have hc:=Abz (P:=P) w w' t t o.type et ⟨b,lo,none⟩ ⟨b,0,none⟩ (n-lo) c1 k c2 news hu q1 q2 (by rw[hnl,hmn]) (fun j v hv=>by
  rw[Addr.add_lit]
  have hlt:j<mn:=by rw[← hnl];exact(List.getElem?_eq_some_iff.1 hv).1
  rw[hget j hlt]at hv
  rw[Nat.zero_add]
  exact hcell _ _ hv) f1
 rw[hnl]at hc
 have hrun:(execOp a.eval o).run P w=.ok (.value (.int .i64 (mn:Nat))) w':=by
  simp[execOp,h,resolve,invoke,builtin,r1.val,r2.val,hc]
 simp only[Oper.wp,hrun,Oper.upon]
 refine hN _ κ w' (st.weaken (fun k hk=>by subst hk;simp[Up.ws])) inv (by simp only[Rd]) (fun p hp=>?_)
 simp only[List.mem_singleton]at hp
 subst hp
 refine⟨e0,b,cap,_,T,fr,e0,f2,by rw[B4];exact e3,by rw[B4];exact e4,e5,?_⟩
 rintro i z ⟨hi0,rfl⟩
 have hset:=J2 cs news (lo+0)
 have hlen:(l.take lo++l.take mn++l.drop (lo+mn)).length=n:=by
  simp only[List.length_append,List.length_take,List.length_drop];omega
 rw[hlen]at hi0
 have src:∀ j (hj:j<l.length),∃ u:Value,RdD (Own κ) w (e l[j]) u∧u.cells.size=1∧Ones u.cells.toList∧∀ p,p<1→cs[j * 1+p]? = u.cells[p]?:=fun j hj=>(e6 j (e l[j]) ⟨hj,rfl⟩).2
 by_cases hi1:i<lo
 ·obtain ⟨u,u1,u2,u3,u4⟩:=src i qn
  refine⟨hi0,u,?_,u2,u3,fun p hp=>?_⟩
  ·have:(l.take lo++l.take mn++l.drop (lo+mn))[i]'(by rw[hlen];exact hi0)=l[i]'qn:=by
    rw[List.getElem_append_left (by simp only[List.length_append,List.length_take];omega),List.getElem_append_left (by simp only[List.length_take];omega),List.getElem_take]
   rw[this]
   exact RdD.keep st.keeps _ _ u1
  ·rw[hset _ qn,if_neg qn,u4 p hp]
 ·by_cases hi2:i<lo+mn
  ·obtain ⟨u,u1,u2,u3,u4⟩:=src (i-lo) qn
   refine⟨hi0,u,?_,u2,u3,fun p hp=>?_⟩
   ·have:(l.take lo++l.take mn++l.drop (lo+mn))[i]'(by rw[hlen];exact hi0)=l[i-lo]'qn:=by
     rw[List.getElem_append_left (by simp only[List.length_append,List.length_take];omega),List.getElem_append_right (by simp only[List.length_take];omega),List.getElem_take]
     congr 1
     simp only[List.length_take];omega
    rw[this]
    exact RdD.keep st.keeps _ _ u1
   ·rw[hset _ qn,if_pos qn,hget _ qn,← u4 p hp]
    congr 1
    omega
  ·obtain ⟨u,u1,u2,u3,u4⟩:=src i qn
   refine⟨hi0,u,?_,u2,u3,fun p hp=>?_⟩
   ·have:(l.take lo++l.take mn++l.drop (lo+mn))[i]'(by rw[hlen];exact hi0)=l[i]'qn:=by
     rw[List.getElem_append_right (by simp only[List.length_append,List.length_take];omega),List.getElem_drop]
     congr 1
     simp only[List.length_append,List.length_take];omega
    rw[this]
    exact RdD.keep st.keeps _ _ u1
   ·rw[hset _ qn,if_neg qn,u4 p hp]
end Go.Sy
namespace Go.Sy.YtmelpejjondedaaGreat
open Go.Proofs
attribute [local irreducible] Go.Sy.G Go.Sy.DR
set_option maxRecDepth 100000
set_option maxHeartbeats 4000000
theorem Zx (m:Nat) (h:m<4294967296):bits .and .u64 (m:Int) 4294967295=(m:Int):=by
 have:=bits_and_u64_nat m 4294967295 qn qz
 rw[show ((4294967295:Nat):Int)=4294967295 from rfl]at this
 rw[this]
 have h2:=Nat.and_two_pow_sub_one_eq_mod m 32
 rw[show 2 ^ 32-1=4294967295 from rfl,show 2 ^ 32=4294967296 from rfl]at h2
 rw[h2,Nat.mod_eq_of_lt h]
theorem Ag8 (m:Nat) (h:m<4294967296):(m:Int).fdiv (2 ^ (min (Int.toNat 32) IntKind.u64.bits))=0:=by
 show (m:Int).fdiv 4294967296=0
 rw[Int.fdiv_eq_ediv_of_nonneg _ qz]
 omega
theorem mul64S (m:Nat) (h:m<4294967296):Sy.Spec Tryz.prog 154 [Az 1,Az m] [] (.tup [Az 0,Az m]) []:=Ab Γ hm 100 F154 Tryz.ntmps154 rfl fun F hF=>by
 have e0:bits .and .u64 1 4294967295=1:=Zx 1 qz
 have e1:(1:Int).fdiv (2 ^ (min (Int.toNat 32) IntKind.u64.bits))=0:=Ag8 1 qz
 have e2:=Zx m h
 have e3:=Ag8 m h
 have w1:IntKind.u64.wrap (1 * (m:Int))=m:=by rw[IntKind.wrap_u64];omega
 have w0:IntKind.u64.wrap (0 * (m:Int))=0:=by rw[IntKind.wrap_u64];omega
 have z0:IntKind.u64.wrap (0+0)=0:=rfl
 have a0:bits .and .u64 0 4294967295=0:=Zx 0 qz
 have s0:(0:Int).fdiv (2 ^ (min (Int.toNat 32) IntKind.u64.bits))=0:=Ag8 0 qz
 conv=>whnf
 rw[e0]
 refine⟨by decide,?_⟩
 rw[e1]
 conv=>whnf
 rw[e2]
 refine⟨by decide,?_⟩
 rw[e3]
 conv=>whnf
 rw[w1,w0]
 refine⟨by decide,?_⟩
 rw[e3]
 conv=>whnf
 rw[z0,a0]
 refine⟨by decide,?_⟩
 rw[s0]
 conv=>whnf
 refine⟨by decide,?_⟩
 conv=>whnf
 refine Ac E (.cons .tmp (.cons .tmp .nil)) ?_ E
 refine congrArg (fun z:Int=>SV.tup [Az 0,Az z]) ?_
 exact w1.symm
theorem mulS (m:Nat) (h:m<4294967296):Sy.Spec Tryz.prog 83 [Az 1,Az m] [] (.tup [Az 0,Az m]) []:=Ab Γ hm 100 F83 Tryz.ntmps83 rfl fun F hF=>by
 ((conv=>whnf);refine aF ?_;refine rg ?_;conv=>whnf)
 refine Ah (mul64S m h) F154 E E E E E ?_
 refine rg ?_;conv=>whnf
 exact Ac E (.cons .tmp (.cons .tmp .nil)) E E
def J6 (m k:Nat):List Bool:=List.replicate k true++List.replicate (m-k) false
theorem Ok (m k:Nat) (h:k≤m):(J6 m k).length=m:=by simp[J6];omega
theorem Aob (m:Nat):J6 m m=List.replicate m true:=by simp[J6]
theorem Ali (m k c:Nat) (h:k≤m) (hc:c=min k (m-k)):(J6 m k).take k++(J6 m k).take c++(J6 m k).drop (k+c)=J6 m (k+c):=by
 have e1:(J6 m k).take k=List.replicate k true:=by
  rw[J6,List.take_append_of_le_length za];simp
 have e2:(J6 m k).take c=List.replicate c true:=by
  rw[J6,List.take_append_of_le_length (by simp;omega)];simp;omega
 have e3:(J6 m k).drop (k+c)=List.replicate (m-(k+c)) false:=by
  rw[J6,List.drop_append,List.drop_eq_nil_of_le za,List.nil_append]
  simp
  omega
 rw[e1,e2,e3,J6,List.replicate_append_replicate]
theorem Ajz (m:Nat) (h:m<2147483648):Sy.Spec Tryz.prog 43 [.sl 1 Ad [true],Aa m] [] (.sl 1 Ad (List.replicate m true)) []:=Ab Γ hm 100 F43 Tryz.ntmps43 rfl fun F hF=>by
 have hw:IntKind.u64.wrap (m:Int)=m:=by rw[IntKind.wrap_u64];omega
 have hw2:IntKind.i64.wrap (m:Int)=m:=by rw[IntKind.wrap_i64];omega
 have q:=mulS m qn
 rw[← hw]at q
 ((conv=>whnf);refine aF ?_;refine rg ?_;conv=>whnf)
 refine Ah q F83 E E E E E ?_
 rw[hw]
 (refine rg ?_;(conv=>whnf);refine aF ?_;refine rg ?_;conv=>whnf)
 refine⟨fun h1=>absurd (of_decide_eq_true h1) qn,fun _=>?_⟩
 refine rg ?_;conv=>whnf
 rw[hw2]
 refine Ai (B1 Γ.toTy (d:=30) (n:=m) Ad false E E E E E E E E qn qn E E E) E E ?_
 refine rg ?_;conv=>whnf
 refine Ai (V1 Γ.toTy (l:=List.replicate m false) (m:=[true]) E E E E E .sl) E E ?_
 have e0:[true].take (List.replicate m false).length++(List.replicate m false).drop [true].length=J6 m (min 1 m):=by
  cases m with
  | zero=>rfl
  | succ m=>simp[J6,Nat.min_eq_left,List.replicate_succ]
 have e1:min [true].length (List.replicate m false).length=min 1 m:=by simp
 rw[e0,e1]
 refine rg ?_;conv=>whnf
 refine Asg (fun k:Nat=>min 1 m≤k∧k≤m) (fun k=>[(7,.osl 30),(8,Aa k)]) (fun k=>[(30,.row 1 Ad (J6 m k))]) (fun k=>m-k) (min 1 m) [] qn ⟨⟨E,E,E,E,Y⟩,⟨.inl E,E,Y⟩,E,E⟩ ?_
 intro k hk
 have hl:=Ok m k hk.2
 refine rg ?_;conv=>whnf
 refine⟨fun h1=>?_,fun h1=>?_⟩
 ·have hlt:k<m:=by have:=of_decide_eq_true h1;rw[hl]at this;omega
  clear h1
  have hk1:1≤k:=by omega
  have hne:J6 m k≠[]:=fun e=>by rw[e]at hl;simp at hl;omega
  refine Akt 30 [7] E hne (fun i hi=>by simp at hi;subst hi;rfl) ?_
  intro b cap hc
  rw[hl]at hc ⊢
  have hcl:¬ cap=k:=by omega
  have hcp:=Ali m k (min k (m-k)) hk.2 rfl
  refine rg ?_;conv=>whnf
  refine Bn (C9 (lo:=k) (hi:=m) Γ.toTy E E E E (.inr ⟨_,_,E,E⟩) (.inl ⟨E,E⟩) qn qn) qy E ?_
  refine rd qy ?_;conv=>whnf
  refine Bn (C9 (lo:=0) (hi:=k) Γ.toTy E E E E (.inl ⟨E,E⟩) (.inr ⟨_,_,E,E⟩) qn qn) qy E ?_
  refine rd qy ?_;conv=>whnf
  refine Bn (Aan Γ.toTy 30 (lo:=k) (k:=k) E E E E (by rw[if_neg hcl,Nat.mul_one]) E (by rw[if_neg qn,Nat.zero_mul]) E hl qn qn) qy E ?_
  refine rd qy ?_;conv=>whnf
  refine⟨by unfold I64;omega,?_⟩
  conv=>whnf
  refine⟨qy,?_⟩
  conv=>whnf
  refine Xp 30 31 [7] m E E (by rw[hcp,Ok m _ qn];exact Nat.le_refl _) (fun i hi=>by simp at hi;subst hi;rfl) ?_
  have hfin:((J6 m k).take k++(J6 m k).take (min k (m-k))++(J6 m k).drop (k+min k (m-k))).take m=J6 m (k+min k (m-k)):=by
   rw[hcp,List.take_of_length_le (by rw[Ok m _ qn];exact Nat.le_refl _)]
  exact Aqo (k+min k (m-k)) [(30,31)] qn qn ⟨⟨E,E,E,E,Y⟩,⟨.inl (congrArg (Ob.row 1 Ad) hfin.symm),E,Y⟩,E,E⟩
 ·have hkm:k=m:=by have:=of_decide_eq_false h1;rw[hl]at this;omega
  subst hkm
  rw[Aob]
  refine rg ?_;conv=>whnf
  refine As 30 E ?_
  exact Ac E (.cons .tmp .nil) E E
def C7 (t:List EntryM):SV:=.sl 3 Am t
def I8 (l:List QueuedM):SV:=.sl 7 Ay l
def T0 (n:Net) (k:Nat) (now inj:Int) (d:Nat→Int):List SV :=
 [.sl 5 Bt n.devices,.sl 7 Bj n.ports,.sl 3 Cu n.links,.sl 6 A1 n.domains,.sl 4 Br n.statics,.sl 4 Ca n.floods,.sl 5 C6 n.vrfs,.sl 5 Du n.irbs,.ptr k 0,.osl 2,.osl 3,.val (.int .i64 now),.val (.int .i64 inj),
 .val (.int .i64 (d 0)),.val (.int .i64 (d 1)),.val (.int .i64 (d 2)),.val (.int .i64 (d 3)),.val (.int .i64 (d 4)),.val (.int .i64 (d 5)),.val (.int .i64 (d 6)),.val (.int .i64 (d 7)),.val (.int .i64 (d 8)),.val (.int .i64 (d 9)),.val (.int .i64 (d 10)),.val (.int .i64 (d 11)),.val (.int .i64 (d 12)),.val (.int .i64 (d 13)),.val (.int .i64 (d 14)),.val (.int .i64 (d 15)),.val (.int .i64 (d 16)),.val (.int .i64 (d 17)),.val (.int .i64 (d 18)),.val (.int .i64 (d 19)),.val (.int .i64 (d 20)),.val (.int .i64 (d 21)),.val (.int .i64 (d 22)),.val (.int .i64 (d 23)),.val (.int .i64 (d 24)),.val (.int .i64 (d 25)),.val (.int .i64 (d 26)),.val (.int .i64 (d 27)),.val (.int .i64 (d 28)),.val (.int .i64 (d 29)),.val (.int .i64 (d 30)),.val (.int .i64 (d 31)),.val (.int .i64 (d 32)),.val (.int .i64 (d 33)),.val (.int .i64 (d 34)),.val (.int .i64 (d 35)),.val (.int .i64 (d 36)),.val (.int .i64 (d 37)),.val (.int .i64 (d 38)),.val (.int .i64 (d 39)),.val (.int .i64 (d 40)),.val (.int .i64 (d 41)),.val (.int .i64 (d 42)),.val (.int .i64 (d 43)),.val (.int .i64 (d 44)),.val (.int .i64 (d 45)),.val (.int .i64 (d 46)),.val (.int .i64 (d 47)),.val (.int .i64 (d 48)),.val (.int .i64 (d 49)),.val (.int .i64 (d 50)),.val (.int .i64 (d 51)),.val (.int .i64 (d 52)),.val (.int .i64 (d 53)),.val (.int .i64 (d 54)),.val (.int .i64 (d 55)),.val (.int .i64 (d 56)),.val (.int .i64 (d 57)),.val (.int .i64 (d 58)),.val (.int .i64 (d 59)),.val (.int .i64 (d 60)),.val (.int .i64 (d 61)),.val (.int .i64 (d 62)),.val (.int .i64 (d 63))]
def onceL (up:List Bool) (done:Int) (fw:List Bool):List SV:=[.sl 1 Ad up,.val (.int .u32 done),.val (.int .i32 0),.val (.int .u32 0),.sl 1 Ad fw]
def Kx (n:Net) (up:List Bool) (d:Bool):List SV:=onceL up (if d then 1 else 0) (if d then H5 n up else [])
def Cw (n:Net) (m:MacM) (d:Bool):Obs:=[(0,.box (T0 n 1 m.now m.injected m.drops)),(1,.box (Kx n m.up d)),(2,.row 1 C7 m.tables),(3,.row 1 I8 m.queues)]
theorem getI_map (f:Nat→SV):∀ (k a n:Nat),k<n→Eg ((List.range' a n).map f) k=some (f (a+k))
 | 0,a,n+1,_=>rfl
 | k+1,a,n+1,h=>by
  show Eg ((List.range' (a+1) n).map f) k=_
  rw[getI_map f k (a+1) n qn]
  congr 2;omega
theorem Ace (f:Nat→SV) (x:SV):∀ (k a n:Nat),((List.range' a n).map f).set k x=(List.range' a n).map (fun i=>if i=a+k then x else f i)
 | _,_,0=>rfl
 | 0,a,n+1=>by
  show x::(List.range' (a+1) n).map f=(if a=a+0 then x else f a)::(List.range' (a+1) n).map _
  rw[if_pos qn]
  congr 1
  apply List.map_congr_left
  intro i hi
  have:=(List.mem_range'_1.1 hi).1
  rw[if_neg qn]
 | k+1,a,n+1=>by
  show f a::((List.range' (a+1) n).map f).set k x=(if a=a+(k+1) then x else f a)::(List.range' (a+1) n).map _
  rw[if_neg qn,Ace f x k (a+1) n]
  congr 1
  apply List.map_congr_left
  intro i _
  rw[show a+1+k=a+(k+1) by omega]
theorem S0 (n:Net) (k:Nat) (now inj:Int) (d:Nat→Int):T0 n k now inj d =
  .sl 5 Bt n.devices::.sl 7 Bj n.ports::.sl 3 Cu n.links::.sl 6 A1 n.domains::.sl 4 Br n.statics::.sl 4 Ca n.floods::.sl 5 C6 n.vrfs::.sl 5 Du n.irbs::.ptr k 0::.osl 2::.osl 3::.val (.int .i64 now)::.val (.int .i64 inj) ::
   (List.range' 0 64).map (fun i=>.val (.int .i64 (d i))):=rfl
theorem An1 (n:Net) (k:Nat) (now inj:Int) (d:Nat→Int) (e:Nat) (he:e<64):Eg (T0 n k now inj d) (13+e)=some (.val (.int .i64 (d e))):=by
 rw[S0,Nat.add_comm]
 show Eg ((List.range' 0 64).map (fun i=>SV.val (.int .i64 (d i)))) e=_
 rw[getI_map _ e 0 64 he,Nat.zero_add]
theorem An0 (n:Net) (k:Nat) (now inj:Int) (d:Nat→Int) (e:Nat) (v:Int):(T0 n k now inj d).set (13+e) (.val (.int .i64 v))=T0 n k now inj (fun i=>if i=e then v else d i):=by
 rw[S0,S0,Nat.add_comm]
 have h:=Ace (fun i=>SV.val (.int .i64 (d i))) (.val (.int .i64 v)) e 0 64
 have h2:(fun i=>if i=0+e then SV.val (.int .i64 v) else SV.val (.int .i64 (d i)))=(fun i=>SV.val (.int .i64 (if i=e then v else d i))):=by
  funext i
  rw[Nat.zero_add]
  split<;>rfl
 rw[h2]at h
 rw[← h]
 rfl
theorem add64 (a:Addr) (x y:Int) (w:World) (hc:w.cell? a=some (.int .i64 x)) (hz:w.frozen? a=false):(callFunc 257 #[.pointer (some a),.int .i64 y]).run Tryz.prog w=.ok (.value (.int .i64 (IntKind.i64.wrap (x+y)))) (w.setCell a (.int .i64 (IntKind.i64.wrap (x+y)))) :=
 run_call_add Tryz.func257 qy qy qy .i64 qy hc hz rfl
theorem Ak9 (n:Net) (k:Nat) (m:MacM) (e:Int):T0 n k m.now m.injected (Bf m e).drops=(T0 n k m.now m.injected m.drops).set (13+e.toNat) (.val (.int .i64 (m.drops e.toNat+1))):=by
 rw[An0]
 congr 1
 funext i
 show (if i=e.toNat then m.drops i+1 else m.drops i)=_
 split
 ·rename_i h;rw[h]
 ·rfl
theorem Aja {x:Int} (h:0≤x∧x≤1000000000000):IntKind.i64.wrap (x+1)=x+1:=by
 rw[IntKind.wrap_i64];omega
theorem Ajn (n:Net) (m:MacM) (d:Bool) (e:Int) (h0:0≤e) (h1:e<64) (hb:IntKind.i64.wrap (m.drops e.toNat+1)=m.drops e.toNat+1) :
  Sy.Spec Tryz.prog 181 [.ptr 0 (13+e.toNat),Aa 1] (Cw n m d) (Aa (m.drops e.toNat+1)) (Cw n (Bf m e) d):=Ab Γ hm 100 F181 Tryz.ntmps181 rfl fun F hF=>by
 have hg:=An1 n 1 m.now m.injected m.drops e.toNat qn
 have hs:=Ak9 n 1 m e
 have hlt:=K4 hg
 conv=>whnf
 refine Ai (Ada add64 E E E E hg hb) E E ?_
 refine rg ?_;conv=>whnf
 exact done E (.cons .tmp .nil) [] (Cw n (Bf m e) d) (fun _ h=>h) E E ⟨Y,⟨.inl (congrArg Ob.box hs),E,.inl E,E,.inl E,E,.inl E,E,Y⟩,E,E⟩
theorem Agg (n:Net) (m:MacM) (d:Bool) (e:Int) (h0:0≤e) (h1:e<64) (hb:0≤m.drops e.toNat∧m.drops e.toNat≤1000000000000) :
  Sy.Spec Tryz.prog 104 [.ptr 0 0,Aa e] (Cw n m d) (.tup []) (Cw n (Bf m e) d):=Ab Γ hm 100 F104 Tryz.ntmps104 rfl fun F hF=>by
 conv=>whnf
 refine⟨h0,by omega,?_⟩
 refine rg ?_;conv=>whnf
 refine Ai (Ak [] E F181 (Ajn n m d e h0 h1 (Aja hb)) (congrArg (fun z=>[SV.ptr 0 z,Aa 1]) (show 13+e.toNat=0+13+e.toNat * 1 by omega)) ⟨E,E,E,E,Y⟩ E ⟨.inl E,.inl E,.inl E,.inl E,Y⟩) E E ?_
 refine rg ?_;conv=>whnf
 exact Bw E .nil [] (Cw n (Bf m e) d) (fun _ h=>h) E E ⟨Y,⟨.inl E,E,.inl E,E,.inl E,E,.inl E,E,Y⟩,E,E⟩
theorem Acc (n:Net) (m:MacM) (d:Bool) (dom:Int) :
  Sy.Spec Tryz.prog 46 [.ptr 0 0,Aa dom] (Cw n m d) (Ad (Al dom m.queues.length)) (Cw n m d):=Ab Γ hm 100 F46 Tryz.ntmps46 rfl fun F hF=>by
 have hres:Al dom m.queues.length=(decide (0≤dom) && decide (dom<m.queues.length)):=rfl
 generalize Al dom m.queues.length=res at *
 ((conv=>whnf);refine aT ?_;refine rg ?_;conv=>whnf)
 refine⟨fun h=>?_,fun h=>?_⟩
 ·refine rg ?_;conv=>whnf
  (skip)
  refine done E (.cons .tmp .nil) [] (Cw n m d) (fun _ h=>h) ?_ E ⟨Y,⟨.inl E,E,.inl E,E,.inl E,E,.inl E,E,Y⟩,E,E⟩
  rw[hres,h]
  rfl
 ·refine rg ?_;conv=>whnf
  (skip)
  refine done E (.cons .tmp .nil) [] (Cw n m d) (fun _ h=>h) ?_ E ⟨Y,⟨.inl E,E,.inl E,E,.inl E,E,.inl E,E,Y⟩,E,E⟩
  rw[hres,h]
  rfl
theorem Xg (a b:Nat) (ha:a<4294967296) (hb:b<4294967296):bits .or .u32 (a:Int) (b:Int)=((a ||| b:Nat):Int):=by
 have hx:a ||| b<2 ^ 32:=Nat.or_lt_two_pow qn qn
 have h1:(BitVec.ofInt 32 (a:Int)).toNat=a:=by
  rw[BitVec.ofInt_natCast,BitVec.toNat_ofNat];exact Nat.mod_eq_of_lt qn
 have h2:(BitVec.ofInt 32 (b:Int)).toNat=b:=by
  rw[BitVec.ofInt_natCast,BitVec.toNat_ofNat];exact Nat.mod_eq_of_lt qn
 show IntKind.u32.wrap ((BitVec.ofInt 32 (a:Int) ||| BitVec.ofInt 32 (b:Int)).toNat:Int)=_
 rw[BitVec.toNat_or,h1,h2,IntKind.wrap_u32]
 omega
theorem Xn (x:UInt8) (k:UInt8):((x.toNat:Int) != (k.toNat:Int))=decide (x≠k):=by
 rw[Bool.eq_iff_iff]
 simp only[bne_iff_ne,decide_eq_true_eq,ne_eq,← UInt8.toNat_inj]
 omega
theorem Uq (b:List UInt8) (k:Nat) (h:k+2≤b.length) (hb:b.length<100000):Sy.Spec Tryz.prog 294 [.sl 1 Aj b,Aa k] [] (Aa (numAt b k 2)) []:=Ab Γ hm 100 F294 Tryz.ntmps294 rfl fun F hF=>by
 have i0:((k:Nat):Int).toNat<b.length:=by simpa using (by omega:k<b.length)
 have i1:((k:Int)+1).toNat<b.length:=by omega
 have e0:b[((k:Nat):Int).toNat]'i0=b[k]'qn:=rfl
 have e1:b[((k:Int)+1).toNat]'i1=b[k+1]'qn:=rfl
 have hp:=E5 (b[k]'qn) (b[k+1]'qn)
 have hn:=Kg h
 rw[← hn]at hp
 conv=>whnf
 refine⟨E,by omega,i0,?_⟩
 rw[e0]
 conv=>whnf
 refine⟨by decide,?_⟩
 conv=>whnf
 refine⟨by unfold I64;omega,?_⟩
 conv=>whnf
 refine⟨E,by omega,i1,?_⟩
 rw[e1]
 conv=>whnf
 refine⟨qy,?_⟩
 rw[hp]
 conv=>whnf
 exact Ac E (.cons .tmp .nil) E E
theorem Anh (x y:Nat) (hx:x<65536) (hy:y<65536):bits .or .u32 (IntKind.u32.wrap ((IntKind.u32.wrap (x:Int)) * 2 ^ min (Int.toNat 16) IntKind.u32.bits)) (IntKind.u32.wrap (y:Int))=((x * 65536+y:Nat):Int):=by
 have e1:IntKind.u32.wrap (x:Int)=(x:Int):=by rw[IntKind.wrap_u32];omega
 have e2:IntKind.u32.wrap (y:Int)=(y:Int):=by rw[IntKind.wrap_u32];omega
 rw[e1,e2]
 have e3:IntKind.u32.wrap ((x:Int) * 2 ^ min (Int.toNat 16) IntKind.u32.bits)=((x * 65536:Nat):Int):=by
  show IntKind.u32.wrap ((x:Int) * 65536)=_
  rw[IntKind.wrap_u32]
  omega
 rw[e3,Xg _ _ qn qn]
 congr 1
 have h:=Nat.two_pow_add_eq_or_of_lt (i:=16) (b:=y) qn x
 rw[Nat.mul_comm x 65536]
 exact h.symm
theorem Akc (b:List UInt8) (k:Nat) (h:k+4≤b.length) (hb:b.length<100000):Sy.Spec Tryz.prog 296 [.sl 1 Aj b,Aa k] [] (B6 (numAt b k 4)) []:=Ab Γ hm 100 F296 Tryz.ntmps296 rfl fun F hF=>by
 have q1:=Uq b k qn hb
 have q2:=Uq b (k+2) qn hb
 rw[show ((k+2:Nat):Int)=(k:Int)+2 by omega]at q2
 have hf:=Anh (numAt b k 2) (numAt b (k+2) 2) (by have:=Hg b k 2;omega) (by have:=Hg b (k+2) 2;omega)
 rw[← numAt4 h]at hf
 conv=>whnf
 refine Ah q1 F294 E E E E E ?_
 refine rg ?_;conv=>whnf
 refine⟨by decide,?_⟩
 conv=>whnf
 refine⟨by unfold I64;omega,?_⟩
 conv=>whnf
 refine Ah q2 F294 E E E E E ?_
 refine rg ?_;conv=>whnf
 rw[hf]
 exact Ac E (.cons .tmp .nil) E E
theorem Ak0 (l:List UInt8) (hl:l.length<100000) (h2:l.length % 2=0):Sy.Spec Tryz.prog 295 [.sl 1 Aj l] [] (Ad (decide (Di (Il l (l.length / 2))=65535))) []:=Ab Γ hm 100 F295 Tryz.ntmps295 rfl fun F hF=>by
 have ha:=Ajv l hl h2
 conv=>whnf
 refine Ah ha F329 E E E E E ?_
 refine rg ?_;conv=>whnf
 refine Ac E (.cons .tmp .nil) (congrArg Ad ?_) E
 rw[Bool.eq_iff_iff]
 simp only[beq_iff_eq,decide_eq_true_eq]
 omega
theorem Ae1 (l:List UInt8) (hl:l.length<100000) (h2:l.length % 2=0):Sy.Spec Tryz.prog 268 [.sl 1 Aj l] [] (Ad (decide (Di (Il l (l.length / 2))=65535))) []:=Ab Γ hm 100 F268 Tryz.ntmps268 rfl fun F hF=>by
 have ha:=Aj0 l hl h2
 conv=>whnf
 refine Ah ha F323 E E E E E ?_
 refine rg ?_;conv=>whnf
 refine Ac E (.cons .tmp .nil) (congrArg Ad ?_) E
 rw[Bool.eq_iff_iff]
 simp only[beq_iff_eq,decide_eq_true_eq]
 omega
abbrev zP:List SV:=[Aa 0,Aa 0,Aa 0,Aa 0,B6 0,B6 0,.sl 1 Aj []]
theorem Aka (b:List UInt8) (hb:b.length<100000):Sy.Spec Tryz.prog 245 [.sl 1 Aj b] [] (.tup [Ja (ipTakeT b).1,Aa (ipTakeT b).2]) []:=Ab Γ hm 100 F245 Tryz.ntmps245 rfl fun F hF=>by
 have hres:=ipTakeT.eq_1 b
 generalize ipTakeT b=res at *
 conv=>whnf
 refine⟨fun h=>?_,fun h=>?_⟩
 ·rw[if_pos (by have:=of_decide_eq_true h;omega)]at hres
  subst hres
  refine rg ?_;conv=>whnf
  refine Av 2 zP E (.cons (.refl _) (.cons (.refl _) (.cons (.refl _) (.cons (.refl _) (.cons (.refl _) (.cons (.refl _) (.cons .nil .nil))))))) ?_
  exact Ac E (.cons (.cell E E E E) (.cons .tmp .nil)) E E
 have h20:20≤b.length:=by have:=of_decide_eq_false h;omega
 rw[if_neg qn]at hres
 clear h
 have i0:(0:Int).toNat<b.length:=by show 0<_;omega
 have i1:(1:Int).toNat<b.length:=by show 1<_;omega
 have i8:(8:Int).toNat<b.length:=by show 8<_;omega
 have i9:(9:Int).toNat<b.length:=by show 9<_;omega
 have e0:b[(0:Int).toNat]'i0=bAt b 0:=(Qe qn).symm
 have q2:=Uq b 2 qn hb
 have q4:=Uq b 4 qn hb
 have q6:=Uq b 6 qn hb
 have q12:=Akc b 12 qn hb
 have q16:=Akc b 16 qn hb
 have hl20:(b.take 20).length=20:=by rw[List.length_take];omega
 have hdiv:(b.take 20).length / 2=10:=by rw[hl20]
 have qs:=Ak0 (b.take 20) qn (by rw[hl20])
 rw[hdiv]at qs
 refine rg ?_;conv=>whnf
 refine⟨E,by decide,i0,?_⟩
 rw[e0]
 conv=>whnf
 refine⟨fun h=>?_,fun h=>?_⟩
 ·rw[if_pos (.inl (by rw[show ((69:Int))=((69:UInt8).toNat:Int) from rfl,Xn]at h;exact of_decide_eq_true h))]at hres
  subst hres
  (refine rg ?_;(conv=>whnf);refine aT ?_;refine rg ?_;conv=>whnf)
  refine Av 2 zP E (.cons (.refl _) (.cons (.refl _) (.cons (.refl _) (.cons (.refl _) (.cons (.refl _) (.cons (.refl _) (.cons .nil .nil))))))) ?_
  exact Ac E (.cons (.cell E E E E) (.cons .tmp .nil)) E E
 have h69:¬ bAt b 0≠69:=by rw[show ((69:Int))=((69:UInt8).toNat:Int) from rfl,Xn]at h;exact of_decide_eq_false h
 clear h
 refine rg ?_;conv=>whnf
 refine Ah q2 F294 E E E E E ?_
 refine rg ?_;conv=>whnf
 refine⟨fun h=>?_,fun h=>?_⟩
 ·rw[if_pos (.inr (by have:=of_decide_eq_true h;omega))]at hres
  subst hres
  refine rg ?_;conv=>whnf
  refine Av 2 zP E (.cons (.refl _) (.cons (.refl _) (.cons (.refl _) (.cons (.refl _) (.cons (.refl _) (.cons (.refl _) (.cons .nil .nil))))))) ?_
  exact Ac E (.cons (.cell E E E E) (.cons .tmp .nil)) E E
 have hs20:20≤numAt b 2 2:=by have:=of_decide_eq_false h;omega
 rw[if_neg (fun h=>h.elim h69 qn)]at hres
 clear h
 refine rg ?_;conv=>whnf
 refine Ah q2 F294 E E E E E ?_
 refine rg ?_;conv=>whnf
 refine⟨fun h=>?_,fun h=>?_⟩
 ·rw[if_pos (by have:=of_decide_eq_true h;omega)]at hres
  subst hres
  refine rg ?_;conv=>whnf
  refine Av 2 zP E (.cons (.refl _) (.cons (.refl _) (.cons (.refl _) (.cons (.refl _) (.cons (.refl _) (.cons (.refl _) (.cons .nil .nil))))))) ?_
  exact Ac E (.cons (.cell E E E E) (.cons .tmp .nil)) E E
 have hsl:numAt b 2 2≤b.length:=by have:=of_decide_eq_false h;omega
 rw[if_neg qn]at hres
 clear h
 refine rg ?_;conv=>whnf
 refine Ah q6 F294 E E E E E ?_
 refine rg ?_;conv=>whnf
 refine⟨fun h=>?_,fun h=>?_⟩
 ·rw[if_pos (by have:(numAt b 6 2:Int)≠0:=(by simpa using h);omega)]at hres
  subst hres
  refine rg ?_;conv=>whnf
  refine Av 2 zP E (.cons (.refl _) (.cons (.refl _) (.cons (.refl _) (.cons (.refl _) (.cons (.refl _) (.cons (.refl _) (.cons .nil .nil))))))) ?_
  exact Ac E (.cons (.cell E E E E) (.cons .tmp .nil)) E E
 rw[if_neg (by have:(numAt b 6 2:Int)=0:=(by simpa using h);omega)]at hres
 clear h
 refine rg ?_;conv=>whnf
 refine Ai (Bc (lo:=0) (hi:=20) Γ.toTy E E E E (.inl ⟨E,E⟩) (.inr ⟨_,_,E,E⟩) qn h20) E E ?_
 refine rg ?_;conv=>whnf
 refine Ah qs F295 E E E E E ?_
 by_cases hsum:Di (Il (b.take 20) 10)=65535
 rotate_left
 ·rw[if_pos hsum]at hres
  subst hres
  rw[decide_eq_false hsum]
  (refine rg ?_;(conv=>whnf);refine aT ?_;refine rg ?_;conv=>whnf)
  refine Av 2 zP E (.cons (.refl _) (.cons (.refl _) (.cons (.refl _) (.cons (.refl _) (.cons (.refl _) (.cons (.refl _) (.cons .nil .nil))))))) ?_
  exact Ac E (.cons (.cell E E E E) (.cons .tmp .nil)) E E
 rw[if_neg (fun h=>h hsum)]at hres
 subst hres
 rw[decide_eq_true hsum]
 have qc:=Ix ((b.take (numAt b 2 2)).drop 20) (by rw[List.length_drop,List.length_take];omega)
 have w1:IntKind.i64.wrap ((b[(1:Int).toNat]'i1).toNat:Int)=((bAt b 1).toNat:Int):=by
  rw[Qe (show 1<b.length by omega)]
  have:=(b[1]'qn).toNat_lt
  show IntKind.i64.wrap ((b[1]'qn).toNat:Int)=_
  rw[IntKind.wrap_i64];omega
 have w8:IntKind.i64.wrap ((b[(8:Int).toNat]'i8).toNat:Int)=((bAt b 8).toNat:Int):=by
  rw[Qe (show 8<b.length by omega)]
  have:=(b[8]'qn).toNat_lt
  show IntKind.i64.wrap ((b[8]'qn).toNat:Int)=_
  rw[IntKind.wrap_i64];omega
 have w9:IntKind.i64.wrap ((b[(9:Int).toNat]'i9).toNat:Int)=((bAt b 9).toNat:Int):=by
  rw[Qe (show 9<b.length by omega)]
  have:=(b[9]'qn).toNat_lt
  show IntKind.i64.wrap ((b[9]'qn).toNat:Int)=_
  rw[IntKind.wrap_i64];omega
 (refine rg ?_;(conv=>whnf);refine aF ?_;refine rg ?_;conv=>whnf)
 refine⟨E,by decide,i1,?_⟩
 conv=>whnf
 refine Au q4 F294 E E E qy E ?_
 refine rd qy ?_;conv=>whnf
 refine⟨E,by decide,i8,?_⟩
 conv=>whnf
 refine⟨E,by decide,i9,?_⟩
 conv=>whnf
 refine Au q12 F296 E E E qy E ?_
 refine rd qy ?_;conv=>whnf
 refine Au q16 F296 E E E qy E ?_
 refine rd qy ?_;conv=>whnf
 refine Au q2 F294 E E E qy E ?_
 refine rd qy ?_;conv=>whnf
 refine Bn (Bc (lo:=20) (hi:=numAt b 2 2) Γ.toTy E E E E (.inr ⟨_,_,E,E⟩) (.inr ⟨_,_,E,E⟩) hs20 hsl) qy E ?_
 refine rd qy ?_;conv=>whnf
 refine Au qc F63 E E E qy E ?_
 refine rd qy ?_;conv=>whnf
 refine⟨qy,?_⟩
 conv=>whnf
 refine Ac E (.cons (.cell E E E E) (.cons .tmp .nil)) ?_ E
 show SV.tup [.agg [Aa (bAt b 1).toNat,_,Aa (bAt b 8).toNat,Aa (bAt b 9).toNat,_,_,_],_]=SV.tup [.agg [Aa (IntKind.i64.wrap ((b[(1:Int).toNat]'i1).toNat:Int)),_,Aa (IntKind.i64.wrap ((b[(8:Int).toNat]'i8).toNat:Int)),Aa (IntKind.i64.wrap ((b[(9:Int).toNat]'i9).toNat:Int)),_,_,_],_]
 rw[w1,w8,w9]
 rfl
theorem Aco (l:List UInt8) (h:l.length≤6):Sy.Spec Tryz.prog 267 [.sl 1 Aj l] [] (Aa (E8 l)) []:=Ab Γ hm 100 F267 Tryz.ntmps267 rfl fun F hF=>by
 conv=>whnf
 refine At l.length (fun j=>[(0,.sl 1 Aj l),(3,Aa (E8 (l.take j))),(4,Aa j)]) (fun _=>[]) [] ⟨⟨E,E,E,E,E,E,Y⟩,Y,E,E⟩ ?_
 intro j hj
 have hlt2:=Jp _ (l.take j) rfl
 refine rg ?_;conv=>whnf
 refine⟨fun h2=>?_,fun h2=>?_⟩
 ·have hlt:j<l.length:=by have:=of_decide_eq_true h2;omega
  have hj0:((j:Nat):Int).toNat<l.length:=by simpa using hlt
  have hs:=Vi l hlt
  have hll:(l.take j).length=j:=by rw[List.length_take];omega
  rw[hll]at hlt2
  have h5:E8 (l.take j)<1099511627776:=Nat.lt_of_lt_of_le hlt2 (by
   have:(256:Nat) ^ j≤256 ^ 5:=Nat.pow_le_pow_right qz qn
   exact this)
  obtain ⟨c,hc⟩:∃ c,l[((j:Nat):Int).toNat]'hj0=c:=⟨_,rfl⟩
  have hc':l[j]=c:=hc
  rw[hc']at hs
  have hcn:=c.toNat_lt
  generalize E8 (l.take j)=m at *
  have w0:IntKind.i64.wrap (c.toNat:Int)=c.toNat:=by rw[IntKind.wrap_i64];omega
  refine rg ?_;conv=>whnf
  refine⟨by unfold I64;omega,?_⟩
  conv=>whnf
  refine⟨E,by omega,hj0,?_⟩
  rw[hc]
  conv=>whnf
  rw[w0]
  refine⟨by unfold I64;omega,?_⟩
  conv=>whnf
  refine⟨by unfold I64;omega,?_⟩
  conv=>whnf
  refine Aq [] hlt ⟨⟨E,E,congrArg (fun z:Int=>SV.val (.int .i64 z)) ?_,E,E,E,Y⟩,Y,E,E⟩
  rw[hs]
  omega
 ·have hje:j=l.length:=by have:=of_decide_eq_false h2;omega
  subst hje
  rw[List.take_length]
  refine rg ?_;conv=>whnf
  exact Ac E (.cons .tmp .nil) E E
theorem J7 (b:List UInt8) (k m:Nat) (hm:m≤6):Sy.Spec Tryz.prog 267 [.sl 1 Aj ((b.take (k+m)).drop k)] [] (Aa (numAt b k m)) []:=by
 have e:(b.take (k+m)).drop k=(b.drop k).take m:=by rw[List.drop_take];congr 1;omega
 rw[e]
 exact Aco _ (by rw[List.length_take];omega)
theorem Yf (b:List UInt8) (hb:b.length<100000):Sy.Spec Tryz.prog 214 [.sl 1 Aj b] [] (.tup [Ja (ipTakeT b).1,Aa (ipTakeT b).2]) []:=Ab Γ hm 100 F214 Tryz.ntmps214 rfl fun F hF=>by
 have hres:=ipTakeT.eq_1 b
 generalize ipTakeT b=res at *
 conv=>whnf
 refine⟨fun h=>?_,fun h=>?_⟩
 ·rw[if_pos (by have:=of_decide_eq_true h;omega)]at hres
  subst hres
  refine rg ?_;conv=>whnf
  refine Av 2 zP E (.cons (.refl _) (.cons (.refl _) (.cons (.refl _) (.cons (.refl _) (.cons (.refl _) (.cons (.refl _) (.cons .nil .nil))))))) ?_
  exact Ac E (.cons (.cell E E E E) (.cons .tmp .nil)) E E
 have h20:20≤b.length:=by have:=of_decide_eq_false h;omega
 rw[if_neg qn]at hres
 clear h
 have i0:(0:Int).toNat<b.length:=by show 0<_;omega
 have i1:(1:Int).toNat<b.length:=by show 1<_;omega
 have i8:(8:Int).toNat<b.length:=by show 8<_;omega
 have i9:(9:Int).toNat<b.length:=by show 9<_;omega
 have e0:b[(0:Int).toNat]'i0=bAt b 0:=(Qe qn).symm
 have q2:=J7 b 2 2 qz
 have q4:=J7 b 4 2 qz
 have q6:=J7 b 6 2 qz
 have q12:=J7 b 12 4 qz
 have q16:=J7 b 16 4 qz
 have hl20:(b.take 20).length=20:=by rw[List.length_take];omega
 have hdiv:(b.take 20).length / 2=10:=by rw[hl20]
 have qs:=Ae1 (b.take 20) qn (by rw[hl20])
 rw[hdiv]at qs
 refine rg ?_;conv=>whnf
 refine Ai (Bc (lo:=2) (hi:=4) Γ.toTy E E E E (.inr ⟨_,_,E,E⟩) (.inr ⟨_,_,E,E⟩) qn qn) E E ?_
 refine rg ?_;conv=>whnf
 refine Ah q2 F267 E E E E E ?_
 refine rg ?_;conv=>whnf
 refine⟨E,by decide,i0,?_⟩
 rw[e0]
 conv=>whnf
 refine⟨fun h=>?_,fun h=>?_⟩
 ·rw[if_pos (.inl (by rw[show ((69:Int))=((69:UInt8).toNat:Int) from rfl,Xn]at h;exact of_decide_eq_true h))]at hres
  subst hres
  (refine rg ?_;(conv=>whnf);refine aT ?_;refine rg ?_;conv=>whnf)
  refine Av 2 zP E (.cons (.refl _) (.cons (.refl _) (.cons (.refl _) (.cons (.refl _) (.cons (.refl _) (.cons (.refl _) (.cons .nil .nil))))))) ?_
  exact Ac E (.cons (.cell E E E E) (.cons .tmp .nil)) E E
 have h69:¬ bAt b 0≠69:=by rw[show ((69:Int))=((69:UInt8).toNat:Int) from rfl,Xn]at h;exact of_decide_eq_false h
 clear h
 refine rg ?_;conv=>whnf
 refine⟨fun h=>?_,fun h=>?_⟩
 ·rw[if_pos (.inr (by have:=of_decide_eq_true h;omega))]at hres
  subst hres
  refine rg ?_;conv=>whnf
  refine Av 2 zP E (.cons (.refl _) (.cons (.refl _) (.cons (.refl _) (.cons (.refl _) (.cons (.refl _) (.cons (.refl _) (.cons .nil .nil))))))) ?_
  exact Ac E (.cons (.cell E E E E) (.cons .tmp .nil)) E E
 have hs20:20≤numAt b 2 2:=by have:=of_decide_eq_false h;omega
 rw[if_neg (fun h=>h.elim h69 qn)]at hres
 clear h
 refine rg ?_;conv=>whnf
 refine⟨fun h=>?_,fun h=>?_⟩
 ·rw[if_pos (by have:=of_decide_eq_true h;omega)]at hres
  subst hres
  refine rg ?_;conv=>whnf
  refine Av 2 zP E (.cons (.refl _) (.cons (.refl _) (.cons (.refl _) (.cons (.refl _) (.cons (.refl _) (.cons (.refl _) (.cons .nil .nil))))))) ?_
  exact Ac E (.cons (.cell E E E E) (.cons .tmp .nil)) E E
 have hsl:numAt b 2 2≤b.length:=by have:=of_decide_eq_false h;omega
 rw[if_neg qn]at hres
 clear h
 refine rg ?_;conv=>whnf
 refine Ai (Bc (lo:=6) (hi:=8) Γ.toTy E E E E (.inr ⟨_,_,E,E⟩) (.inr ⟨_,_,E,E⟩) qn qn) E E ?_
 refine rg ?_;conv=>whnf
 refine Ah q6 F267 E E E E E ?_
 refine rg ?_;conv=>whnf
 refine⟨fun h=>?_,fun h=>?_⟩
 ·rw[if_pos (by have:(numAt b 6 2:Int)≠0:=(by simpa using h);omega)]at hres
  subst hres
  refine rg ?_;conv=>whnf
  refine Av 2 zP E (.cons (.refl _) (.cons (.refl _) (.cons (.refl _) (.cons (.refl _) (.cons (.refl _) (.cons (.refl _) (.cons .nil .nil))))))) ?_
  exact Ac E (.cons (.cell E E E E) (.cons .tmp .nil)) E E
 rw[if_neg (by have:(numAt b 6 2:Int)=0:=(by simpa using h);omega)]at hres
 clear h
 refine rg ?_;conv=>whnf
 refine Ai (Bc (lo:=0) (hi:=20) Γ.toTy E E E E (.inl ⟨E,E⟩) (.inr ⟨_,_,E,E⟩) qn h20) E E ?_
 refine rg ?_;conv=>whnf
 refine Ah qs F268 E E E E E ?_
 by_cases hsum:Di (Il (b.take 20) 10)=65535
 rotate_left
 ·rw[if_pos hsum]at hres
  subst hres
  rw[decide_eq_false hsum]
  (refine rg ?_;(conv=>whnf);refine aT ?_;refine rg ?_;conv=>whnf)
  refine Av 2 zP E (.cons (.refl _) (.cons (.refl _) (.cons (.refl _) (.cons (.refl _) (.cons (.refl _) (.cons (.refl _) (.cons .nil .nil))))))) ?_
  exact Ac E (.cons (.cell E E E E) (.cons .tmp .nil)) E E
 rw[if_neg (fun h=>h hsum)]at hres
 subst hres
 rw[decide_eq_true hsum]
 have w1:IntKind.i64.wrap ((b[(1:Int).toNat]'i1).toNat:Int)=((bAt b 1).toNat:Int):=by
  rw[Qe (show 1<b.length by omega)]
  have:=(b[1]'qn).toNat_lt
  show IntKind.i64.wrap ((b[1]'qn).toNat:Int)=_
  rw[IntKind.wrap_i64];omega
 have w8:IntKind.i64.wrap ((b[(8:Int).toNat]'i8).toNat:Int)=((bAt b 8).toNat:Int):=by
  rw[Qe (show 8<b.length by omega)]
  have:=(b[8]'qn).toNat_lt
  show IntKind.i64.wrap ((b[8]'qn).toNat:Int)=_
  rw[IntKind.wrap_i64];omega
 have w9:IntKind.i64.wrap ((b[(9:Int).toNat]'i9).toNat:Int)=((bAt b 9).toNat:Int):=by
  rw[Qe (show 9<b.length by omega)]
  have:=(b[9]'qn).toNat_lt
  show IntKind.i64.wrap ((b[9]'qn).toNat:Int)=_
  rw[IntKind.wrap_i64];omega
 have u12:IntKind.u32.wrap (numAt b 12 4:Int)=(numAt b 12 4:Int):=by have:=Hg b 12 4;rw[IntKind.wrap_u32];omega
 have u16:IntKind.u32.wrap (numAt b 16 4:Int)=(numAt b 16 4:Int):=by have:=Hg b 16 4;rw[IntKind.wrap_u32];omega
 (refine rg ?_;(conv=>whnf);refine aF ?_;refine rg ?_;conv=>whnf)
 refine⟨E,by decide,i1,?_⟩
 conv=>whnf
 refine Bn (Bc (lo:=4) (hi:=6) Γ.toTy E E E E (.inr ⟨_,_,E,E⟩) (.inr ⟨_,_,E,E⟩) qn qn) qy E ?_
 refine rd qy ?_;conv=>whnf
 refine Au q4 F267 E E E qy E ?_
 refine rd qy ?_;conv=>whnf
 refine⟨E,by decide,i8,?_⟩
 conv=>whnf
 refine⟨E,by decide,i9,?_⟩
 conv=>whnf
 refine⟨qy,?_⟩
 rw[w1,w8,w9]
 conv=>whnf
 refine Ai (Bc (lo:=12) (hi:=16) Γ.toTy E E E E (.inr ⟨_,_,E,E⟩) (.inr ⟨_,_,E,E⟩) qn qn) E E ?_
 refine rg ?_;conv=>whnf
 refine Ah q12 F267 E E E E E ?_
 refine rg ?_;conv=>whnf
 rw[u12]
 refine Ai (Bc (lo:=16) (hi:=20) Γ.toTy E E E E (.inr ⟨_,_,E,E⟩) (.inr ⟨_,_,E,E⟩) qn qn) E E ?_
 refine rg ?_;conv=>whnf
 refine Ah q16 F267 E E E E E ?_
 refine rg ?_;conv=>whnf
 rw[u16]
 refine Ai (Bc (lo:=20) (hi:=numAt b 2 2) Γ.toTy E E E E (.inr ⟨_,_,E,E⟩) (.inr ⟨_,_,E,E⟩) hs20 hsl) E E ?_
 refine rg ?_;conv=>whnf
 refine Ai (Ae Γ.toTy 67 E E E E E (.lit (e:=Aj) (l:=[]) E E) .sl za (by simp;omega) (by simp;omega)) E E ?_
 refine As 67 E ?_
 refine rg ?_;conv=>whnf
 exact Ac E (.cons (.cell E E E E) (.cons .tmp .nil)) E E
theorem Aop (t:Nat) (h:t≤255):bits .or .i64 17664 (t:Int)=((17664+t:Nat):Int):=by
 have h1:=Do 17664 t qz qn
 rw[show ((17664:Nat):Int)=17664 from rfl]at h1
 rw[h1]
 congr 1
 have h2:=Nat.two_pow_add_eq_or_of_lt (i:=8) (b:=t) qn 69
 rw[show 2 ^ 8 * 69=17664 from rfl]at h2
 rw[← h2]
theorem Arg (x y:Nat) (hx:x≤255) (hy:y≤255):bits .or .i64 (IntKind.i64.wrap ((x:Int) * 2 ^ min (Int.toNat 8) IntKind.i64.bits)) (y:Int)=((x * 256+y:Nat):Int):=by
 have h3:IntKind.i64.wrap ((x:Int) * 2 ^ min (Int.toNat 8) IntKind.i64.bits)=((x * 256:Nat):Int):=by
  show IntKind.i64.wrap ((x:Int) * 256)=_
  rw[IntKind.wrap_i64]
  omega
 rw[h3,Do _ _ qn qn]
 congr 1
 have h:=Nat.two_pow_add_eq_or_of_lt (i:=8) (b:=y) qn x
 rw[Nat.mul_comm x 256]
 exact h.symm
theorem Af0 (x:Nat) (h:x<4294967296):IntKind.i64.wrap ((x:Int).fdiv (2 ^ (min (Int.toNat 16) IntKind.u32.bits)))=((x / 65536:Nat):Int):=by
 show IntKind.i64.wrap ((x:Int).fdiv 65536)=_
 rw[Int.fdiv_eq_ediv_of_nonneg _ qz,IntKind.wrap_i64]
 omega
theorem Xj (x:Nat) (h:x<4294967296):IntKind.i64.wrap (x:Int)=(x:Int):=by rw[IntKind.wrap_i64];omega
theorem Akb (p:PacketM) (hp:PacketOK p) (hb:p.body.length<100000):Sy.Spec Tryz.prog 248 [Ja p] [] (.tup [.sl 1 Aj (ipPutT p).1,Aa (ipPutT p).2]) []:=Ab Γ hm 100 F248 Tryz.ntmps248 rfl fun F hF=>by
 have hres:=ipPutT.eq_1 p
 generalize ipPutT p=res at *
 have h1:=hp.tos
 have h2:=hp.id
 have h3:=hp.ttl
 have h4:=hp.proto
 have h5:=hp.src
 have h6:=hp.dst
 conv=>whnf
 refine Ex ⟨⟨_,_,F303⟩,Acb p.tos 255 qn⟩ E E E E E E ?_
 (refine rg ?_;(conv=>whnf);refine aF ?_;refine rg ?_;conv=>whnf)
 refine Ex ⟨⟨_,_,F303⟩,Acb p.ttl 255 qn⟩ E E E E E E ?_
 (refine rg ?_;(conv=>whnf);refine aF ?_;refine rg ?_;conv=>whnf)
 refine Ex ⟨⟨_,_,F303⟩,Acb p.proto 255 qn⟩ E E E E E E ?_
 (refine rg ?_;(conv=>whnf);refine aF ?_;refine rg ?_;conv=>whnf)
 refine Ex ⟨⟨_,_,F303⟩,Acb p.id 65535 qn⟩ E E E E E E ?_
 (refine rg ?_;(conv=>whnf);refine aF ?_;refine rg ?_;conv=>whnf)
 refine⟨fun h=>?_,fun h=>?_⟩
 ·rw[if_pos (by have:=of_decide_eq_true h;omega)]at hres
  subst hres
  refine rg ?_;conv=>whnf
  refine An 2 1 Aj E ?_
  exact Ac E (.cons .tmp (.cons .tmp .nil)) E E
 have hl:p.body.length≤1480:=by have:=of_decide_eq_false h;omega
 rw[if_neg qn]at hres
 subst hres
 clear h
 have hsz:Ur p=((Ht p 0).set 10 (UInt8.ofNat (Ly p / 256))).set 11 (UInt8.ofNat (Ly p))++p.body:=by rw[Aiw,Ur]
 rw[hsz]
 have hil:=Lf p 0
 have hs:=sumOfS (Ht p 0) (by rw[hil];decide) (by rw[hil])
 have hput:=Apf [17664+p.tos,20+p.body.length,p.id,0,p.ttl * 256+p.proto,0,p.src / 65536,p.src,p.dst / 65536,p.dst] za
 rw[show Ke [17664+p.tos,20+p.body.length,p.id,0,p.ttl * 256+p.proto,0,p.src / 65536,p.src,p.dst / 65536,p.dst]=Ht p 0 from rfl]at hput
 have hss:Tw (Ht p 0)=Ly p:=rfl
 rw[hss]at hs
 have hsl:Ly p≤65535:=Nat.sub_le _ _
 generalize Ly p=s at *
 have htb:=Ez s
 have o1:=Aop p.tos h1
 have o2:=Arg p.ttl p.proto h3 h4
 have g1:=Af0 p.src h5
 have g2:=Xj p.src h5
 have g3:=Af0 p.dst h6
 have g4:=Xj p.dst h6
 generalize Ht p 0=b at *
 refine rg ?_;conv=>whnf
 refine⟨by unfold I64;omega,?_⟩
 conv=>whnf
 refine⟨by decide,?_⟩
 conv=>whnf
 refine⟨by decide,?_⟩
 conv=>whnf
 refine⟨by decide,?_⟩
 conv=>whnf
 refine Agv 68 (e:=Ao1) (l:=[17664+p.tos,20+p.body.length,p.id,0,p.ttl * 256+p.proto,0,p.src / 65536,p.src,p.dst / 65536,p.dst]) E ?_ ?_
 ·show _=[SV.val (.int .i64 (bits .or .i64 17664 (p.tos:Int))),SV.val _,SV.val _,SV.val _,SV.val (.int .i64 (bits .or .i64 (IntKind.i64.wrap ((p.ttl:Int) * 2 ^ min (Int.toNat 8) IntKind.i64.bits)) (p.proto:Int))),SV.val _,
   SV.val (.int .i64 (IntKind.i64.wrap ((p.src:Int).fdiv (2 ^ (min (Int.toNat 16) IntKind.u32.bits))))),SV.val (.int .i64 (IntKind.i64.wrap (p.src:Int))),SV.val (.int .i64 (IntKind.i64.wrap ((p.dst:Int).fdiv (2 ^ (min (Int.toNat 16) IntKind.u32.bits))))),SV.val (.int .i64 (IntKind.i64.wrap (p.dst:Int)))]
  rw[o1,o2,g1,g2,g3,g4]
  rfl
 refine As 68 E ?_
 refine Ai (Ak [(0,69)] E F304 hput E Y E ⟨.inr E,Y⟩) E E ?_
 refine rg ?_;conv=>whnf
 refine Zu [69] hs F305 E (.cons (.row E E) .nil) E E E ?_
 refine rg ?_;conv=>whnf
 have hb1:=(List.cons.inj htb).1
 have hb2:=(List.cons.inj (List.cons.inj htb).2).1
 refine⟨by omega,?_⟩
 conv=>whnf
 refine⟨by decide,by rw[hil];decide,?_⟩
 conv=>whnf
 refine⟨E,by rw[hil];decide,UInt8.ofNat (s / 256),congrArg (fun z=>[z]) hb1,E,?_⟩
 conv=>whnf
 refine⟨by decide,by simp[hil],?_⟩
 conv=>whnf
 refine⟨E,by simp[hil],UInt8.ofNat s,congrArg (fun z=>[z]) hb2,E,?_⟩
 conv=>whnf
 refine Ai (Ae Γ.toTy 84 E E E E E (.row E) .sl qz (by simp[hil];omega) (by simp[hil];omega)) E E ?_
 refine As 84 E ?_
 refine rg ?_;conv=>whnf
 exact Ac E (.cons .tmp (.cons .tmp .nil)) E E
theorem Xv (n:Nat):IntKind.u8.wrap (n:Int)=((UInt8.ofNat n).toNat:Int):=Asn n
theorem Aa2 (p:PacketM) (hp:PacketOK p) (hb:p.body.length<100000):Sy.Spec Tryz.prog 217 [Ja p] [] (.tup [.sl 1 Aj (ipPutT p).1,Aa (ipPutT p).2]) []:=Ab Γ hm 100 F217 Tryz.ntmps217 rfl fun F hF=>by
 have hres:=ipPutT.eq_1 p
 generalize ipPutT p=res at *
 have h1:=hp.tos
 have h2:=hp.id
 have h3:=hp.ttl
 have h4:=hp.proto
 have h5:=hp.src
 have h6:=hp.dst
 conv=>whnf
 refine Ah (Are p.tos 255 qn) F273 E E E E E ?_
 (refine rg ?_;(conv=>whnf);refine aF ?_;refine rg ?_;conv=>whnf)
 refine Ah (Are p.ttl 255 qn) F273 E E E E E ?_
 (refine rg ?_;(conv=>whnf);refine aF ?_;refine rg ?_;conv=>whnf)
 refine Ah (Are p.proto 255 qn) F273 E E E E E ?_
 (refine rg ?_;(conv=>whnf);refine aF ?_;refine rg ?_;conv=>whnf)
 refine Ah (Are p.id 65535 qn) F273 E E E E E ?_
 (refine rg ?_;(conv=>whnf);refine aF ?_;refine rg ?_;conv=>whnf)
 refine⟨fun h=>?_,fun h=>?_⟩
 ·rw[if_pos (by have:=of_decide_eq_true h;omega)]at hres
  subst hres
  refine rg ?_;conv=>whnf
  refine An 2 1 Aj E ?_
  exact Ac E (.cons .tmp (.cons .tmp .nil)) E E
 have hl:p.body.length≤1480:=by have:=of_decide_eq_false h;omega
 rw[if_neg qn]at hres
 subst hres
 clear h
 have hall:=Afx hp
 have hsum:=Afw hp hl
 have h2l:=Oy p
 have hs:=Alj (Qx p) (by rw[h2l];decide) (by rw[h2l])
 rw[hsum]at hs
 have hsl:Ly p≤65535:=Nat.sub_le _ _
 have hby:Ur p=[69,UInt8.ofNat p.tos]++be 2 (20+p.body.length)++be 2 p.id++[0,0,UInt8.ofNat p.ttl,UInt8.ofNat p.proto]++be 2 (Ly p)++(be 4 p.src++be 4 p.dst)++p.body:=by rw[hall,Ur]
 rw[hby]
 clear hby hall
 generalize Ly p=s at *
 have g2:=Xj p.src h5
 have g4:=Xj p.dst h6
 have b2:=Lr p.src 4 qn qz
 have b4:=Lr p.dst 4 qn qz
 rw[← g2]at b2
 rw[← g4]at b4
 have hu1:=Xv p.tos
 have hu3:=Xv p.ttl
 have hu4:=Xv p.proto
 have hm1:[69,UInt8.ofNat p.tos].map Aj=[SV.val (.int .u8 69),SV.val (.int .u8 (IntKind.u8.wrap (p.tos:Int)))]:=by rw[hu1];rfl
 have hm2:[0,0,UInt8.ofNat p.ttl,UInt8.ofNat p.proto].map Aj=[SV.val (.int .u8 0),SV.val (.int .u8 0),SV.val (.int .u8 (IntKind.u8.wrap (p.ttl:Int))),SV.val (.int .u8 (IntKind.u8.wrap (p.proto:Int)))]:=by rw[hu3,hu4];rfl
 refine rg ?_;conv=>whnf
 refine⟨by unfold I64;omega,?_⟩
 conv=>whnf
 refine Ai (Ak [(0,39)] E F274 (Lr (20+p.body.length) 2 qn qz) E Y E ⟨.inr E,Y⟩) E E ?_
 refine rg ?_;conv=>whnf
 refine Ai (Ae Γ.toTy 40 E E E E E (.lit (e:=Aj) (l:=[69,UInt8.ofNat p.tos]) E hm1) (.row E) qz (by simp[A4]) (by simp[A4])) E E ?_
 refine rg ?_;conv=>whnf
 refine Ai (Ak [(0,44)] E F274 (Lr p.id 2 qn qz) E Y E ⟨.inr E,Y⟩) E E ?_
 refine rg ?_;conv=>whnf
 refine Ai (Ae Γ.toTy 45 E E E E E (.row E) (.row E) qz (by simp[A4]) (by simp[A4])) E E ?_
 refine rg ?_;conv=>whnf
 refine Ai (Ae Γ.toTy 54 E E E E E (.row E) (.lit (e:=Aj) (l:=[0,0,UInt8.ofNat p.ttl,UInt8.ofNat p.proto]) E hm2) qz (by simp[A4]) (by simp[A4])) E E ?_
 refine rg ?_;conv=>whnf
 refine Bn (Ak [(0,58)] E F274 b2 E Y E ⟨.inr E,Y⟩) qy E ?_
 refine rd qy ?_;conv=>whnf
 refine Bn (Ak [(0,62)] E F274 b4 E Y E ⟨.inr E,Y⟩) qy E ?_
 refine rd qy ?_;conv=>whnf
 refine Bn (Ae Γ.toTy 63 E E E E E (.row E) (.row E) qz (by simp[A4]) (by simp[A4])) qy E ?_
 refine rd qy ?_;conv=>whnf
 refine⟨qy,?_⟩
 conv=>whnf
 refine Ai (Ae Γ.toTy 66 E E E E E (.lit (e:=Aj) (l:=[]) E E) (.row E) qz (by simp[A4]) (by simp[A4])) E E ?_
 refine rg ?_;conv=>whnf
 refine Ai (Ae Γ.toTy 68 E E E E E (.row E) (.row E) qz (by simp[A4]) (by simp[A4])) E E ?_
 refine rg ?_;conv=>whnf
 refine Zu [68] hs F275 E (.cons (.row ?_ E) .nil) E E E ?_
 ·rfl
 refine rg ?_;conv=>whnf
 refine Ai (Ak [(0,72)] E F274 (Lr s 2 qn qz) E Y E ⟨.inr E,Y⟩) E E ?_
 refine rg ?_;conv=>whnf
 refine Ai (Ae Γ.toTy 73 E E E E E (.row E) (.row E) qz (by simp[A4]) (by simp[A4])) E E ?_
 refine rg ?_;conv=>whnf
 refine Ai (Ae Γ.toTy 75 E E E E E (.row E) (.row E) qz (by simp[A4]) (by simp[A4])) E E ?_
 refine rg ?_;conv=>whnf
 refine Ai (Ae Γ.toTy 79 E E E E E (.row E) .sl qz (by simp[A4];omega) (by simp[A4];omega)) E E ?_
 refine As 79 E ?_
 refine rg ?_;conv=>whnf
 exact Ac E (.cons .tmp (.cons .tmp .nil)) E E
def hop1 (p:PacketM):PacketM × Int:=if p.ttl≤1 then (noP,13) else (Afz p,0)
theorem ipHopS (p:PacketM) (hb:p.body.length<100000) (ht:p.ttl≤255):Sy.Spec Tryz.prog 246 [Ja p] [] (.tup [Ja (hop1 p).1,Aa (hop1 p).2]) []:=Ab Γ hm 100 F246 Tryz.ntmps246 rfl fun F hF=>by
 have hres:=hop1.eq_1 p
 generalize hop1 p=res at *
 have qc:=Ix p.body qn
 conv=>whnf
 refine⟨fun h=>?_,fun h=>?_⟩
 ·rw[if_pos (by have:=of_decide_eq_true h;omega)]at hres
  subst hres
  refine rg ?_;conv=>whnf
  refine Av 2 zP E (.cons (.refl _) (.cons (.refl _) (.cons (.refl _) (.cons (.refl _) (.cons (.refl _) (.cons (.refl _) (.cons .nil .nil))))))) ?_
  exact Ac E (.cons (.cell E E E E) (.cons .tmp .nil)) E E
 have h2:¬ p.ttl≤1:=by have:=of_decide_eq_false h;omega
 rw[if_neg h2]at hres
 subst hres
 have e:((p.ttl-1:Nat):Int)=(p.ttl:Int)-1:=by omega
 refine rg ?_;conv=>whnf
 refine⟨by unfold I64;omega,?_⟩
 conv=>whnf
 refine Ah qc F63 E E E E E ?_
 refine rg ?_;conv=>whnf
 refine Ac E (.cons (.cell E E E E) (.cons .tmp .nil)) ?_ E
 show SV.tup [.agg [_,_,Aa ((p.ttl-1:Nat):Int),_,_,_,_],_]=SV.tup [.agg [_,_,Aa ((p.ttl:Int)-1),_,_,_,_],_]
 rw[e]
 rfl
theorem Alt (p:PacketM) (hb:p.body.length<100000) (ht:p.ttl≤255):Sy.Spec Tryz.prog 215 [Ja p] [] (.tup [Ja (hop1 p).1,Aa (hop1 p).2]) []:=Ab Γ hm 100 F215 Tryz.ntmps215 rfl fun F hF=>by
 have hres:=hop1.eq_1 p
 generalize hop1 p=res at *
 conv=>whnf
 refine⟨fun h=>?_,fun h=>?_⟩
 ·rw[if_pos (by have:=of_decide_eq_true h;omega)]at hres
  subst hres
  refine rg ?_;conv=>whnf
  refine Av 2 zP E (.cons (.refl _) (.cons (.refl _) (.cons (.refl _) (.cons (.refl _) (.cons (.refl _) (.cons (.refl _) (.cons .nil .nil))))))) ?_
  exact Ac E (.cons (.cell E E E E) (.cons .tmp .nil)) E E
 have h2:¬ p.ttl≤1:=by have:=of_decide_eq_false h;omega
 rw[if_neg h2]at hres
 subst hres
 have e:((p.ttl-1:Nat):Int)=(p.ttl:Int)-1:=by omega
 refine rg ?_;conv=>whnf
 refine⟨by unfold I64;omega,?_⟩
 conv=>whnf
 refine Ac E (.cons (.cell E E E E) (.cons .tmp .nil)) ?_ E
 show SV.tup [.agg [_,_,Aa ((p.ttl-1:Nat):Int),_,_,_,_],_]=SV.tup [.agg [_,_,Aa ((p.ttl:Int)-1),_,_,_,_],_]
 rw[e]
 rfl
def udpU (b:List UInt8):Nat→List SV
 | 0=>[Aa 0,Aa 0,Aa 0,Aa 0]
 | 1=>[Aa (numAt b 0 2),Aa 0,Aa 0,Aa 0]
 | 2=>[Aa (numAt b 0 2),Aa (numAt b 2 2),Aa 0,Aa 0]
 | 3=>[Aa (numAt b 0 2),Aa (numAt b 2 2),Aa (numAt b 4 2),Aa 0]
 | _=>[Aa (numAt b 0 2),Aa (numAt b 2 2),Aa (numAt b 4 2),Aa (numAt b 6 2)]
theorem Anf (b:List UInt8) (hb:b.length<100000):Sy.Spec Tryz.prog 339 [.sl 1 Aj b] [] (.tup [Aa (udpTakeT b).1,Aa (udpTakeT b).2.1,.sl 1 Aj (udpTakeT b).2.2.1,Aa (udpTakeT b).2.2.2]) []:=Ab Γ hm 100 F339 Tryz.ntmps339 rfl fun F hF=>by
 have hres:=udpTakeT.eq_1 b
 generalize udpTakeT b=res at *
 conv=>whnf
 refine⟨fun h=>?_,fun h=>?_⟩
 ·rw[if_pos (by have:=of_decide_eq_true h;omega)]at hres
  subst hres
  refine rg ?_;conv=>whnf
  refine An 4 1 Aj E ?_
  exact Ac E (.cons .tmp (.cons .tmp (.cons .tmp (.cons .tmp .nil)))) E E
 have h8:8≤b.length:=by have:=of_decide_eq_false h;omega
 rw[if_neg qn]at hres
 clear h
 have hp0:=E5 (b[0]'qn) (b[1]'qn)
 rw[← Kg (show 0+2≤b.length by omega)]at hp0
 have hp1:=E5 (b[2]'qn) (b[3]'qn)
 rw[← Kg (show 2+2≤b.length by omega)]at hp1
 have hp2:=E5 (b[4]'qn) (b[5]'qn)
 rw[← Kg (show 4+2≤b.length by omega)]at hp2
 have hp3:=E5 (b[6]'qn) (b[7]'qn)
 rw[← Kg (show 6+2≤b.length by omega)]at hp3
 refine rg ?_;conv=>whnf
 refine At 4 (fun j=>[(0,.sl 1 Aj b),(6,.ptr 6 0),(11,Aa j)]) (fun j=>[(6,.box (udpU b j))]) [] ⟨⟨E,E,E,E,E,E,Y⟩,⟨.inl E,E,Y⟩,E,E⟩ ?_
 intro j hj
 have hcase:j=0∨j=1∨j=2∨j=3∨j=4:=by omega
 rcases hcase with rfl | rfl | rfl | rfl | rfl
 ·(refine rg ?_;(conv=>whnf);refine aT ?_;refine rg ?_;conv=>whnf)
  refine⟨by unfold I64;omega,?_⟩
  conv=>whnf
  refine⟨E,by omega,by omega,?_⟩
  conv=>whnf
  refine⟨by decide,?_⟩
  conv=>whnf
  refine⟨by unfold I64;omega,?_⟩
  conv=>whnf
  refine⟨by unfold I64;omega,?_⟩
  conv=>whnf
  refine⟨E,by omega,by omega,?_⟩
  conv=>whnf
  refine⟨by decide,by decide,?_⟩
  conv=>whnf
  refine⟨qy,?_⟩
  conv=>whnf
  refine⟨by unfold I64;omega,?_⟩
  conv=>whnf
  exact Aq [] qz ⟨⟨E,E,E,E,E,E,Y⟩,⟨.inl (congrArg (fun z:Int=>Ob.box [Aa z,Aa 0,Aa 0,Aa 0]) hp0.symm),E,Y⟩,E,E⟩
 ·(refine rg ?_;(conv=>whnf);refine aT ?_;refine rg ?_;conv=>whnf)
  refine⟨by unfold I64;omega,?_⟩
  conv=>whnf
  refine⟨E,by omega,by omega,?_⟩
  conv=>whnf
  refine⟨by decide,?_⟩
  conv=>whnf
  refine⟨by unfold I64;omega,?_⟩
  conv=>whnf
  refine⟨by unfold I64;omega,?_⟩
  conv=>whnf
  refine⟨E,by omega,by omega,?_⟩
  conv=>whnf
  refine⟨by decide,by decide,?_⟩
  conv=>whnf
  refine⟨qy,?_⟩
  conv=>whnf
  refine⟨by unfold I64;omega,?_⟩
  conv=>whnf
  exact Aq [] qz ⟨⟨E,E,E,E,E,E,Y⟩,⟨.inl (congrArg (fun z:Int=>Ob.box [Aa (numAt b 0 2),Aa z,Aa 0,Aa 0]) hp1.symm),E,Y⟩,E,E⟩
 ·(refine rg ?_;(conv=>whnf);refine aT ?_;refine rg ?_;conv=>whnf)
  refine⟨by unfold I64;omega,?_⟩
  conv=>whnf
  refine⟨E,by omega,by omega,?_⟩
  conv=>whnf
  refine⟨by decide,?_⟩
  conv=>whnf
  refine⟨by unfold I64;omega,?_⟩
  conv=>whnf
  refine⟨by unfold I64;omega,?_⟩
  conv=>whnf
  refine⟨E,by omega,by omega,?_⟩
  conv=>whnf
  refine⟨by decide,by decide,?_⟩
  conv=>whnf
  refine⟨qy,?_⟩
  conv=>whnf
  refine⟨by unfold I64;omega,?_⟩
  conv=>whnf
  exact Aq [] qz ⟨⟨E,E,E,E,E,E,Y⟩,⟨.inl (congrArg (fun z:Int=>Ob.box [Aa (numAt b 0 2),Aa (numAt b 2 2),Aa z,Aa 0]) hp2.symm),E,Y⟩,E,E⟩
 ·(refine rg ?_;(conv=>whnf);refine aT ?_;refine rg ?_;conv=>whnf)
  refine⟨by unfold I64;omega,?_⟩
  conv=>whnf
  refine⟨E,by omega,by omega,?_⟩
  conv=>whnf
  refine⟨by decide,?_⟩
  conv=>whnf
  refine⟨by unfold I64;omega,?_⟩
  conv=>whnf
  refine⟨by unfold I64;omega,?_⟩
  conv=>whnf
  refine⟨E,by omega,by omega,?_⟩
  conv=>whnf
  refine⟨by decide,by decide,?_⟩
  conv=>whnf
  refine⟨qy,?_⟩
  conv=>whnf
  refine⟨by unfold I64;omega,?_⟩
  conv=>whnf
  exact Aq [] qz ⟨⟨E,E,E,E,E,E,Y⟩,⟨.inl (congrArg (fun z:Int=>Ob.box [Aa (numAt b 0 2),Aa (numAt b 2 2),Aa (numAt b 4 2),Aa z]) hp3.symm),E,Y⟩,E,E⟩
 clear hp0 hp1 hp2 hp3
 (refine rg ?_;(conv=>whnf);refine aF ?_;refine rg ?_;conv=>whnf)
 refine⟨by decide,by decide,?_⟩
 conv=>whnf
 refine⟨fun h=>?_,fun h=>?_⟩
 ·rw[if_pos (by have:=of_decide_eq_true h;omega)]at hres
  subst hres
  refine rg ?_;conv=>whnf
  refine An 4 1 Aj E ?_
  exact Ac E (.cons .tmp (.cons .tmp (.cons .tmp (.cons .tmp .nil)))) E E
 have hs8:8≤numAt b 4 2:=by have:=of_decide_eq_false h;omega
 rw[if_neg qn]at hres
 clear h
 refine rg ?_;conv=>whnf
 refine⟨by decide,by decide,?_⟩
 conv=>whnf
 refine⟨fun h=>?_,fun h=>?_⟩
 ·rw[if_pos (by have:=of_decide_eq_true h;omega)]at hres
  subst hres
  refine rg ?_;conv=>whnf
  refine An 4 1 Aj E ?_
  exact Ac E (.cons .tmp (.cons .tmp (.cons .tmp (.cons .tmp .nil)))) E E
 have hsl:numAt b 4 2≤b.length:=by have:=of_decide_eq_false h;omega
 rw[if_neg qn]at hres
 clear h
 refine rg ?_;conv=>whnf
 refine⟨by decide,by decide,?_⟩
 conv=>whnf
 refine⟨fun h=>?_,fun h=>?_⟩
 ·rw[if_pos (by have:(numAt b 6 2:Int)≠0:=(by simpa using h);omega)]at hres
  subst hres
  refine rg ?_;conv=>whnf
  refine An 4 1 Aj E ?_
  exact Ac E (.cons .tmp (.cons .tmp (.cons .tmp (.cons .tmp .nil)))) E E
 rw[if_neg (by have:(numAt b 6 2:Int)=0:=(by simpa using h);omega)]at hres
 subst hres
 clear h
 have qc:=Ix ((b.take (numAt b 4 2)).drop 8) (by rw[List.length_drop,List.length_take];omega)
 refine rg ?_;conv=>whnf
 refine⟨by decide,by decide,?_⟩
 conv=>whnf
 refine⟨by decide,by decide,?_⟩
 conv=>whnf
 refine⟨by decide,by decide,?_⟩
 conv=>whnf
 refine Bn (Bc (lo:=8) (hi:=numAt b 4 2) Γ.toTy E E E E (.inr ⟨_,_,E,E⟩) (.inr ⟨_,_,E,E⟩) hs8 hsl) qy E ?_
 refine rd qy ?_;conv=>whnf
 refine Au qc F63 E E E qy E ?_
 refine rd qy ?_;conv=>whnf
 refine⟨qy,?_⟩
 conv=>whnf
 exact Ac E (.cons .tmp (.cons .tmp (.cons .tmp (.cons .tmp .nil)))) E E
theorem Ahu (b:List UInt8) (hb:b.length<100000):Sy.Spec Tryz.prog 279 [.sl 1 Aj b] [] (.tup [Aa (udpTakeT b).1,Aa (udpTakeT b).2.1,.sl 1 Aj (udpTakeT b).2.2.1,Aa (udpTakeT b).2.2.2]) []:=Ab Γ hm 100 F279 Tryz.ntmps279 rfl fun F hF=>by
 have hres:=udpTakeT.eq_1 b
 generalize udpTakeT b=res at *
 conv=>whnf
 refine⟨fun h=>?_,fun h=>?_⟩
 ·rw[if_pos (by have:=of_decide_eq_true h;omega)]at hres
  subst hres
  refine rg ?_;conv=>whnf
  refine An 4 1 Aj E ?_
  exact Ac E (.cons .tmp (.cons .tmp (.cons .tmp (.cons .tmp .nil)))) E E
 have h8:8≤b.length:=by have:=of_decide_eq_false h;omega
 rw[if_neg qn]at hres
 clear h
 have n0:=Kg (show 0+2≤b.length by omega)
 have n2:=Kg (show 2+2≤b.length by omega)
 have n4:=Kg (show 4+2≤b.length by omega)
 have n6:=Kg (show 6+2≤b.length by omega)
 have hp0:=Lt (b[0]'qn) (b[1]'qn)
 have hp2:=Lt (b[2]'qn) (b[3]'qn)
 have hp4:=Lt (b[4]'qn) (b[5]'qn)
 rw[← n0]at hp0
 rw[← n2]at hp2
 rw[← n4]at hp4
 have w:∀ x:UInt8,IntKind.i64.wrap (x.toNat:Int)=x.toNat∧x.toNat<256:=fun x=>by have:=x.toNat_lt;refine⟨?_,this⟩;rw[IntKind.wrap_i64];omega
 obtain ⟨w0,l0⟩:=w (b[0]'qn)
 obtain ⟨w1,l1⟩:=w (b[1]'qn)
 obtain ⟨w2,l2⟩:=w (b[2]'qn)
 obtain ⟨w3,l3⟩:=w (b[3]'qn)
 obtain ⟨w4,l4⟩:=w (b[4]'qn)
 obtain ⟨w5,l5⟩:=w (b[5]'qn)
 have i0:(0:Int).toNat<b.length:=by show 0<_;omega
 have i1:(1:Int).toNat<b.length:=by show 1<_;omega
 have i2:(2:Int).toNat<b.length:=by show 2<_;omega
 have i3:(3:Int).toNat<b.length:=by show 3<_;omega
 have i4:(4:Int).toNat<b.length:=by show 4<_;omega
 have i5:(5:Int).toNat<b.length:=by show 5<_;omega
 have i6:(6:Int).toNat<b.length:=by show 6<_;omega
 have i7:(7:Int).toNat<b.length:=by show 7<_;omega
 have e4:b[(4:Int).toNat]'i4=b[4]'qn:=rfl
 have e5:b[(5:Int).toNat]'i5=b[5]'qn:=rfl
 have e6:b[(6:Int).toNat]'i6=b[6]'qn:=rfl
 have e7:b[(7:Int).toNat]'i7=b[7]'qn:=rfl
 refine rg ?_;conv=>whnf
 refine⟨E,by decide,i4,?_⟩
 rw[e4]
 conv=>whnf
 refine⟨by rw[w4];unfold I64;omega,?_⟩
 conv=>whnf
 refine⟨E,by decide,i5,?_⟩
 rw[e5]
 conv=>whnf
 refine⟨by rw[hp4];unfold I64;have:=Hg b 4 2;omega,?_⟩
 rw[hp4]
 conv=>whnf
 refine⟨qy,?_⟩
 conv=>whnf
 refine⟨fun h=>?_,fun h=>?_⟩
 ·rw[if_pos (by have:=of_decide_eq_true h;omega)]at hres
  subst hres
  refine rg ?_;conv=>whnf
  refine An 4 1 Aj E ?_
  exact Ac E (.cons .tmp (.cons .tmp (.cons .tmp (.cons .tmp .nil)))) E E
 have hs8:8≤numAt b 4 2:=by have:=of_decide_eq_false h;omega
 rw[if_neg qn]at hres
 clear h
 refine rg ?_;conv=>whnf
 refine⟨fun h=>?_,fun h=>?_⟩
 ·rw[if_pos (by have:=of_decide_eq_true h;omega)]at hres
  subst hres
  refine rg ?_;conv=>whnf
  refine An 4 1 Aj E ?_
  exact Ac E (.cons .tmp (.cons .tmp (.cons .tmp (.cons .tmp .nil)))) E E
 have hsl:numAt b 4 2≤b.length:=by have:=of_decide_eq_false h;omega
 rw[if_neg qn]at hres
 clear h
 refine rg ?_;conv=>whnf
 refine⟨E,by decide,i6,?_⟩
 rw[e6]
 conv=>whnf
 refine⟨fun h=>?_,fun h=>?_⟩
 ·have h2:((b[6]'qn).toNat:Int)≠0:=by simpa using h
  rw[if_pos (by rw[n6];omega)]at hres
  subst hres
  (refine rg ?_;(conv=>whnf);refine aT ?_;refine rg ?_;conv=>whnf)
  refine An 4 1 Aj E ?_
  exact Ac E (.cons .tmp (.cons .tmp (.cons .tmp (.cons .tmp .nil)))) E E
 have h6:((b[6]'qn).toNat:Int)=0:=by simpa using h
 clear h
 refine rg ?_;conv=>whnf
 refine⟨E,by decide,i7,?_⟩
 rw[e7]
 conv=>whnf
 refine⟨fun h=>?_,fun h=>?_⟩
 ·have h2:((b[7]'qn).toNat:Int)≠0:=by simpa using h
  rw[if_pos (by rw[n6];show (b[6]'qn).toNat * 256+(b[7]'qn).toNat≠0;omega)]at hres
  subst hres
  refine rg ?_;conv=>whnf
  refine An 4 1 Aj E ?_
  exact Ac E (.cons .tmp (.cons .tmp (.cons .tmp (.cons .tmp .nil)))) E E
 have h7:((b[7]'qn).toNat:Int)=0:=by simpa using h
 rw[if_neg (by rw[n6];show ¬ (b[6]'qn).toNat * 256+(b[7]'qn).toNat≠0;omega)]at hres
 subst hres
 clear h
 refine rg ?_;conv=>whnf
 refine⟨E,by decide,i0,?_⟩
 conv=>whnf
 refine⟨(by show I64 (IntKind.i64.wrap ((b[0]'qn).toNat:Int) * 256);rw[w0];unfold I64;omega),?_⟩
 conv=>whnf
 refine⟨E,by decide,i1,?_⟩
 conv=>whnf
 refine⟨(by show I64 (IntKind.i64.wrap ((b[0]'qn).toNat:Int) * 256+IntKind.i64.wrap ((b[1]'qn).toNat:Int));rw[w0,w1];unfold I64;omega),?_⟩
 conv=>whnf
 refine⟨E,by decide,i2,?_⟩
 conv=>whnf
 refine⟨(by show I64 (IntKind.i64.wrap ((b[2]'qn).toNat:Int) * 256);rw[w2];unfold I64;omega),?_⟩
 conv=>whnf
 refine⟨E,by decide,i3,?_⟩
 conv=>whnf
 refine⟨(by show I64 (IntKind.i64.wrap ((b[2]'qn).toNat:Int) * 256+IntKind.i64.wrap ((b[3]'qn).toNat:Int));rw[w2,w3];unfold I64;omega),?_⟩
 conv=>whnf
 refine Bn (Bc (lo:=8) (hi:=numAt b 4 2) Γ.toTy E E E E (.inr ⟨_,_,E,E⟩) (.inr ⟨_,_,E,E⟩) hs8 hsl) qy E ?_
 refine rd qy ?_;conv=>whnf
 refine Bn (Ae Γ.toTy 60 E E E E E (.lit (e:=Aj) (l:=[]) E E) .sl za (by simp;omega) (by simp;omega)) qy E ?_
 refine rd qy ?_;conv=>whnf
 refine⟨qy,?_⟩
 conv=>whnf
 refine As 60 E ?_
 refine Ac E (.cons .tmp (.cons .tmp (.cons .tmp (.cons .tmp .nil)))) ?_ E
 show SV.tup [Aa (numAt b 0 2),Aa (numAt b 2 2),_,_]=SV.tup [Aa (IntKind.i64.wrap ((b[0]'qn).toNat:Int) * (256:Int)+IntKind.i64.wrap ((b[1]'qn).toNat:Int)),Aa (IntKind.i64.wrap ((b[2]'qn).toNat:Int) * (256:Int)+IntKind.i64.wrap ((b[3]'qn).toNat:Int)),_,_]
 rw[hp0,hp2]
 rfl
theorem Aqz (src dst:Nat) (body:List UInt8) (h1:src≤65535) (h2:dst≤65535) (h3:body.length≤1472):Sy.Spec Tryz.prog 310 [Aa src,Aa dst,.sl 1 Aj body] [] (.tup [.sl 1 Aj (Aea src dst body),Aa 0]) []:=Ab Γ hm 100 F310 Tryz.ntmps310 rfl fun F hF=>by
 ((conv=>whnf);refine aF ?_;refine rg ?_;conv=>whnf)
 (refine⟨fun h=>False.elim (by simp at h;omega),fun _=>?_⟩;refine rg ?_;(conv=>whnf);refine aF ?_;refine rg ?_;(conv=>whnf);refine⟨fun h=>False.elim (by simp at h;omega),fun _=>?_⟩;refine rg ?_;(conv=>whnf);refine⟨fun h=>False.elim (by simp at h;omega),fun _=>?_⟩;refine rg ?_;conv=>whnf)
 refine⟨by unfold I64;omega,?_⟩
 conv=>whnf
 refine Bm 8 1000 1 Aj E E ?_
 refine Ai (Af1 Γ.toTy E E E E E E) E E ?_
 refine rg ?_;conv=>whnf
 have key:∀ (x:Nat) (pre:List Nat),pre.length≤4→B9 (pre++[x])=B9 pre++[UInt8.ofNat (x / 256),UInt8.ofNat x]:=fun x pre _=>I4 pre x
 have hwl:∀ l:List Nat,(B9 l).length=2 * l.length:=I0
 obtain ⟨ws,hws⟩:∃ ws:List Nat,ws=[src,dst,8+body.length,0]:=⟨_,rfl⟩
 refine At 4 (fun j=>[(2,.sl 1 Aj body),(8,.osl 1000),(35,.agg [Aa src,Aa dst,Aa (8+body.length:Nat),Aa 0]),(36,Aa j)]) (fun j=>[(1000,.row 1 Aj (B9 (ws.take j)))]) [] ⟨⟨E,E,E,E,E,E,E,E,Y⟩,⟨.inl (congrArg (Ob.row 1 Aj) (by simp[B9])),E,Y⟩,E,E⟩ ?_
 intro j hj
 have hcase:j=0∨j=1∨j=2∨j=3∨j=4:=by omega
 rcases hcase with rfl | rfl | rfl | rfl | rfl
 ·have hs:B9 (ws.take 1)=B9 (ws.take 0)++[UInt8.ofNat (src / 256),UInt8.ofNat src]:=by subst hws;exact I4 [] src
  have hl:=hwl (ws.take 0)
  have hl2:(ws.take 0).length≤4:=by rw[List.length_take];omega
  have htb:=Ez src
  (refine rg ?_;(conv=>whnf);refine aT ?_;refine rg ?_;conv=>whnf)
  refine Ai (Hm (k:=.int .i64) Γ.toTy E E E Tryz.underlying3 E E qz qz E) E E ?_
  refine rg ?_;conv=>whnf
  refine⟨by decide,?_⟩
  conv=>whnf
  refine Ai (Ae Γ.toTy 46 E E E E E (.row E) (.lit (e:=Aj) (l:=[UInt8.ofNat (src / 256),UInt8.ofNat src]) E htb) za (by rw[hl];simp only[List.length_cons,List.length_nil];omega) (by rw[hl];simp only[List.length_cons,List.length_nil];omega)) E E ?_
  refine rg ?_;conv=>whnf
  refine⟨by unfold I64;omega,?_⟩
  conv=>whnf
  exact Aq [(1000,46)] qz ⟨⟨E,E,E,E,E,E,E,E,Y⟩,⟨.inl (congrArg (Ob.row 1 Aj) hs),E,Y⟩,E,E⟩
 ·have hs:B9 (ws.take 2)=B9 (ws.take 1)++[UInt8.ofNat (dst / 256),UInt8.ofNat dst]:=by subst hws;exact I4 [src] dst
  have hl:=hwl (ws.take 1)
  have hl2:(ws.take 1).length≤4:=by rw[List.length_take];omega
  have htb:=Ez dst
  (refine rg ?_;(conv=>whnf);refine aT ?_;refine rg ?_;conv=>whnf)
  refine Ai (Hm (k:=.int .i64) Γ.toTy E E E Tryz.underlying3 E E qz qz E) E E ?_
  refine rg ?_;conv=>whnf
  refine⟨by decide,?_⟩
  conv=>whnf
  refine Ai (Ae Γ.toTy 46 E E E E E (.row E) (.lit (e:=Aj) (l:=[UInt8.ofNat (dst / 256),UInt8.ofNat dst]) E htb) za (by rw[hl];simp only[List.length_cons,List.length_nil];omega) (by rw[hl];simp only[List.length_cons,List.length_nil];omega)) E E ?_
  refine rg ?_;conv=>whnf
  refine⟨by unfold I64;omega,?_⟩
  conv=>whnf
  exact Aq [(1000,46)] qz ⟨⟨E,E,E,E,E,E,E,E,Y⟩,⟨.inl (congrArg (Ob.row 1 Aj) hs),E,Y⟩,E,E⟩
 ·have hs:B9 (ws.take 3)=B9 (ws.take 2)++[UInt8.ofNat ((8+body.length) / 256),UInt8.ofNat (8+body.length)]:=by subst hws;exact I4 [src,dst] (8+body.length)
  have hl:=hwl (ws.take 2)
  have hl2:(ws.take 2).length≤4:=by rw[List.length_take];omega
  have htb:=Ez (8+body.length)
  (refine rg ?_;(conv=>whnf);refine aT ?_;refine rg ?_;conv=>whnf)
  refine Ai (Hm (k:=.int .i64) Γ.toTy E E E Tryz.underlying3 E E qz qz E) E E ?_
  refine rg ?_;conv=>whnf
  refine⟨by decide,?_⟩
  conv=>whnf
  refine Ai (Ae Γ.toTy 46 E E E E E (.row E) (.lit (e:=Aj) (l:=[UInt8.ofNat ((8+body.length) / 256),UInt8.ofNat (8+body.length)]) E htb) za (by rw[hl];simp only[List.length_cons,List.length_nil];omega) (by rw[hl];simp only[List.length_cons,List.length_nil];omega)) E E ?_
  refine rg ?_;conv=>whnf
  refine⟨by unfold I64;omega,?_⟩
  conv=>whnf
  exact Aq [(1000,46)] qz ⟨⟨E,E,E,E,E,E,E,E,Y⟩,⟨.inl (congrArg (Ob.row 1 Aj) hs),E,Y⟩,E,E⟩
 ·have hs:B9 (ws.take 4)=B9 (ws.take 3)++[UInt8.ofNat (0 / 256),UInt8.ofNat 0]:=by subst hws;exact I4 [src,dst,8+body.length] 0
  have hl:=hwl (ws.take 3)
  have hl2:(ws.take 3).length≤4:=by rw[List.length_take];omega
  have htb:=Ez 0
  (refine rg ?_;(conv=>whnf);refine aT ?_;refine rg ?_;conv=>whnf)
  refine Ai (Hm (k:=.int .i64) Γ.toTy E E E Tryz.underlying3 E E qz qz E) E E ?_
  refine rg ?_;conv=>whnf
  refine⟨by decide,?_⟩
  conv=>whnf
  refine Ai (Ae Γ.toTy 46 E E E E E (.row E) (.lit (e:=Aj) (l:=[UInt8.ofNat (0 / 256),UInt8.ofNat 0]) E htb) za (by rw[hl];simp only[List.length_cons,List.length_nil];omega) (by rw[hl];simp only[List.length_cons,List.length_nil];omega)) E E ?_
  refine rg ?_;conv=>whnf
  refine⟨by unfold I64;omega,?_⟩
  conv=>whnf
  exact Aq [(1000,46)] qz ⟨⟨E,E,E,E,E,E,E,E,Y⟩,⟨.inl (congrArg (Ob.row 1 Aj) hs),E,Y⟩,E,E⟩
 have hl:=hwl (ws.take 4)
 have e:ws.take 4=[src,dst,8+body.length,0]:=by rw[hws];rfl
 rw[e]at hl ⊢
 have hl3:(B9 [src,dst,8+body.length,0]).length=8:=hl
 (refine rg ?_;(conv=>whnf);refine aF ?_;refine rg ?_;conv=>whnf)
 refine Ai (Ae Γ.toTy 50 E E E E E (.row E) .sl za (by rw[hl3];simp;omega) (by rw[hl3];omega)) E E ?_
 refine As 50 E ?_
 refine rg ?_;conv=>whnf
 exact Ac E (.cons .tmp (.cons .tmp .nil)) E E
theorem Als (src dst:Nat) (body:List UInt8) (h1:src≤65535) (h2:dst≤65535) (h3:body.length≤1472):Sy.Spec Tryz.prog 277 [Aa src,Aa dst,.sl 1 Aj body] [] (.tup [.sl 1 Aj (Aea src dst body),Aa 0]) []:=Ab Γ hm 100 F277 Tryz.ntmps277 rfl fun F hF=>by
 have t1:=Ip src h1
 have t2:=Ip dst h2
 have t3:=Ip (8+body.length) qn
 obtain ⟨l,hl⟩:∃ l:List UInt8,l=B9 [src,dst,8+body.length,0]:=⟨_,rfl⟩
 have hll:l.length=8:=by rw[hl,I0];rfl
 have hudp:Aea src dst body=l++body:=by rw[hl,Aea]
 rw[hudp]
 ((conv=>whnf);refine aF ?_;refine rg ?_;(conv=>whnf);refine aF ?_;refine rg ?_;conv=>whnf)
 (refine⟨fun h=>False.elim (by simp at h;omega),fun _=>?_⟩;refine rg ?_;(conv=>whnf);refine⟨fun h=>False.elim (by simp at h;omega),fun _=>?_⟩;refine rg ?_;(conv=>whnf);refine⟨fun h=>False.elim (by simp at h;omega),fun _=>?_⟩;refine rg ?_;conv=>whnf)
 refine⟨by unfold I64;omega,?_⟩
 conv=>whnf
 repeat (refine⟨by decide,?_⟩;((conv=>whnf);repeat((first|refine aF ?_|refine aT ?_);(first|refine rG Γ hm ?_|refine rD Γ hm qy ?_);conv=>whnf)))
 refine Ai (Ae Γ.toTy 51 E E E E E (.lit (e:=Aj) (l:=l) E ?_) .sl za (by simp[hll];omega) (by simp[hll];omega)) E E ?_
 ·have a1:=List.cons.inj t1
  have a2:=List.cons.inj t2
  have a3:=List.cons.inj t3
  have b1:=List.cons.inj a1.2
  have b2:=List.cons.inj a2.2
  have b3:=List.cons.inj a3.2
  rw[hl]
  simp only[B9,List.flatMap_cons,List.flatMap_nil,List.append_nil,List.cons_append,List.nil_append,List.map_cons,List.map_nil,a1.1,b1.1,a2.1,b2.1,a3.1,b3.1]
  rfl
 refine As 51 E ?_
 refine rg ?_;conv=>whnf
 exact Ac E (.cons .tmp (.cons .tmp .nil)) E E
theorem Ang (a b:Nat) (ha:a<18446744073709551616) (hb:b<18446744073709551616):Sy.Spec Tryz.prog 311 [Az a,Az b] [] (Aa (udpPort a b:Nat)) []:=Ab Γ hm 100 F311 Tryz.ntmps311 rfl fun F hF=>by
 have hx:=bits_xor_u64_nat a b ha hb
 have hmd:((a ^^^ b:Nat):Int).tmod 16384=(((a ^^^ b) % 16384:Nat):Int):=by rw[Int.tmod_eq_emod_of_nonneg qn];omega
 have hl:=Nat.mod_lt (a ^^^ b) (show 0<16384 by decide)
 have hw:IntKind.i64.wrap (((a ^^^ b) % 16384:Nat):Int)=(((a ^^^ b) % 16384:Nat):Int):=by rw[IntKind.wrap_i64];omega
 conv=>whnf
 refine⟨by decide,?_⟩
 rw[hx,hmd]
 conv=>whnf
 rw[hw]
 refine⟨by unfold I64;omega,?_⟩
 conv=>whnf
 refine Ac E (.cons .tmp .nil) ?_ E
 refine congrArg (fun z:Int=>SV.val (.int .i64 z)) ?_
 rw[udpPort]
 omega
theorem Aqu (a b j:Nat):(a ^^^ b) / 2 ^ j % 2=if a / 2 ^ j % 2=b / 2 ^ j % 2 then 0 else 1:=by
 have h:=Nat.testBit_xor a b j
 rw[Nat.testBit_eq_decide_div_mod_eq,Nat.testBit_eq_decide_div_mod_eq,Nat.testBit_eq_decide_div_mod_eq]at h
 have h1:=Nat.mod_two_eq_zero_or_one ((a ^^^ b) / 2 ^ j)
 have h2:=Nat.mod_two_eq_zero_or_one (a / 2 ^ j)
 have h3:=Nat.mod_two_eq_zero_or_one (b / 2 ^ j)
 rcases h1 with h1 | h1<;>rcases h2 with h2 | h2<;>rcases h3 with h3 | h3<;>simp_all
theorem Ac0 (x j:Nat):x % 2 ^ (j+1)=x % 2 ^ j+2 ^ j * (x / 2 ^ j % 2):=by
 rw[Nat.pow_succ,Nat.mod_mul]
theorem Ahv (a b:Nat) (ha:a<18446744073709551616) (hb:b<18446744073709551616):Sy.Spec Tryz.prog 278 [Az a,Az b] [] (Aa (udpPort a b:Nat)) []:=Ab Γ hm 100 F278 Tryz.ntmps278 rfl fun F hF=>by
 conv=>whnf
 refine At 14 (fun j=>[(0,Az (a / 2 ^ j:Nat)),(1,Az (b / 2 ^ j:Nat)),(5,Aa ((a ^^^ b) % 2 ^ j:Nat)),(6,Aa (2 ^ j:Nat)),(7,Aa j)]) (fun _=>[]) []
  ⟨⟨congrArg (fun z:Nat=>Az z) za,rfl,congrArg (fun z:Nat=>Az z) za,rfl,congrArg (fun z:Nat=>Aa z) (by simp;omega),rfl,rfl,rfl,rfl,rfl,trivial⟩,trivial,rfl,rfl⟩ ?_
 intro j hj
 have hp:2 ^ j≤16384:=by
  have:(2:Nat) ^ j≤2 ^ 14:=Nat.pow_le_pow_right qz hj
  exact this
 have hpp:0<2 ^ j:=Nat.two_pow_pos j
 have hx:=Aqu a b j
 have hmd:=Ac0 (a ^^^ b) j
 have hml:=Nat.mod_lt (a ^^^ b) hpp
 have ea:a / 2 ^ (j+1)=a / 2 ^ j / 2:=by rw[Nat.pow_succ,Nat.div_div_eq_div_mul]
 have eb:b / 2 ^ (j+1)=b / 2 ^ j / 2:=by rw[Nat.pow_succ,Nat.div_div_eq_div_mul]
 have ep:2 ^ (j+1)=2 ^ j * 2:=Nat.pow_succ 2 j
 have la:=Nat.div_le_self a (2 ^ j)
 have lb:=Nat.div_le_self b (2 ^ j)
 rw[hx]at hmd
 clear hx
 by_cases hje:j=14
 ·subst hje
  have hu:udpPort a b=49152+(a ^^^ b) % 2 ^ 14:=rfl
  rw[hu]
  generalize (a ^^^ b) % 2 ^ 14=r at *
  (refine rg ?_;(conv=>whnf);refine aF ?_;refine rg ?_;conv=>whnf)
  (skip)
  refine⟨by unfold I64;omega,?_⟩
  conv=>whnf
  exact Ac E (.cons .tmp .nil) (congrArg (fun z:Int=>SV.val (.int .i64 z)) qn) E
 have hj14:j<14:=by omega
 generalize (a ^^^ b) % 2 ^ j=r0 at *
 generalize a / 2 ^ j=a0 at *
 generalize b / 2 ^ j=b0 at *
 generalize 2 ^ j=p0 at *
 have ta:((a0:Nat):Int).tmod 2=((a0 % 2:Nat):Int):=by rw[Int.tmod_eq_emod_of_nonneg qn];omega
 have tb:((b0:Nat):Int).tmod 2=((b0 % 2:Nat):Int):=by rw[Int.tmod_eq_emod_of_nonneg qn];omega
 have da:IntKind.u64.wrap (((a0:Nat):Int).tdiv 2)=((a0 / 2:Nat):Int):=by rw[Int.tdiv_eq_ediv_of_nonneg qn,IntKind.wrap_u64];omega
 have db:IntKind.u64.wrap (((b0:Nat):Int).tdiv 2)=((b0 / 2:Nat):Int):=by rw[Int.tdiv_eq_ediv_of_nonneg qn,IntKind.wrap_u64];omega
 refine rg ?_;conv=>whnf
 refine⟨fun _=>?_,fun h=>absurd (of_decide_eq_false h) qn⟩
 refine rg ?_;conv=>whnf
 refine⟨by decide,?_⟩
 conv=>whnf
 refine⟨by decide,?_⟩
 conv=>whnf
 refine⟨fun h=>?_,fun h=>?_⟩
 ·rw[ta,tb]at h
  have hne:a0 % 2≠b0 % 2:=by
   have:((a0 % 2:Nat):Int)≠((b0 % 2:Nat):Int):=by simpa using h
   omega
  rw[if_neg hne]at hmd
  refine rg ?_;conv=>whnf
  refine⟨by unfold I64;omega,?_⟩
  conv=>whnf
  refine⟨by decide,?_⟩
  conv=>whnf
  refine⟨by decide,?_⟩
  conv=>whnf
  refine⟨by unfold I64;omega,?_⟩
  conv=>whnf
  refine⟨by unfold I64;omega,?_⟩
  conv=>whnf
  refine Aq [] hj14 ⟨⟨congrArg (fun z:Int=>SV.val (.int .u64 z)) ?_,E,congrArg (fun z:Int=>SV.val (.int .u64 z)) ?_,E,congrArg (fun z:Int=>SV.val (.int .i64 z)) ?_,E,congrArg (fun z:Int=>SV.val (.int .i64 z)) ?_,E,E,E,Y⟩,Y,E,E⟩
  ·rw[da,ea]
  ·rw[db,eb]
  ·rw[hmd];omega
  ·rw[ep];omega
 ·rw[ta,tb]at h
  have hne:a0 % 2=b0 % 2:=by
   have:((a0 % 2:Nat):Int)=((b0 % 2:Nat):Int):=by simpa using h
   omega
  rw[if_pos hne]at hmd
  refine rg ?_;conv=>whnf
  refine⟨by decide,?_⟩
  conv=>whnf
  refine⟨by decide,?_⟩
  conv=>whnf
  refine⟨by unfold I64;omega,?_⟩
  conv=>whnf
  refine⟨by unfold I64;omega,?_⟩
  conv=>whnf
  refine Aq [] hj14 ⟨⟨congrArg (fun z:Int=>SV.val (.int .u64 z)) ?_,E,congrArg (fun z:Int=>SV.val (.int .u64 z)) ?_,E,congrArg (fun z:Int=>SV.val (.int .i64 z)) ?_,E,congrArg (fun z:Int=>SV.val (.int .i64 z)) ?_,E,E,E,Y⟩,Y,E,E⟩
  ·rw[da,ea]
  ·rw[db,eb]
  ·rw[hmd];omega
  ·rw[ep];omega
theorem Ake (v:Int) (h:L9 v=true):Sy.Spec Tryz.prog 309 [Aa v] [] (.tup [.sl 1 Aj [],Aa 17]) []:=Ab Γ hm 100 F309 Tryz.ntmps309 rfl fun F hF=>by
 simp only[L9,Bool.or_eq_true,decide_eq_true_eq]at h
 conv=>whnf
 refine⟨fun h1=>?_,fun h1=>?_⟩
 ·(refine rg ?_;(conv=>whnf);refine aT ?_;refine rg ?_;conv=>whnf)
  refine An 2 1 Aj E ?_
  exact Ac E (.cons .tmp (.cons .tmp .nil)) E E
 refine rg ?_;conv=>whnf
 refine⟨fun h2=>?_,fun h2=>absurd (of_decide_eq_false h2) (by have:=of_decide_eq_false h1;omega)⟩
 refine rg ?_;conv=>whnf
 refine An 2 1 Aj E ?_
 exact Ac E (.cons .tmp (.cons .tmp .nil)) E E
theorem Ad0 {v:Int} (h:L9 v=false):1≤v∧v≤16777215:=by
 simp only[L9,Bool.or_eq_false_iff,decide_eq_false_iff_not]at h
 omega
theorem Amk (k:Nat):(Ih k).map Aj=[SV.val (.int .u8 8),SV.val (.int .u8 0),SV.val (.int .u8 0),SV.val (.int .u8 0),SV.val (.int .u8 (IntKind.u8.wrap ((k:Int).fdiv (2 ^ (min (Int.toNat 16) IntKind.i64.bits))))),
  SV.val (.int .u8 (IntKind.u8.wrap ((k:Int).fdiv (2 ^ (min (Int.toNat 8) IntKind.i64.bits))))),SV.val (.int .u8 (IntKind.u8.wrap (k:Int))),SV.val (.int .u8 0)]:=by
 have h1:IntKind.u8.wrap ((k:Int).fdiv (2 ^ (min (Int.toNat 16) IntKind.i64.bits)))=((UInt8.ofNat (k / 65536)).toNat:Int):=by
  show IntKind.u8.wrap ((k:Int).fdiv 65536)=_
  rw[Int.fdiv_eq_ediv_of_nonneg _ qz,IntKind.wrap_u8]
  simp
 have h2:IntKind.u8.wrap ((k:Int).fdiv (2 ^ (min (Int.toNat 8) IntKind.i64.bits)))=((UInt8.ofNat (k / 256)).toNat:Int):=by
  show IntKind.u8.wrap ((k:Int).fdiv 256)=_
  rw[Int.fdiv_eq_ediv_of_nonneg _ qz,IntKind.wrap_u8]
  simp
 have h3:=Asn k
 rw[h1,h2,h3]
 rfl
theorem Ai0 (k:Nat) (hk:k≤16777215):(Ih k).map Aj=[SV.val (.int .u8 8),SV.val (.int .u8 0),SV.val (.int .u8 0),SV.val (.int .u8 0),SV.val (.int .u8 (IntKind.u8.wrap (IntKind.i64.wrap ((k:Int).tdiv 65536)))),
  SV.val (.int .u8 (IntKind.u8.wrap ((IntKind.i64.wrap ((k:Int).tdiv 256)).tmod 256))),SV.val (.int .u8 (IntKind.u8.wrap ((k:Int).tmod 256))),SV.val (.int .u8 0)]:=by
 have h1:IntKind.u8.wrap (IntKind.i64.wrap ((k:Int).tdiv 65536))=((UInt8.ofNat (k / 65536)).toNat:Int):=by
  rw[Int.tdiv_eq_ediv_of_nonneg qn,IntKind.wrap_u8,IntKind.wrap_i64]
  simp
  omega
 have e2:IntKind.i64.wrap ((k:Int).tdiv 256)=((k / 256:Nat):Int):=by rw[Int.tdiv_eq_ediv_of_nonneg qn,IntKind.wrap_i64];omega
 have h2:IntKind.u8.wrap ((IntKind.i64.wrap ((k:Int).tdiv 256)).tmod 256)=((UInt8.ofNat (k / 256)).toNat:Int):=by
  rw[e2,Int.tmod_eq_emod_of_nonneg qn,IntKind.wrap_u8]
  simp
 have h3:IntKind.u8.wrap ((k:Int).tmod 256)=((UInt8.ofNat k).toNat:Int):=by
  rw[Int.tmod_eq_emod_of_nonneg qn,IntKind.wrap_u8]
  simp
 rw[h1,h2,h3]
 rfl
theorem Apn (k:Nat) (h:1≤k∧k≤16777215):Sy.Spec Tryz.prog 309 [Aa k] [] (.tup [.osl 0,Aa 0]) [(0,.row 1 Aj (Ih k))]:=Ab Γ hm 100 F309 Tryz.ntmps309 rfl fun F hF=>by
 have hl:=Amk k
 conv=>whnf
 refine⟨fun h1=>absurd (of_decide_eq_true h1) qn,fun _=>?_⟩
 refine rg ?_;conv=>whnf
 refine⟨fun h1=>absurd (of_decide_eq_true h1) qn,fun _=>?_⟩
 refine rg ?_;conv=>whnf
 refine⟨by decide,?_⟩
 conv=>whnf
 refine⟨by decide,?_⟩
 conv=>whnf
 refine Dm 18 Aj (Ih k) E hl ?_
 exact done E (.cons .tmp (.cons .tmp .nil)) [(0,18)] [(0,.row 1 Aj (Ih k))] (fun _ h=>h) E E ⟨Y,⟨.inl E,E,Y⟩,E,E⟩
theorem Acn (v:Int) (h:L9 v=true):Sy.Spec Tryz.prog 276 [Aa v] [] (.tup [.sl 1 Aj [],Aa 17]) []:=Ab Γ hm 100 F276 Tryz.ntmps276 rfl fun F hF=>by
 simp only[L9,Bool.or_eq_true,decide_eq_true_eq]at h
 conv=>whnf
 refine⟨fun h1=>?_,fun h1=>?_⟩
 ·(refine rg ?_;(conv=>whnf);refine aT ?_;refine rg ?_;conv=>whnf)
  refine An 2 1 Aj E ?_
  exact Ac E (.cons .tmp (.cons .tmp .nil)) E E
 refine rg ?_;conv=>whnf
 refine⟨fun h2=>?_,fun h2=>absurd (of_decide_eq_false h2) (by have:=of_decide_eq_false h1;omega)⟩
 refine rg ?_;conv=>whnf
 refine An 2 1 Aj E ?_
 exact Ac E (.cons .tmp (.cons .tmp .nil)) E E
theorem Ae0 (k:Nat) (h:1≤k∧k≤16777215):Sy.Spec Tryz.prog 276 [Aa k] [] (.tup [.osl 0,Aa 0]) [(0,.row 1 Aj (Ih k))]:=Ab Γ hm 100 F276 Tryz.ntmps276 rfl fun F hF=>by
 have hl:=Ai0 k h.2
 conv=>whnf
 refine⟨fun h1=>absurd (of_decide_eq_true h1) qn,fun _=>?_⟩
 refine rg ?_;conv=>whnf
 refine⟨fun h1=>absurd (of_decide_eq_true h1) qn,fun _=>?_⟩
 refine rg ?_;conv=>whnf
 refine⟨by decide,?_⟩
 conv=>whnf
 refine⟨by decide,?_⟩
 conv=>whnf
 refine⟨by decide,?_⟩
 conv=>whnf
 refine⟨by decide,?_⟩
 conv=>whnf
 refine Dm 20 Aj (Ih k) E hl ?_
 exact done E (.cons .tmp (.cons .tmp .nil)) [(0,20)] [(0,.row 1 Aj (Ih k))] (fun _ h=>h) E E ⟨Y,⟨.inl E,E,Y⟩,E,E⟩
theorem Am0 (a b:List UInt8):((⟨a.toArray⟩:ByteArray) == (⟨b.toArray⟩:ByteArray))=decide (a=b):=by
 have key:=Go.MapKept.bytes_beq (⟨a.toArray⟩:ByteArray) ⟨b.toArray⟩
 by_cases h:a=b
 ·subst h
  rw[decide_eq_true rfl]
  exact key.2 E
 ·rw[decide_eq_false h]
  cases hb:((⟨a.toArray⟩:ByteArray) == (⟨b.toArray⟩:ByteArray)) with
  | false=>rfl
  | true =>
   have:=congrArg (fun z:ByteArray=>z.data.toList) (key.1 hb)
   exact absurd (by simpa using this) h
theorem Ani (x y z:UInt8):bits .or .i64 (bits .or .i64 (IntKind.i64.wrap ((IntKind.i64.wrap (x.toNat:Int)) * 2 ^ min (Int.toNat 16) IntKind.i64.bits)) (IntKind.i64.wrap ((IntKind.i64.wrap (y.toNat:Int)) * 2 ^ min (Int.toNat 8) IntKind.i64.bits))) (IntKind.i64.wrap (z.toNat:Int))
  = (((x.toNat * 256+y.toNat) * 256+z.toNat:Nat):Int):=by
 have h1:=x.toNat_lt
 have h2:=y.toNat_lt
 have h3:=z.toNat_lt
 have e1:IntKind.i64.wrap (x.toNat:Int)=(x.toNat:Int):=by rw[IntKind.wrap_i64];omega
 have e2:IntKind.i64.wrap (y.toNat:Int)=(y.toNat:Int):=by rw[IntKind.wrap_i64];omega
 have e3:IntKind.i64.wrap (z.toNat:Int)=(z.toNat:Int):=by rw[IntKind.wrap_i64];omega
 rw[e1,e2,e3]
 have f1:IntKind.i64.wrap ((x.toNat:Int) * 2 ^ min (Int.toNat 16) IntKind.i64.bits)=((x.toNat * 65536:Nat):Int):=by
  show IntKind.i64.wrap ((x.toNat:Int) * 65536)=_
  rw[IntKind.wrap_i64]
  omega
 have f2:IntKind.i64.wrap ((y.toNat:Int) * 2 ^ min (Int.toNat 8) IntKind.i64.bits)=((y.toNat * 256:Nat):Int):=by
  show IntKind.i64.wrap ((y.toNat:Int) * 256)=_
  rw[IntKind.wrap_i64]
  omega
 rw[f1,f2,Do _ _ qn qn]
 have g1:x.toNat * 65536 ||| y.toNat * 256=x.toNat * 65536+y.toNat * 256:=by
  have h:=Nat.two_pow_add_eq_or_of_lt (i:=16) (b:=y.toNat * 256) qn x.toNat
  rw[Nat.mul_comm x.toNat 65536]
  exact h.symm
 rw[g1,Do _ _ qn qn]
 refine congrArg (fun n:Nat=>(n:Int)) ?_
 have h:256 * (x.toNat * 256+y.toNat)+z.toNat=256 * (x.toNat * 256+y.toNat) ||| z.toNat:=Nat.two_pow_add_eq_or_of_lt (i:=8) (b:=z.toNat) qn (x.toNat * 256+y.toNat)
 have e:x.toNat * 65536+y.toNat * 256=256 * (x.toNat * 256+y.toNat):=by omega
 rw[e,← h]
 omega
theorem Anl {b:List UInt8} (h:8≤b.length):b.take 8=[b[0]'qn,b[1]'qn,b[2]'qn,b[3]'qn,b[4]'qn,b[5]'qn,b[6]'qn,b[7]'qn]:=by
 have h1:=Xw (b:=b) (k:=0) qn
 have h2:=Xw (b:=b) (k:=4) qn
 have e:b.take 8=(b.drop 0).take 4++(b.drop 4).take 4:=by
  rw[List.drop_zero,← List.take_add]
 rw[e,h1,h2]
 rfl
theorem Apm {b:List UInt8} (h:8≤b.length):b.take 8=Ih (numAt b 4 3)↔((b[0]'qn)=8∧(b[1]'qn)=0∧(b[2]'qn)=0∧(b[3]'qn)=0∧(b[7]'qn)=0):=by
 have hn:=Aig (show 4+3≤b.length by omega)
 have e5:b[4+1]'qn=b[5]'qn:=rfl
 have e6:b[4+2]'qn=b[6]'qn:=rfl
 rw[e5,e6]at hn
 rw[Anl h,Ih,hn]
 have h4:=(b[4]'qn).toNat_lt
 have h5:=(b[5]'qn).toNat_lt
 have h6:=(b[6]'qn).toNat_lt
 have k4:UInt8.ofNat ((((b[4]'qn).toNat * 256+(b[5]'qn).toNat) * 256+(b[6]'qn).toNat) / 65536)=b[4]'qn:=by
  apply UInt8.toNat_inj.1;rw[Ky];omega
 have k5:UInt8.ofNat ((((b[4]'qn).toNat * 256+(b[5]'qn).toNat) * 256+(b[6]'qn).toNat) / 256)=b[5]'qn:=by
  apply UInt8.toNat_inj.1;rw[Ky];omega
 have k6:UInt8.ofNat (((b[4]'qn).toNat * 256+(b[5]'qn).toNat) * 256+(b[6]'qn).toNat)=b[6]'qn:=by
  apply UInt8.toNat_inj.1;rw[Ky];omega
 rw[k4,k5,k6]
 simp
theorem vniS (b:List UInt8) (hb:b.length<100000):Sy.Spec Tryz.prog 340 [.sl 1 Aj b] [] (.tup [Aa (vniT b).1,.sl 1 Aj (vniT b).2.1,Aa (vniT b).2.2]) []:=Ab Γ hm 100 F340 Tryz.ntmps340 rfl fun F hF=>by
 have hres:=vniT.eq_1 b
 generalize vniT b=res at *
 conv=>whnf
 refine⟨fun h=>?_,fun h=>?_⟩
 ·rw[if_pos (by have:=of_decide_eq_true h;omega)]at hres
  subst hres
  refine rg ?_;conv=>whnf
  refine An 3 1 Aj E ?_
  exact Ac E (.cons .tmp (.cons .tmp (.cons .tmp .nil))) E E
 have h8:8≤b.length:=by have:=of_decide_eq_false h;omega
 rw[if_neg qn]at hres
 clear h
 have i4:(4:Int).toNat<b.length:=by show 4<_;omega
 have i5:(5:Int).toNat<b.length:=by show 5<_;omega
 have i6:(6:Int).toNat<b.length:=by show 6<_;omega
 have hv:bits .or .i64 (bits .or .i64 (IntKind.i64.wrap ((IntKind.i64.wrap ((b[(4:Int).toNat]'i4).toNat:Int)) * 2 ^ min (Int.toNat 16) IntKind.i64.bits)) (IntKind.i64.wrap ((IntKind.i64.wrap ((b[(5:Int).toNat]'i5).toNat:Int)) * 2 ^ min (Int.toNat 8) IntKind.i64.bits))) (IntKind.i64.wrap ((b[(6:Int).toNat]'i6).toNat:Int))
   = (numAt b 4 3:Int):=by
  rw[Ani,Aig (show 4+3≤b.length by omega)]
  rfl
 have hvl:=Hg b 4 3
 refine rg ?_;conv=>whnf
 refine⟨E,by decide,i4,?_⟩
 conv=>whnf
 refine⟨by decide,?_⟩
 conv=>whnf
 refine⟨E,by decide,i5,?_⟩
 conv=>whnf
 refine⟨by decide,?_⟩
 conv=>whnf
 refine⟨E,by decide,i6,?_⟩
 conv=>whnf
 refine⟨qy,?_⟩
 rw[hv]
 generalize hvv:numAt b 4 3=v at *
 conv=>whnf
 by_cases h0:v=0
 ·rw[if_pos (.inl h0)]at hres
  subst hres
  have q:=Ake v (by rw[h0];decide)
  refine Ah q F309 E E E E E ?_
  (refine rg ?_;(conv=>whnf);refine aT ?_;refine rd qy ?_;conv=>whnf)
  refine⟨qy,?_⟩
  ((conv=>whnf);refine aT ?_;refine rg ?_;conv=>whnf)
  refine An 3 1 Aj E ?_
  exact Ac E (.cons .tmp (.cons .tmp (.cons .tmp .nil))) E E
 have q:=Apn v qn
 refine Ai (Ak [(0,55)] E F309 q E Y E ⟨.inr E,Y⟩) E E ?_
 refine As 55 E ?_
 (refine rg ?_;(conv=>whnf);refine aF ?_;refine rd qy ?_;conv=>whnf)
 refine Bn (E3 Γ.toTy (bs:=Ih v) E E E E E E E .sl) qy E ?_
 refine rd qy ?_;conv=>whnf
 refine Bn (Bc (lo:=0) (hi:=8) Γ.toTy E E E E (.inl ⟨E,E⟩) (.inr ⟨_,_,E,E⟩) qn h8) qy E ?_
 refine rd qy ?_;conv=>whnf
 refine Bn (E3 Γ.toTy (bs:=b.take 8) E E E E E E E .sl) qy E ?_
 refine rd qy ?_;conv=>whnf
 refine⟨qy,?_⟩
 conv=>whnf
 have hbe:=Am0 (Ih v) (b.take 8)
 rw[hbe]
 by_cases he:b.take 8=Ih v
 rotate_left
 ·rw[if_pos (.inr he)]at hres
  subst hres
  rw[decide_eq_false (fun e=>he e.symm)]
  refine⟨fun _=>?_,fun h=>absurd h qz⟩
  refine rg ?_;conv=>whnf
  refine An 3 1 Aj E ?_
  exact Ac E (.cons .tmp (.cons .tmp (.cons .tmp .nil))) E E
 rw[if_neg (fun h=>h.elim h0 (fun h2=>h2 he))]at hres
 subst hres
 rw[decide_eq_true he.symm]
 have etk:(b.take b.length).drop 8=b.drop 8:=by rw[List.take_length]
 refine⟨fun h=>absurd h qz,fun _=>?_⟩
 refine rg ?_;conv=>whnf
 refine Ai (Bc (lo:=8) (hi:=b.length) Γ.toTy E E E E (.inr ⟨_,_,E,E⟩) (.inl ⟨E,E⟩) h8 (Nat.le_refl _)) E E ?_
 refine rg ?_;conv=>whnf
 refine Ai (Ae Γ.toTy 45 E E E E E .nil .sl za (by simp;omega) (by simp;omega)) E E ?_
 refine As 45 E ?_
 refine rg ?_;conv=>whnf
 refine Ac E (.cons .tmp (.cons .tmp (.cons .tmp .nil))) ?_ E
 show SV.tup [_,.sl 1 Aj (b.drop 8),_]=SV.tup [_,.sl 1 Aj ([]++(b.take b.length).drop 8),_]
 rw[etk]
 rfl
theorem Alr (b:List UInt8) (hb:b.length<100000):Sy.Spec Tryz.prog 280 [.sl 1 Aj b] [] (.tup [Aa (vniT b).1,.sl 1 Aj (vniT b).2.1,Aa (vniT b).2.2]) []:=Ab Γ hm 100 F280 Tryz.ntmps280 rfl fun F hF=>by
 have hres:=vniT.eq_1 b
 generalize vniT b=res at *
 conv=>whnf
 refine⟨fun h=>?_,fun h=>?_⟩
 ·rw[if_pos (by have:=of_decide_eq_true h;omega)]at hres
  subst hres
  refine rg ?_;conv=>whnf
  refine An 3 1 Aj E ?_
  exact Ac E (.cons .tmp (.cons .tmp (.cons .tmp .nil))) E E
 have h8:8≤b.length:=by have:=of_decide_eq_false h;omega
 rw[if_neg qn]at hres
 clear h
 have hi:=Apm h8
 have i0:(0:Int).toNat<b.length:=by show 0<_;omega
 have i1:(1:Int).toNat<b.length:=by show 1<_;omega
 have i2:(2:Int).toNat<b.length:=by show 2<_;omega
 have i3:(3:Int).toNat<b.length:=by show 3<_;omega
 have i4:(4:Int).toNat<b.length:=by show 4<_;omega
 have i5:(5:Int).toNat<b.length:=by show 5<_;omega
 have i6:(6:Int).toNat<b.length:=by show 6<_;omega
 have i7:(7:Int).toNat<b.length:=by show 7<_;omega
 have hvn:=Aig (show 4+3≤b.length by omega)
 have e5:b[4+1]'qn=b[5]'qn:=rfl
 have e6:b[4+2]'qn=b[6]'qn:=rfl
 rw[e5,e6]at hvn
 have w:∀ x:UInt8,IntKind.i64.wrap (x.toNat:Int)=x.toNat∧x.toNat<256:=fun x=>by have:=x.toNat_lt;refine⟨?_,this⟩;rw[IntKind.wrap_i64];omega
 obtain ⟨w4,l4⟩:=w (b[4]'qn)
 obtain ⟨w5,l5⟩:=w (b[5]'qn)
 obtain ⟨w6,l6⟩:=w (b[6]'qn)
 have g0:b[(0:Int).toNat]'i0=b[0]'qn:=rfl
 have g1:b[(1:Int).toNat]'i1=b[1]'qn:=rfl
 have g2:b[(2:Int).toNat]'i2=b[2]'qn:=rfl
 have g3:b[(3:Int).toNat]'i3=b[3]'qn:=rfl
 have g4:b[(4:Int).toNat]'i4=b[4]'qn:=rfl
 have g5:b[(5:Int).toNat]'i5=b[5]'qn:=rfl
 have g6:b[(6:Int).toNat]'i6=b[6]'qn:=rfl
 have g7:b[(7:Int).toNat]'i7=b[7]'qn:=rfl
 have iz:∀ x:UInt8,(x.toNat:Int)≠0→¬ x=0:=fun x h e=>h (by rw[e];rfl)
 have iy:∀ x:UInt8,(x.toNat:Int)=0→x=0:=fun x h=>by apply UInt8.toNat_inj.1;show x.toNat=0;omega
 generalize b[0]'qn=x0 at *
 generalize b[1]'qn=x1 at *
 generalize b[2]'qn=x2 at *
 generalize b[3]'qn=x3 at *
 generalize b[4]'qn=x4 at *
 generalize b[5]'qn=x5 at *
 generalize b[6]'qn=x6 at *
 generalize b[7]'qn=x7 at *
 have hvv:(x4.toNat:Int) * 65536+(x5.toNat:Int) * 256+(x6.toNat:Int)=(numAt b 4 3:Int):=by rw[hvn];omega
 have hvl:=Hg b 4 3
 refine rg ?_;conv=>whnf
 refine⟨E,by decide,i4,?_⟩
 rw[g4]
 conv=>whnf
 rw[w4]
 refine⟨by unfold I64;omega,?_⟩
 conv=>whnf
 refine⟨E,by decide,i5,?_⟩
 rw[g5]
 conv=>whnf
 rw[w5]
 refine⟨by unfold I64;omega,?_⟩
 conv=>whnf
 refine⟨by unfold I64;omega,?_⟩
 conv=>whnf
 refine⟨E,by decide,i6,?_⟩
 rw[g6]
 conv=>whnf
 rw[w6]
 refine⟨by unfold I64;omega,?_⟩
 rw[hvv]
 generalize numAt b 4 3=v at *
 conv=>whnf
 refine⟨qy,?_⟩
 conv=>whnf
 refine⟨E,by decide,i0,?_⟩
 rw[g0]
 conv=>whnf
 refine⟨fun h=>?_,fun h=>?_⟩
 ·have hne:¬ x0=8:=fun e=>by rw[e]at h;revert h;decide
  rw[if_pos (.inr (fun e=>hne (hi.1 e).1))]at hres
  subst hres
  (refine rg ?_;(conv=>whnf);refine aT ?_;refine rg ?_;(conv=>whnf);refine aT ?_;refine rg ?_;(conv=>whnf);refine aT ?_;refine rg ?_;(conv=>whnf);refine aT ?_;refine rg ?_;(conv=>whnf);refine aT ?_;refine rg ?_;conv=>whnf)
  refine An 3 1 Aj E ?_
  exact Ac E (.cons .tmp (.cons .tmp (.cons .tmp .nil))) E E
 have c0:x0=8:=by
  have h2:(x0.toNat:Int)=8:=by simpa using h
  apply UInt8.toNat_inj.1;show x0.toNat=8;omega
 clear h
 refine rg ?_;conv=>whnf
 refine⟨E,by decide,i1,?_⟩
 rw[g1]
 conv=>whnf
 refine⟨fun h=>?_,fun h=>?_⟩
 ·rw[if_pos (.inr (fun e=>iz x1 (by simpa using h) (hi.1 e).2.1))]at hres
  subst hres
  (refine rg ?_;(conv=>whnf);refine aT ?_;refine rg ?_;(conv=>whnf);refine aT ?_;refine rg ?_;(conv=>whnf);refine aT ?_;refine rg ?_;(conv=>whnf);refine aT ?_;refine rg ?_;conv=>whnf)
  refine An 3 1 Aj E ?_
  exact Ac E (.cons .tmp (.cons .tmp (.cons .tmp .nil))) E E
 have c1:=iy x1 (by simpa using h)
 clear h
 refine rg ?_;conv=>whnf
 refine⟨E,by decide,i2,?_⟩
 rw[g2]
 conv=>whnf
 refine⟨fun h=>?_,fun h=>?_⟩
 ·rw[if_pos (.inr (fun e=>iz x2 (by simpa using h) (hi.1 e).2.2.1))]at hres
  subst hres
  (refine rg ?_;(conv=>whnf);refine aT ?_;refine rg ?_;(conv=>whnf);refine aT ?_;refine rg ?_;(conv=>whnf);refine aT ?_;refine rg ?_;conv=>whnf)
  refine An 3 1 Aj E ?_
  exact Ac E (.cons .tmp (.cons .tmp (.cons .tmp .nil))) E E
 have c2:=iy x2 (by simpa using h)
 clear h
 refine rg ?_;conv=>whnf
 refine⟨E,by decide,i3,?_⟩
 rw[g3]
 conv=>whnf
 refine⟨fun h=>?_,fun h=>?_⟩
 ·rw[if_pos (.inr (fun e=>iz x3 (by simpa using h) (hi.1 e).2.2.2.1))]at hres
  subst hres
  (refine rg ?_;(conv=>whnf);refine aT ?_;refine rg ?_;(conv=>whnf);refine aT ?_;refine rg ?_;conv=>whnf)
  refine An 3 1 Aj E ?_
  exact Ac E (.cons .tmp (.cons .tmp (.cons .tmp .nil))) E E
 have c3:=iy x3 (by simpa using h)
 clear h
 refine rg ?_;conv=>whnf
 refine⟨E,by decide,i7,?_⟩
 rw[g7]
 conv=>whnf
 refine⟨fun h=>?_,fun h=>?_⟩
 ·rw[if_pos (.inr (fun e=>iz x7 (by simpa using h) (hi.1 e).2.2.2.2))]at hres
  subst hres
  (refine rg ?_;(conv=>whnf);refine aT ?_;refine rg ?_;conv=>whnf)
  refine An 3 1 Aj E ?_
  exact Ac E (.cons .tmp (.cons .tmp (.cons .tmp .nil))) E E
 have c7:=iy x7 (by simpa using h)
 clear h
 have he:=hi.2 ⟨c0,c1,c2,c3,c7⟩
 refine rg ?_;conv=>whnf
 refine⟨fun h=>?_,fun h=>?_⟩
 ·rw[if_pos (.inl (by have:(v:Int)=0:=(by simpa using h);omega))]at hres
  subst hres
  refine rg ?_;conv=>whnf
  refine An 3 1 Aj E ?_
  exact Ac E (.cons .tmp (.cons .tmp (.cons .tmp .nil))) E E
 have h0:¬ v=0:=by
  have:¬ (v:Int)=0:=by simpa using h
  omega
 rw[if_neg (fun h=>h.elim h0 (fun h2=>h2 he))]at hres
 subst hres
 have etk:(b.take b.length).drop 8=b.drop 8:=by rw[List.take_length]
 refine rg ?_;conv=>whnf
 refine Ai (Bc (lo:=8) (hi:=b.length) Γ.toTy E E E E (.inr ⟨_,_,E,E⟩) (.inl ⟨E,E⟩) h8 (Nat.le_refl _)) E E ?_
 refine rg ?_;conv=>whnf
 refine Ai (Ae Γ.toTy 61 E E E E E (.lit (e:=Aj) (l:=[]) E E) .sl za (by simp;omega) (by simp;omega)) E E ?_
 refine As 61 E ?_
 refine rg ?_;conv=>whnf
 refine Ac E (.cons .tmp (.cons .tmp (.cons .tmp .nil))) ?_ E
 show SV.tup [_,.sl 1 Aj (b.drop 8),_]=SV.tup [_,.sl 1 Aj ([]++(b.take b.length).drop 8),_]
 rw[etk]
 rfl
theorem Ws (a c v:Nat) (f:FrameM) (h:f.body.length≤1450):ipPutT (M5 a c v f)=(Ur (M5 a c v f),0):=by
 rw[ipPutT,if_neg (by rw[H6];omega)]
theorem Xu (a b:Nat):udpPort a b≤65535:=by
 have:=Nat.mod_lt (a ^^^ b) (show 0<16384 by decide)
 unfold udpPort
 omega
theorem Afb (a c v:Nat) (f:FrameM) (ha:a<4294967296) (hc:c<4294967296) (h:f.body.length≤1450):FrameOK ⟨Es c,Es a,2048,Ur (M5 a c v f)⟩ :=
 ⟨Za c hc,Za a ha,by show (2048:Nat)≤65535;decide,by show (Ur (M5 a c v f)).length≤1504;rw[Oz,H6];omega⟩
theorem Aqw (a c:Nat) (v:Int) (f:FrameM) (ha:a<4294967296) (hc:c<4294967296) (hf:FrameOK f) :
  Sy.Spec Tryz.prog 253 [B6 a,B6 c,Aa v,Bh f] [] (.tup [.sl 1 Aj (wrapT a c v f).1,Aa (wrapT a c v f).2]) []:=Ab Γ hm 100 F253 Tryz.ntmps253 rfl fun F hF=>by
 have hres:=wrapT.eq_1 a c v f
 generalize wrapT a c v f=res at *
 have q0:=Ql f
 have hd:=hf.dst
 have hs:=hf.src
 have hb:=hf.body
 have hpl:=I9 f
 conv=>whnf
 refine Bg 7 4 (Bh f) E E E ?_
 by_cases ht:f.typ=33024
 ·rw[if_pos ht]at hres
  subst hres
  rw[decide_eq_true ht]at q0
  refine rg ?_;conv=>whnf
  refine Ah q0 F166 E E E E E ?_
  (refine rg ?_;(conv=>whnf);refine aT ?_;refine rg ?_;conv=>whnf)
  refine An 8 1 Aj E ?_
  exact Ac E (.cons .tmp (.cons .tmp .nil)) E E
 rw[if_neg ht]at hres
 rw[decide_eq_false ht]at q0
 refine rg ?_;conv=>whnf
 refine Ah q0 F166 E E E E E ?_
 (refine rg ?_;(conv=>whnf);refine aF ?_;refine rg ?_;conv=>whnf)
 refine Ai (Ak [(0,55)] E F33 (Qz f hf) E Y E ⟨.inr E,Y⟩) E E ?_
 refine As 55 E ?_
 (refine rg ?_;(conv=>whnf);refine aF ?_;refine rg ?_;conv=>whnf)
 cases hv:L9 v
 rotate_left
 ·rw[if_pos hv]at hres
  subst hres
  refine Ah (Ake v hv) F309 E E E E E ?_
  (refine rg ?_;(conv=>whnf);refine aT ?_;refine rg ?_;conv=>whnf)
  refine An 8 1 Aj E ?_
  exact Ac E (.cons .tmp (.cons .tmp .nil)) E E
 rw[if_neg (by rw[hv];decide)]at hres
 have hvg:=Ad0 hv
 obtain ⟨k,rfl⟩:=Int.eq_ofNat_of_zero_le (show 0≤v by omega)
 rw[Int.toNat_natCast]at hres
 refine Ai (Ak [(0,56)] E F309 (Apn k qn) E Y E ⟨.inr E,Y⟩) E E ?_
 (refine rg ?_;(conv=>whnf);refine aF ?_;refine rg ?_;conv=>whnf)
 refine⟨fun h=>?_,fun h=>?_⟩
 ·rw[if_pos (by have:=of_decide_eq_true h;omega)]at hres
  subst hres
  refine rg ?_;conv=>whnf
  refine An 8 1 Aj E ?_
  exact Ac E (.cons .tmp (.cons .tmp .nil)) E E
 have hl:f.body.length≤1450:=by have:=of_decide_eq_false h;omega
 rw[if_neg qn]at hres
 subst hres
 clear h
 have qp:=Ang f.dst f.src qn qn
 have hpo:=Xu f.dst f.src
 have qu:=Aqz (udpPort f.dst f.src) 4789 (Ih k++W5 f) hpo qz (by rw[List.length_append,Ed,hpl];omega)
 have hwb:(M5 a c k f).body=Aea (udpPort f.dst f.src) 4789 (Ih k++W5 f):=rfl
 have qi:=Akb (M5 a c k f) (Adx a c k f ha hc) (by rw[H6];omega)
 rw[Ws a c k f hl]at qi
 have qe:=Qz _ (Afb a c k f ha hc hl)
 refine rg ?_;conv=>whnf
 refine Ah qp F311 E E E E E ?_
 refine rg ?_;conv=>whnf
 refine Ai (Ae Γ.toTy 46 E E E E E (.row E) .sl qz (by rw[Ed,hpl];simp;omega) (by rw[Ed,hpl];omega)) E E ?_
 refine As 46 E ?_
 refine rg ?_;conv=>whnf
 refine Ah qu F310 E E E E E ?_
 refine rg ?_;conv=>whnf
 refine Ah qi F248 E E E E E ?_
 refine rg ?_;conv=>whnf
 refine Ah (Afy c hc) F244 E E E E E ?_
 refine rg ?_;conv=>whnf
 refine Ah (Afy a ha) F244 E E E E E ?_
 refine rg ?_;conv=>whnf
 refine Ai (Ak [(0,57)] E F33 qe E Y E ⟨.inr E,Y⟩) E E ?_
 refine As 57 E ?_
 refine rg ?_;conv=>whnf
 exact Ac E (.cons .tmp (.cons .tmp .nil)) E E
theorem Aht (a c:Nat) (v:Int) (f:FrameM) (ha:a<4294967296) (hc:c<4294967296) (hf:FrameOK f) :
  Sy.Spec Tryz.prog 222 [B6 a,B6 c,Aa v,Bh f] [] (.tup [.sl 1 Aj (wrapT a c v f).1,Aa (wrapT a c v f).2]) []:=Ab Γ hm 100 F222 Tryz.ntmps222 rfl fun F hF=>by
 have hres:=wrapT.eq_1 a c v f
 generalize wrapT a c v f=res at *
 have hd:=hf.dst
 have hs:=hf.src
 have hb:=hf.body
 have hpl:=I9 f
 conv=>whnf
 refine⟨fun h=>?_,fun h=>?_⟩
 ·rw[if_pos (by have:(f.typ:Int)=33024:=(by simpa using h);omega)]at hres
  subst hres
  refine rg ?_;conv=>whnf
  refine An 8 1 Aj E ?_
  exact Ac E (.cons .tmp (.cons .tmp .nil)) E E
 rw[if_neg (by have:¬ (f.typ:Int)=33024:=(by simpa using h);omega)]at hres
 clear h
 refine Bg 7 4 (Bh f) E E E ?_
 refine rg ?_;conv=>whnf
 refine Ai (Ak [(0,55)] E F220 (Qq f hf) E Y E ⟨.inr E,Y⟩) E E ?_
 refine As 55 E ?_
 (refine rg ?_;(conv=>whnf);refine aF ?_;refine rg ?_;conv=>whnf)
 cases hv:L9 v
 rotate_left
 ·rw[if_pos hv]at hres
  subst hres
  refine Ah (Acn v hv) F276 E E E E E ?_
  (refine rg ?_;(conv=>whnf);refine aT ?_;refine rg ?_;conv=>whnf)
  refine An 8 1 Aj E ?_
  exact Ac E (.cons .tmp (.cons .tmp .nil)) E E
 rw[if_neg (by rw[hv];decide)]at hres
 have hvg:=Ad0 hv
 obtain ⟨k,rfl⟩:=Int.eq_ofNat_of_zero_le (show 0≤v by omega)
 rw[Int.toNat_natCast]at hres
 refine Ai (Ak [(0,56)] E F276 (Ae0 k qn) E Y E ⟨.inr E,Y⟩) E E ?_
 (refine rg ?_;(conv=>whnf);refine aF ?_;refine rg ?_;conv=>whnf)
 refine⟨fun h=>?_,fun h=>?_⟩
 ·rw[if_pos (by have:=of_decide_eq_true h;omega)]at hres
  subst hres
  refine rg ?_;conv=>whnf
  refine An 8 1 Aj E ?_
  exact Ac E (.cons .tmp (.cons .tmp .nil)) E E
 have hl:f.body.length≤1450:=by have:=of_decide_eq_false h;omega
 rw[if_neg qn]at hres
 subst hres
 clear h
 have qp:=Ahv f.dst f.src qn qn
 have hpo:=Xu f.dst f.src
 have qu:=Als (udpPort f.dst f.src) 4789 (Ih k++W5 f) hpo qz (by rw[List.length_append,Ed,hpl];omega)
 have qi:=Aa2 (M5 a c k f) (Adx a c k f ha hc) (by rw[H6];omega)
 rw[Ws a c k f hl]at qi
 have qe:=Qq _ (Afb a c k f ha hc hl)
 refine rg ?_;conv=>whnf
 refine Ah qp F278 E E E E E ?_
 refine rg ?_;conv=>whnf
 refine Ai (Ae Γ.toTy 47 E E E E E (.row E) .sl qz (by rw[Ed,hpl];simp;omega) (by rw[Ed,hpl];omega)) E E ?_
 refine As 47 E ?_
 refine rg ?_;conv=>whnf
 refine Ah qu F277 E E E E E ?_
 refine rg ?_;conv=>whnf
 refine Ah qi F217 E E E E E ?_
 refine rg ?_;conv=>whnf
 refine Ah (Ol c hc) F213 E E E E E ?_
 refine rg ?_;conv=>whnf
 refine Ah (Ol a ha) F213 E E E E E ?_
 refine rg ?_;conv=>whnf
 refine Ai (Ak [(0,57)] E F220 qe E Y E ⟨.inr E,Y⟩) E E ?_
 refine As 57 E ?_
 refine rg ?_;conv=>whnf
 exact Ac E (.cons .tmp (.cons .tmp .nil)) E E
def Dk (p:PacketM) (v e:Int):List SV:=[Aa p.tos,Aa p.id,Aa p.ttl,Aa p.proto,B6 p.src,B6 p.dst,.sl 1 Aj p.body,Aa v,Aa e]
def C2 (is:Bool) (re e:Int):Int:=if is=true∧re=0 then e else re
theorem U2 (p:PacketM) (v re:Int) (is:Bool) (e:Int):Sy.Spec Tryz.prog 338 [.ptr 0 0,Ad is,Aa e] [(0,.box (Dk p v re))] (.tup []) [(0,.box (Dk p v (C2 is re e)))]:=Ab Γ hm 100 F338 Tryz.ntmps338 rfl fun F hF=>by
 cases is
 ·have h:C2 false re e=re:=by simp[C2]
  rw[h]
  ((conv=>whnf);refine aF ?_;refine rg ?_;(conv=>whnf);refine aF ?_;refine rg ?_;conv=>whnf)
  exact Bw E .nil [] [(0,.box (Dk p v re))] (fun _ h=>h) E E ⟨Y,⟨.inl E,E,Y⟩,E,E⟩
 ·((conv=>whnf);refine aT ?_;refine rg ?_;conv=>whnf)
  refine⟨fun h=>?_,fun h=>?_⟩
  ·have h2:C2 true re e=e:=by show (if true=true∧re=0 then e else re)=e;rw[if_pos ⟨rfl,by simpa using h⟩]
   rw[h2]
   refine rg ?_;conv=>whnf
   exact Bw E .nil [] [(0,.box (Dk p v e))] (fun _ h=>h) E E ⟨Y,⟨.inl E,E,Y⟩,E,E⟩
  ·have h2:C2 true re e=re:=by
    show (if true=true∧re=0 then e else re)=re
    rw[if_neg (fun h3=>by
     have h4:¬ re=0:=by simpa using h
     exact h4 h3.2)]
   rw[h2]
   refine rg ?_;conv=>whnf
   exact Bw E .nil [] [(0,.box (Dk p v re))] (fun _ h=>h) E E ⟨Y,⟨.inl E,E,Y⟩,E,E⟩
theorem Ard (b:List UInt8) (hb:b.length<100000):Sy.Spec Tryz.prog 316 [.ptr 0 0,.sl 1 Aj b] [(0,.box (Dk noP 0 0))] (.tup []) [(0,.box (Dk (outerT b).1 0 (outerT b).2))]:=Ab Γ hm 100 F316 Tryz.ntmps316 rfl fun F hF=>by
 have hres:=outerT.eq_1 b
 generalize outerT b=res at *
 have q1:=Tg b hb
 have hbad:=@takeF_bad b
 have hok:=@Aeb b
 generalize takeF b=tk at *
 obtain ⟨f,e⟩:=tk
 dsimp only at hres q1 hbad hok
 conv=>whnf
 refine Ah q1 F165 E E E E E ?_
 refine rg ?_;conv=>whnf
 refine Ai (Ak [(0,0)] E F338 (U2 noP 0 0 true e) E ⟨E,Y⟩ E ⟨.inl E,Y⟩) E E ?_
 rw[show C2 true 0 e=e by simp[C2]]
 refine rg ?_;conv=>whnf
 refine Ai (Ak [(0,0)] E F338 (U2 noP 0 e ((f.typ:Int) != 2048) 11) E ⟨E,Y⟩ E ⟨.inl E,Y⟩) E E ?_
 by_cases he:e=0
 rotate_left
 ·rw[if_pos he]at hres
  subst hres
  rw[show C2 ((f.typ:Int) != 2048) e 11=e by simp[C2,he]]
  refine rg ?_;conv=>whnf
  refine⟨fun h=>absurd (show e=0 by simpa using h) he,fun _=>?_⟩
  refine rg ?_;conv=>whnf
  exact Bw E .nil [] [(0,.box (Dk noP 0 e))] (fun _ h=>h) E E ⟨Y,⟨.inl E,E,Y⟩,E,E⟩
 subst he
 rw[if_neg za]at hres
 by_cases ht:f.typ=2048
 rotate_left
 ·rw[if_pos ht]at hres
  subst hres
  have hb2:((f.typ:Int) != 2048)=true:=by simp;omega
  rw[hb2,show C2 true 0 11=11 by simp[C2]]
  (refine rg ?_;(conv=>whnf);refine aF ?_;refine rg ?_;conv=>whnf)
  exact Bw E .nil [] [(0,.box (Dk noP 0 11))] (fun _ h=>h) E E ⟨Y,⟨.inl E,E,Y⟩,E,E⟩
 rw[if_neg (fun h=>h ht)]at hres
 have hb2:((f.typ:Int) != 2048)=false:=by simp;omega
 rw[hb2,show C2 false 0 11=0 by simp[C2]]
 have hfb:=(hok rfl).body
 have q2:=Aka f.body qn
 have hib:=@Asr f.body
 generalize ipTakeT f.body=ip at *
 obtain ⟨p,e2⟩:=ip
 dsimp only at hres q2 hib
 (refine rg ?_;(conv=>whnf);refine aT ?_;refine rg ?_;conv=>whnf)
 refine Ah q2 F245 E E E E E ?_
 refine rg ?_;conv=>whnf
 refine Ai (Ak [(0,0)] E F338 (U2 p 0 0 true e2) E ⟨E,Y⟩ E ⟨.inl E,Y⟩) E E ?_
 rw[show C2 true 0 e2=e2 by simp[C2]]
 refine rg ?_;conv=>whnf
 refine Ai (Ak [(0,0)] E F338 (U2 p 0 e2 ((p.proto:Int) != 17) 11) E ⟨E,Y⟩ E ⟨.inl E,Y⟩) E E ?_
 have hfin:res=(p,C2 ((p.proto:Int) != 17) e2 11):=by
  by_cases h2:e2=0
  ·subst h2
   rw[if_neg za]at hres
   rw[hres]
   simp only[C2]
   by_cases h3:p.proto=17
   ·rw[if_neg (by simp[h3]),if_neg (by simp[h3])]
   ·rw[if_pos h3,if_pos (by simp;omega)]
  ·rw[if_pos h2]at hres
   rw[hres,hib h2,show C2 ((noP.proto:Int) != 17) e2 11=e2 by simp[C2,h2]]
 rw[hfin]
 refine rg ?_;conv=>whnf
 exact Bw E .nil [] [(0,.box (Dk p 0 (C2 ((p.proto:Int) != 17) e2 11)))] (fun _ h=>h) E E ⟨Y,⟨.inl E,E,Y⟩,E,E⟩
def frameT (p:PacketM) (e:Int):FrameM × Int × Int :=
 if e≠0 then (noF,0,e) else if (udpTakeT p.body).2.2.2≠0 then (noF,0,(udpTakeT p.body).2.2.2) else if (udpTakeT p.body).2.1≠4789 then (noF,0,11)
 else if (vniT (udpTakeT p.body).2.2.1).2.2≠0 then (noF,(vniT (udpTakeT p.body).2.2.1).1,(vniT (udpTakeT p.body).2.2.1).2.2)
 else ((takeF (vniT (udpTakeT p.body).2.2.1).2.1).1,(vniT (udpTakeT p.body).2.2.1).1,
  if (takeF (vniT (udpTakeT p.body).2.2.1).2.1).2≠0 then (takeF (vniT (udpTakeT p.body).2.2.1).2.1).2 else if (takeF (vniT (udpTakeT p.body).2.2.1).2.1).1.typ=33024 then 15 else 0)
theorem frameS (p:PacketM) (e:Int) (hb:p.body.length<100000):Sy.Spec Tryz.prog 317 [.ptr 0 0] [(0,.box (Dk p 0 e))] (Bh (frameT p e).1) [(0,.box (Dk p (frameT p e).2.1 (frameT p e).2.2))]:=Ab Γ hm 100 F317 Tryz.ntmps317 rfl fun F hF=>by
 have hres:=frameT.eq_1 p e
 generalize frameT p e=res at *
 have q1:=Anf p.body hb
 have hul:=@Aqs p.body
 generalize udpTakeT p.body=u at *
 obtain ⟨u1,u2,u3,u4⟩:=u
 dsimp only at hres q1 hul
 have q2:=vniS u3 qn
 have hvl:=@vniT_body u3
 generalize vniT u3=w at *
 obtain ⟨w1,w2,w3⟩:=w
 dsimp only at hres q2 hvl
 have q3:=Tg w2 qn
 have hbad:=@takeF_bad w2
 generalize takeF w2=t at *
 obtain ⟨f,t2⟩:=t
 dsimp only at hres q3 hbad
 conv=>whnf
 refine⟨fun h=>?_,fun h=>?_⟩
 ·rw[if_pos (by simpa using h)]at hres
  subst hres
  refine rg ?_;conv=>whnf
  refine Av 2 zF E (.cons (.refl _) (.cons (.refl _) (.cons (.refl _) (.cons .nil .nil)))) ?_
  exact done E (.cons (.cell E E E E) .nil) [] [(0,.box (Dk p 0 e))] (fun _ h=>h) E E ⟨Y,⟨.inl E,E,Y⟩,E,E⟩
 have he:e=0:=by simpa using h
 clear h
 subst he
 rw[if_neg za]at hres
 refine rg ?_;conv=>whnf
 refine Ah q1 F339 E E E E E ?_
 refine rg ?_;conv=>whnf
 refine Ai (Ak [(0,0)] E F338 (U2 p 0 0 true u4) E ⟨E,Y⟩ E ⟨.inl E,Y⟩) E E ?_
 rw[show C2 true 0 u4=u4 by simp[C2]]
 refine rg ?_;conv=>whnf
 refine Ai (Ak [(0,0)] E F338 (U2 p 0 u4 (u2 != 4789) 11) E ⟨E,Y⟩ E ⟨.inl E,Y⟩) E E ?_
 by_cases h4:u4=0
 rotate_left
 ·rw[if_pos h4]at hres
  subst hres
  rw[show C2 (u2 != 4789) u4 11=u4 by simp[C2,h4]]
  refine rg ?_;conv=>whnf
  refine⟨fun h=>absurd (show u4=0 by simpa using h) h4,fun _=>?_⟩
  refine rg ?_;conv=>whnf
  refine⟨fun _=>?_,fun h=>absurd (show u4=0 by simpa using h) h4⟩
  refine rg ?_;conv=>whnf
  refine Av 2 zF E (.cons (.refl _) (.cons (.refl _) (.cons (.refl _) (.cons .nil .nil)))) ?_
  exact done E (.cons (.cell E E E E) .nil) [] [(0,.box (Dk p 0 u4))] (fun _ h=>h) E E ⟨Y,⟨.inl E,E,Y⟩,E,E⟩
 subst h4
 rw[if_neg za]at hres
 by_cases h2:u2=4789
 rotate_left
 ·rw[if_pos h2]at hres
  subst hres
  rw[show C2 (u2 != 4789) 0 11=11 by simp[C2,h2]]
  (refine rg ?_;(conv=>whnf);refine aF ?_;refine rg ?_;(conv=>whnf);refine aT ?_;refine rg ?_;conv=>whnf)
  refine Av 2 zF E (.cons (.refl _) (.cons (.refl _) (.cons (.refl _) (.cons .nil .nil)))) ?_
  exact done E (.cons (.cell E E E E) .nil) [] [(0,.box (Dk p 0 11))] (fun _ h=>h) E E ⟨Y,⟨.inl E,E,Y⟩,E,E⟩
 rw[if_neg (fun h=>h h2)]at hres
 rw[show C2 (u2 != 4789) 0 11=0 by simp[C2,h2]]
 (refine rg ?_;(conv=>whnf);refine aT ?_;refine rg ?_;conv=>whnf)
 refine Ah q2 F340 E E E E E ?_
 refine rg ?_;conv=>whnf
 refine Ai (Ak [(0,0)] E F338 (U2 p w1 0 true w3) E ⟨E,Y⟩ E ⟨.inl E,Y⟩) E E ?_
 rw[show C2 true 0 w3=w3 by simp[C2]]
 refine rg ?_;conv=>whnf
 refine⟨fun h=>?_,fun h=>?_⟩
 ·rw[if_pos (by simpa using h)]at hres
  subst hres
  refine rg ?_;conv=>whnf
  refine Av 2 zF E (.cons (.refl _) (.cons (.refl _) (.cons (.refl _) (.cons .nil .nil)))) ?_
  exact done E (.cons (.cell E E E E) .nil) [] [(0,.box (Dk p w1 w3))] (fun _ h=>h) E E ⟨Y,⟨.inl E,E,Y⟩,E,E⟩
 have h3:w3=0:=by simpa using h
 clear h
 subst h3
 rw[if_neg za]at hres
 refine rg ?_;conv=>whnf
 refine Ah q3 F165 E E E E E ?_
 refine rg ?_;conv=>whnf
 refine Ai (Ak [(0,0)] E F338 (U2 p w1 0 true t2) E ⟨E,Y⟩ E ⟨.inl E,Y⟩) E E ?_
 rw[show C2 true 0 t2=t2 by simp[C2]]
 refine rg ?_;conv=>whnf
 refine Ah (Ql f) F166 E E E E E ?_
 refine rg ?_;conv=>whnf
 refine Ai (Ak [(0,0)] E F338 (U2 p w1 t2 (decide (f.typ=33024)) 15) E ⟨E,Y⟩ E ⟨.inl E,Y⟩) E E ?_
 have hfin:C2 (decide (f.typ=33024)) t2 15=if t2≠0 then t2 else if f.typ=33024 then 15 else 0:=by
  by_cases k1:t2=0
  ·subst k1
   rw[if_neg za]
   by_cases k2:f.typ=33024<;>simp[C2,k2]
  ·rw[if_pos k1]
   simp[C2,k1]
 rw[← hfin]at hres
 subst hres
 refine rg ?_;conv=>whnf
 exact done E (.cons (.cell E E E E) .nil) [] [(0,.box (Dk p w1 (C2 (decide (f.typ=33024)) t2 15)))] (fun _ h=>h) E E ⟨Y,⟨.inl E,E,Y⟩,E,E⟩
theorem Ab7 (b:List UInt8):unwrapT b=if (frameT (outerT b).1 (outerT b).2).2.2≠0 then (0,0,0,noF,(frameT (outerT b).1 (outerT b).2).2.2)
  else ((outerT b).1.src,(outerT b).1.dst,(frameT (outerT b).1 (outerT b).2).2.1,(frameT (outerT b).1 (outerT b).2).1,0):=by
 unfold unwrapT
 generalize outerT b=o
 obtain ⟨p,e⟩:=o
 dsimp only
 by_cases he:e=0
 rotate_left
 ·rw[if_pos he]
  have h1:frameT p e=(noF,0,e):=by rw[frameT,if_pos he]
  rw[h1,if_pos he]
 subst he
 rw[if_neg za]
 unfold innerT frameT
 rw[if_neg (show ¬ (0:Int)≠0 by simp)]
 generalize udpTakeT p.body=u
 obtain ⟨u1,u2,u3,u4⟩:=u
 dsimp only
 by_cases h4:u4=0
 rotate_left
 ·rw[if_pos h4,if_pos h4,if_pos h4]
  dsimp only
  rw[if_pos h4]
 subst h4
 simp only[ne_eq,not_true_eq_false,if_false]
 by_cases h2:u2=4789
 rotate_left
 ·simp[h2]
 simp only[h2,not_true_eq_false,if_false]
 generalize vniT u3=w
 obtain ⟨w1,w2,w3⟩:=w
 dsimp only
 by_cases h3:w3=0
 rotate_left
 ·simp[h3]
 simp only[h3,not_true_eq_false,if_false]
 generalize takeF w2=t
 obtain ⟨f,t2⟩:=t
 dsimp only
 by_cases k1:t2=0
 ·by_cases k2:f.typ=33024<;>simp[k1,k2]
 ·simp[k1]
theorem Akv (b:List UInt8) (hb:b.length<100000) :
  Sy.Spec Tryz.prog 259 [.sl 1 Aj b] [] (.tup [B6 (unwrapT b).1,B6 (unwrapT b).2.1,Aa (unwrapT b).2.2.1,Bh (unwrapT b).2.2.2.1,Aa (unwrapT b).2.2.2.2]) []:=Ab Γ hm 100 F259 Tryz.ntmps259 rfl fun F hF=>by
 have hres:=Ab7 b
 generalize unwrapT b=res at *
 have q1:=Ard b hb
 have hol:=(Vr b).2
 generalize outerT b=o at *
 obtain ⟨p,e⟩:=o
 dsimp only at hres q1 hol
 have q2:=frameS p e qn
 generalize frameT p e=fr at *
 obtain ⟨f,v,e2⟩:=fr
 dsimp only at hres q2
 conv=>whnf
 refine Av 9 (Dk noP 0 0) E (.cons (.refl _) (.cons (.refl _) (.cons (.refl _) (.cons (.refl _) (.cons (.refl _) (.cons (.refl _) (.cons .nil (.cons (.refl _) (.cons (.refl _) .nil))))))))) ?_
 refine rg ?_;conv=>whnf
 refine Ai (Ak [(0,9)] E F316 q1 E ⟨E,Y⟩ E ⟨.inl E,Y⟩) E E ?_
 refine rg ?_;conv=>whnf
 refine Ai (Ak [(0,9)] E F317 q2 E ⟨E,Y⟩ E ⟨.inl E,Y⟩) E E ?_
 refine rg ?_;conv=>whnf
 refine⟨fun h=>?_,fun h=>?_⟩
 ·rw[if_pos (by simpa using h)]at hres
  subst hres
  refine rg ?_;conv=>whnf
  refine⟨qy,?_⟩
  conv=>whnf
  refine Av 5 zF E (.cons (.refl _) (.cons (.refl _) (.cons (.refl _) (.cons .nil .nil)))) ?_
  exact Ac E (.cons .tmp (.cons .tmp (.cons .tmp (.cons (.cell E E E E) (.cons .tmp .nil))))) E E
 rw[if_neg (by simpa using h)]at hres
 subst hres
 refine rg ?_;conv=>whnf
 refine⟨qy,?_⟩
 conv=>whnf
 exact Ac E (.cons .tmp (.cons .tmp (.cons .tmp (.cons (.cell E E E E) (.cons .tmp .nil))))) E E
theorem Uu (l:List Device) (p:Device→Bool) (f:FuncId) (first cap:List SV) (hc:(SV.clo (.func f) first cap).inn []=true) (hf:∀ x∈l,Jn Tryz.prog f (first++[Bt x]++cap) (Ad (p x))) (hl:Ar l) :
  Sy.Spec Tryz.prog 318 [.sl 5 Bt l,.clo (.func f) first cap] [] (Aa (Dh p l)) []:=Ab Γ hm 100 F318 Tryz.ntmps318 rfl fun F hF=>by
 unfold Ar at hl
 have hin:∀ x:Device,Co [] (first++[Bt x]++cap)=true:=fun x=>Dl hc rfl
 conv=>whnf
 refine A2 l.length (fun j=>Dd (fun _ x=>!(p x)) l j) (fun j=>[(0,.sl 5 Bt l),(1,.clo (.func f) first cap),(7,Aa l.length),(8,Aa j)]) (fun _=>[]) [] (A5 _ _) ⟨⟨E,E,Bo _,hc,E,E,E,E,Y⟩,Y,E,E⟩ ?_
 intro j hj hI
 refine rg ?_;conv=>whnf
 refine⟨fun h=>?_,fun h=>?_⟩
 ·have h:=of_decide_eq_true h
  have hj2:j<l.length:=by omega
  refine rg ?_;conv=>whnf
  refine⟨E,by omega,by omega,?_⟩
  conv=>whnf
  refine Ex (hf l[j] (List.getElem_mem hj2)) E E E (by simp only[hin];rfl) E E ?_
  refine rg ?_;conv=>whnf
  refine⟨fun h2=>?_,fun h2=>?_⟩
  ·refine rg ?_;conv=>whnf
   refine Ac E (.cons .tmp .nil) (congrArg Aa ?_) E
   exact C1 hj2 (fun i hi hij=>by simpa using hI i hi hij) h2
  ·refine rg ?_;conv=>whnf
   refine⟨by unfold I64;omega,?_⟩
   conv=>whnf
   exact Aw [] hI hj2 (A3 hI hj2 (by simp[h2])) ⟨⟨E,E,Bo _,hc,E,E,E,E,Y⟩,Y,E,E⟩
 ·have h:=of_decide_eq_false h
  refine rg ?_;conv=>whnf
  refine Ac E (.cons .tmp .nil) (congrArg Aa ?_) E
  exact Dc (fun i hi=>by simpa using hI i hi qn)
theorem Xl {n:Net} (hb:Ag n=true) {d:Int} (hd:DomIn n d):0≤(n.domains[d.toNat]'hd.2).dev∧(n.domains[d.toNat]'hd.2).dev.toNat<n.devices.length:=by
 simp only[Ag,Bool.and_eq_true]at hb
 have:=L7 hb.1.1.1.1.1.1.1.2 hd.2
 have:=Bd this
 omega
theorem Xq {n:Net} (hb:Ag n=true) {d:Int} (hd:DomIn n d):Er n d=(n.devices[(n.domains[d.toNat]'hd.2).dev.toNat]'(Xl hb hd).2).vtep:=by
 rw[Er,Ao hd.2,Ao (Xl hb hd).2]
theorem Tu {n:Net} (hm:n.Num) (hb:Ag n=true) {d:Int} (hd:DomIn n d):0≤Er n d∧Er n d<4294967296:=by
 rw[Xq hb hd]
 exact hm.vtep _ (List.getElem_mem _)
theorem Tb (n:Net) (hb:Ag n=true) (d:Int) (hd:DomIn n d):Sy.Spec Tryz.prog 254 [Ap n,Aa d] [] (B6 (Er n d)) []:=Ab Γ hm 100 F254 Tryz.ntmps254 rfl fun F hF=>by
 have hv:=Xq hb hd
 have h2:=Xl hb hd
 obtain ⟨x,hx⟩:∃ x,n.domains[d.toNat]'hd.2=x:=⟨_,rfl⟩
 rw[hx]at h2
 simp only[hx]at hv
 obtain ⟨y,hy⟩:∃ y,n.devices[x.dev.toNat]'h2.2=y:=⟨_,rfl⟩
 rw[hy]at hv
 rw[hv]
 conv=>whnf
 refine⟨E,hd.1,hd.2,?_⟩
 rw[hx]
 conv=>whnf
 refine⟨E,h2.1,h2.2,?_⟩
 rw[hy]
 conv=>whnf
 refine⟨qy,?_⟩
 conv=>whnf
 exact Ac E (.cons .tmp .nil) E E
theorem S3 (n:Net) (hb:Ag n=true) (d:Int) (hd:DomIn n d):Sy.Spec Tryz.prog 223 [Ap n,Aa d] [] (B6 (Er n d)) []:=Ab Γ hm 100 F223 Tryz.ntmps223 rfl fun F hF=>by
 have hv:=Xq hb hd
 have h2:=Xl hb hd
 obtain ⟨x,hx⟩:∃ x,n.domains[d.toNat]'hd.2=x:=⟨_,rfl⟩
 rw[hx]at h2
 simp only[hx]at hv
 obtain ⟨y,hy⟩:∃ y,n.devices[x.dev.toNat]'h2.2=y:=⟨_,rfl⟩
 rw[hy]at hv
 rw[hv]
 conv=>whnf
 refine⟨E,hd.1,hd.2,?_⟩
 rw[hx]
 conv=>whnf
 refine⟨E,h2.1,h2.2,?_⟩
 rw[hy]
 conv=>whnf
 refine⟨qy,?_⟩
 conv=>whnf
 exact Ac E (.cons .tmp .nil) E E
theorem Ain (n:Net) (hn:n.Fin) (hm0:n.Num) (dom peer:Int) (f:FrameM) (h:FrameOK f) :
  Sy.Spec Tryz.prog 178 [Ap n,Aa dom,Aa peer,Bh f] [] (.tup [.sl 1 Aj (meshT n dom peer f).1,Aa (meshT n dom peer f).2]) []:=Ab Γ hm 100 F178 Tryz.ntmps178 rfl fun F hF=>by
 have hres:=meshT.eq_1 n dom peer f
 generalize meshT n dom peer f=res at *
 have hr:=B5 n hn
 have hpS:=K0 peer n.domains.length
 have hdS:=K0 dom n.domains.length
 conv=>whnf
 refine Bg 4 8 (Ap n) E E E ?_
 refine Bg 7 4 (Bh f) E E E ?_
 refine rg ?_;conv=>whnf
 refine Ah hpS F250 E E E E E ?_
 cases hpl:Al peer n.domains.length
 ·rw[if_pos (.inl hpl)]at hres
  subst hres
  (refine rg ?_;(conv=>whnf);refine aT ?_;refine rg ?_;(conv=>whnf);refine aT ?_;refine rg ?_;(conv=>whnf);refine aT ?_;refine rg ?_;conv=>whnf)
  refine An 8 1 Aj E ?_
  exact Ac E (.cons .tmp (.cons .tmp .nil)) E E
 (refine rg ?_;(conv=>whnf);refine aF ?_;refine rg ?_;conv=>whnf)
 refine Ah hdS F250 E E E E E ?_
 cases hdl:Al dom n.domains.length
 ·rw[if_pos (.inr (.inl hdl))]at hres
  subst hres
  (refine rg ?_;(conv=>whnf);refine aT ?_;refine rg ?_;(conv=>whnf);refine aT ?_;refine rg ?_;conv=>whnf)
  refine An 8 1 Aj E ?_
  exact Ac E (.cons .tmp (.cons .tmp .nil)) E E
 (refine rg ?_;(conv=>whnf);refine aF ?_;refine rg ?_;conv=>whnf)
 refine Ah hr F67 E E E E E ?_
 cases hbn:Ag n
 ·rw[if_pos (.inr (.inr hbn))]at hres
  subst hres
  (refine rg ?_;(conv=>whnf);refine aT ?_;refine rg ?_;conv=>whnf)
  refine An 8 1 Aj E ?_
  exact Ac E (.cons .tmp (.cons .tmp .nil)) E E
 rw[if_neg (by simp[hbn,hpl,hdl])]at hres
 have hd:=Ev hdl
 have hp:=Ev hpl
 have hd0:=hd.1
 have hkd:=hd.2
 have e2:nth n.domains dom=n.domains[dom.toNat]:=Ao hkd
 have hpe:=hn.peers _ (List.getElem_mem hkd)
 have va:=Tu hm0 hbn hd
 have vb:=Tu hm0 hbn hp
 have qa:=Tb n hbn dom hd
 have qb:=Tb n hbn peer hp
 generalize Er n dom=a at *
 generalize Er n peer=c at *
 obtain ⟨a,rfl⟩:=Int.eq_ofNat_of_zero_le va.1
 obtain ⟨c,rfl⟩:=Int.eq_ofNat_of_zero_le vb.1
 rw[Int.toNat_natCast,Int.toNat_natCast]at hres
 obtain ⟨d,hdd⟩:∃ d,n.domains[dom.toNat]'hkd=d:=⟨_,rfl⟩
 rw[hdd]at e2 hpe
 rw[e2]at hres
 have qc:=D2 d.peers peer hpe
 have qw:=Aqw a c d.vni f qn qn h
 (refine rg ?_;(conv=>whnf);refine aF ?_;refine rg ?_;conv=>whnf)
 refine⟨E,hd0,hkd,?_⟩
 rw[hdd]
 conv=>whnf
 refine Ah qc F86 E E E E E ?_
 cases hi:inB d.peers peer
 ·rw[if_pos hi]at hres
  subst hres
  (refine rg ?_;(conv=>whnf);refine aT ?_;refine rg ?_;conv=>whnf)
  refine An 8 1 Aj E ?_
  exact Ac E (.cons .tmp (.cons .tmp .nil)) E E
 rw[if_neg (by rw[hi];decide)]at hres
 subst hres
 (refine rg ?_;(conv=>whnf);refine aF ?_;refine rg ?_;conv=>whnf)
 refine Au qa F254 E E E qy E ?_
 refine rd qy ?_;conv=>whnf
 refine Au qb F254 E E E qy E ?_
 refine rd qy ?_;conv=>whnf
 refine⟨E,hd0,hkd,?_⟩
 rw[hdd]
 conv=>whnf
 refine Au qw F253 E E E qy E ?_
 refine rd qy ?_;conv=>whnf
 refine⟨qy,?_⟩
 conv=>whnf
 exact Ac E (.cons .tmp (.cons .tmp .nil)) E E
theorem S4 (n:Net) (hn:n.Fin) (hm0:n.Num) (dom peer:Int) (f:FrameM) (h:FrameOK f) :
  Sy.Spec Tryz.prog 150 [Ap n,Aa dom,Aa peer,Bh f] [] (.tup [.sl 1 Aj (meshT n dom peer f).1,Aa (meshT n dom peer f).2]) []:=Ab Γ hm 100 F150 Tryz.ntmps150 rfl fun F hF=>by
 have hres:=meshT.eq_1 n dom peer f
 generalize meshT n dom peer f=res at *
 have hr:=Dq n hn
 have hpS:=A6 peer n.domains.length
 have hdS:=A6 dom n.domains.length
 conv=>whnf
 refine Bg 4 8 (Ap n) E E E ?_
 refine Bg 7 4 (Bh f) E E E ?_
 refine rg ?_;conv=>whnf
 refine Ah hr F74 E E E E E ?_
 cases hbn:Ag n
 ·rw[if_pos (.inr (.inr hbn))]at hres
  subst hres
  (refine rg ?_;(conv=>whnf);refine aT ?_;refine rg ?_;(conv=>whnf);refine aT ?_;refine rg ?_;(conv=>whnf);refine aT ?_;refine rg ?_;conv=>whnf)
  refine An 8 1 Aj E ?_
  exact Ac E (.cons .tmp (.cons .tmp .nil)) E E
 (refine rg ?_;(conv=>whnf);refine aF ?_;refine rg ?_;conv=>whnf)
 refine Ah hpS F35 E E E E E ?_
 cases hpl:Al peer n.domains.length
 ·rw[if_pos (.inl hpl)]at hres
  subst hres
  (refine rg ?_;(conv=>whnf);refine aT ?_;refine rg ?_;(conv=>whnf);refine aT ?_;refine rg ?_;conv=>whnf)
  refine An 8 1 Aj E ?_
  exact Ac E (.cons .tmp (.cons .tmp .nil)) E E
 (refine rg ?_;(conv=>whnf);refine aF ?_;refine rg ?_;conv=>whnf)
 refine Ah hdS F35 E E E E E ?_
 cases hdl:Al dom n.domains.length
 ·rw[if_pos (.inr (.inl hdl))]at hres
  subst hres
  (refine rg ?_;(conv=>whnf);refine aT ?_;refine rg ?_;conv=>whnf)
  refine An 8 1 Aj E ?_
  exact Ac E (.cons .tmp (.cons .tmp .nil)) E E
 rw[if_neg (by simp[hbn,hpl,hdl])]at hres
 have hd:=Ev hdl
 have hp:=Ev hpl
 have hd0:=hd.1
 have hkd:=hd.2
 have e2:nth n.domains dom=n.domains[dom.toNat]:=Ao hkd
 have hpe:=hn.peers _ (List.getElem_mem hkd)
 have va:=Tu hm0 hbn hd
 have vb:=Tu hm0 hbn hp
 have qa:=S3 n hbn dom hd
 have qb:=S3 n hbn peer hp
 generalize Er n dom=a at *
 generalize Er n peer=c at *
 obtain ⟨a,rfl⟩:=Int.eq_ofNat_of_zero_le va.1
 obtain ⟨c,rfl⟩:=Int.eq_ofNat_of_zero_le vb.1
 rw[Int.toNat_natCast,Int.toNat_natCast]at hres
 obtain ⟨d,hdd⟩:∃ d,n.domains[dom.toNat]'hkd=d:=⟨_,rfl⟩
 rw[hdd]at e2 hpe
 rw[e2]at hres
 have qc:=Et d.peers peer hpe
 have qw:=Aht a c d.vni f qn qn h
 (refine rg ?_;(conv=>whnf);refine aF ?_;refine rg ?_;conv=>whnf)
 refine⟨E,hd0,hkd,?_⟩
 rw[hdd]
 conv=>whnf
 refine Ah qc F142 E E E E E ?_
 cases hi:inB d.peers peer
 ·rw[if_pos hi]at hres
  subst hres
  (refine rg ?_;(conv=>whnf);refine aT ?_;refine rg ?_;conv=>whnf)
  refine An 8 1 Aj E ?_
  exact Ac E (.cons .tmp (.cons .tmp .nil)) E E
 rw[if_neg (by rw[hi];decide)]at hres
 subst hres
 (refine rg ?_;(conv=>whnf);refine aF ?_;refine rg ?_;conv=>whnf)
 refine Au qa F223 E E E qy E ?_
 refine rd qy ?_;conv=>whnf
 refine Au qb F223 E E E qy E ?_
 refine rd qy ?_;conv=>whnf
 refine⟨E,hd0,hkd,?_⟩
 rw[hdd]
 conv=>whnf
 refine Au qw F222 E E E qy E ?_
 refine rd qy ?_;conv=>whnf
 refine⟨qy,?_⟩
 conv=>whnf
 exact Ac E (.cons .tmp (.cons .tmp .nil)) E E
end Go.Sy.YtmelpejjondedaaGreat
