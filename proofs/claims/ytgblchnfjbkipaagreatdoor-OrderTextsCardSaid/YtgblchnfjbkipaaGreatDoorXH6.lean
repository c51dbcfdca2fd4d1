/-
  Sy31 Sy32 Sy33 S3 K1 K2 I16 I55 I17 I18 I19 I32 I33 I34 I35 E16 E17 E18 E20 E22 E23 E24 E25 E26 E27 E28 E30 E31 D3: parts of a proof, joined by program.
-/
import Derived.Test.YtgblchnfjbkipaaGreatDoorXH5
import Derived.Test.YtgblchnfjbkipaaGreatDoorXH3
import Derived.Test.YtgblchnfjbkipaaGreatDoorXH4
namespace Go.Sy
theorem J4 {P:Program} (Γ:Ty P) {o:Oper} {s:SS} {t:TypeId} {ti:TI} {et:TypeId} {len esz sz g:Nat} {y:Operand} {ik:IntKind} {n:Int} {z:SV} (k:Nat)
  (h:o.op=.indexAddr t (.global g) y) (ht:Γ.get t=some ti) (hk:ti.k=.array et len esz) (hb:s.h k=.glob sz z g) (hy:ev s y=.val (.int ik n)) (h0:0≤n) (hn:n.toNat<len) :
  Good P o s ⟨.ref sz z (n.toNat * esz),[k],[]⟩ :=
 Good.pure fun κ a w _ hr ho=>by
  have h1:=ho k qf
  have h2:=hr y (by simp[h,Op.operands])
  rw[hb]at h1
  rw[hy]at h2
  simp only[ObOK,Rd,RdD]at h1
  obtain ⟨b,oo,u,e1,e2,e3,e4,e5⟩:=h1
  obtain ⟨hu,i,q1,q2⟩:=Ul Γ ht hk
  simp only[Nat.add_zero,Value.pointer.injEq,Option.some.injEq,Addr.mk.injEq,and_true]at e1
  obtain ⟨rfl,rfl⟩:=e1
  refine⟨.pointer (some ⟨g,0+n.toNat * esz,none⟩),?_,?_⟩
  ·have hg:a.eval (.global g)=.pointer (some ⟨g,0,none⟩):=rfl
   simp only[execOp,h,hg,h2.val]
   simp[Jk w hu q1 q2 h0 hn]
  ·simp only[Rd,RdD]
   exact⟨g,0,u,q_,e2,e3,e4,e5⟩
theorem Ob.shp_glob {x:Ob} {sz g:Nat} {z:SV} (h:x.shp=(Ob.glob sz z g).shp):x=.glob sz z g:=by
 cases x<;>simp_all[Ob.shp]
theorem GoodX.glob {P:Program} (Γ:Ty P) {o:Oper} {s:SS} {t:TypeId} {ti:TI} {et:TypeId} {len esz sz g:Nat} {y:Operand} {ik:IntKind} {n:Int} {z:SV} (k:Nat)
  (h:o.op=.indexAddr t (.global g) y) (ht:Γ.get t=some ti) (hk:ti.k=.array et len esz) (hb:s.h k=.glob sz z g) (hy:ev s y=.val (.int ik n)) (h0:0≤n) (hn:n.toNat<len) :
  GoodX P o s ⟨.ref sz z (n.toNat * esz),[k],[]⟩ where
 good:=(J4 Γ k h ht hk hb hy h0 hn).two
 idx _:=⟨rfl,fun s' h1 h2=>J4 Γ k h ht hk (Ob.shp_glob ((h2 k qf).trans (congrArg Ob.shp hb))) ((h1 y (by simp[h,Op.operands])).trans hy) h0 hn⟩
 st hs:=by simp[I1,h]at hs
section
open Go.ChangeShapes Go.WideShapes Go.ChangeAt Go.RowKit
variable {H:Type} {enc:TypeId × Value→H} {P:Program}
end
end Go.Sy
namespace Go.Sy
theorem X0 {P:Program} {κ:Ka} {w:World} (hi:Inv κ w) {t ty e:TypeId} {i:TypeInfo} {z:Value} {sz:Nat} (ht:P.underlying t=some (.slice e)) (hinfo:P.info? e=some i) (hz:i.zero=some z) (hsz:i.size=sz) (hzs:z.cells.size=sz)
  {v:Value} {n m:Nat} {f g:Nat→SV→Prop} {k:Option Nat} {d:Nat} (hd:κ d=.new) (hb:Base κ w v n sz f k) {t2:TypeId} (ht2:P.underlying t2=some .string) {b0:ByteArray} (hbm:b0.size=m) (hs1:sz=1) (hsg:∀ j x,g j x→∃ h:j<b0.data.toList.length,x=.val (.int .u8 (b0.data.toList[j].toNat))) (h63:n+m≤9223372036854775807) (hbytes:(n+m) * i.bytes≤140737488355328) :
  ∃ v' w' κ',(Builtin.append_ #[t,t2] ty #[v,.string b0]).run P w=.ok v' w'∧Step (fun j=>k=some j∨j=d) κ w κ' w'∧Inv κ' w'∧Rd κ' w' (.osl d) v' ∧
   ((κ' d=.nil∧n+m=0)∨RowAt κ' w' d sz (n+m) (Z6 n f g)):=by
 obtain ⟨news,hnl,hn1,hnc,hng⟩:∃ (news:List Value),news.length=m * sz∧Ones news∧(∀ W:World,(∀ p:Addr,p.block<w.heap.size→W.cell? p=w.cell? p)→(Builtin.firstCells sz m (.string b0)).run P W=.ok news.toArray W) ∧
   (∀ j x,g j x→j<m∧∃ q:Value,RdD (Own κ) w x q∧q.cells.size=sz∧Ones q.cells.toList∧∀ l,l<sz→news[j * sz+l]? = q.cells[l]?):=by
  have hsz0:b0.data.toList.length=m:=by rw[← hbm];rfl
  refine⟨b0.data.toList.map fun c=>.int .u8 c.toNat,by rw[List.length_map,hs1,Nat.mul_one];exact hsz0,fun c hc=>?_,fun W _=>?_,fun j x hx=>?_⟩
  ·obtain ⟨b,_,rfl⟩:=List.mem_map.1 hc
   rfl
  ·have he:b0.extract 0 m=b0:=by rw[← hbm];exact ByteArray.extract_zero_size
   have e2:Array.map (fun b:UInt8=>Value.int .u8 b.toNat) b0.data=(List.map (fun b:UInt8=>Value.int .u8 b.toNat) b0.data.toList).toArray:=by apply Array.ext';simp
   simp[Builtin.firstCells,he,e2]
  ·obtain ⟨h,rfl⟩:=hsg j x hx
   refine⟨by omega,.int .u8 (b0.data.toList[j].toNat),by simp[RdD],by rw[hs1];rfl,fun c hc=>?_,fun l hl=>?_⟩
   ·simp[Value.cells]at hc;subst hc;rfl
   ·have hl0:l=0:=by omega
    subst hl0
    rw[hs1,Nat.mul_one,Nat.add_zero,List.getElem?_map,List.getElem?_eq_getElem h]
    simp[Value.cells]
 have hcap:∀ old,n+m≤grownCap w (n+m) old e:=fun old=>grownCap_ge w (n+m) old e
 have hfits:∀ old,old<n+m→¬ (281474976710656<Builtin.nextslicecap (n+m) old * i.bytes):=fun old ho=>by have:=growslice_fits ho hbytes;omega
 have newrow:∀ (olds:List Value) (old:Nat) (hol:olds.length=n * sz) (hof:∀ j x,f j x→j<n→∃ q:Value,RdD (Own κ) w x q∧q.cells.size=sz∧Ones q.cells.toList∧∀ l,l<sz→olds[j * sz+l]? = q.cells[l]?),
   let w':=w.drew.alloc (.cells (olds.toArray++news.toArray++Builtin.zeroCells z.cells (grownCap w (n+m) old e-(n+m))) e)
   let κ':=Dy (Lu κ k) d (.row w.heap.size (n+m) (grownCap w (n+m) old e))
   Step (fun j=>k=some j∨j=d) κ w κ' w'∧Inv κ' w'∧Rd κ' w' (.osl d) (.slice (some ⟨w.heap.size,0,none⟩) (n+m) (grownCap w (n+m) old e))∧RowAt κ' w' d sz (n+m) (Z6 n f g):=by
  intro olds old hol hof w' κ'
  have s1:=Er (κ:=κ) (w:=w) k
  have hdn:(Lu κ k) d=.new:=by
   cases k with
   | none=>exact hd
   | some k =>
    by_cases hkd:d=k
    ·exfalso
     subst hkd
     rcases hb with ⟨h,_⟩ | ⟨_,_,b,cap,h,_⟩<;>rw[hd]at h<;>cases h
    ·simp only[Lu];rw[B4 _ _ hkd];exact hd
  have g0:Grew w w':=(Grew.drew w).trans (Grew.alloc _ _)
  have s2:=Eg (Ht hi k) hdn (e:=.row w.heap.size (n+m) (grownCap w (n+m) old e)) g0 (fun b hb=>by
   simp only[Ent.block?,Option.some.injEq]at hb;subst hb;exact⟨Nat.le_refl _,by simp[w']⟩)
  have s3:Step (fun j=>k=some j∨j=d) κ w κ' w':=(s1.weaken (fun j hj=>.inl hj)).trans (s2.1.weaken (fun j hj=>.inr hj))
  refine⟨s3,s2.2,by simp[Rd,κ',Am],?_⟩
  refine⟨w.heap.size,grownCap w (n+m) old e,olds++news++(Builtin.zeroCells z.cells (grownCap w (n+m) old e-(n+m))).toList,e,(0,0),Am _ _ _,?_,NoFr.zero _,?_,hcap old,?_⟩
  ·have:w'.heap[w.heap.size]? = some (.cells (olds.toArray++news.toArray++Builtin.zeroCells z.cells (grownCap w (n+m) old e-(n+m))) e):=heap_alloc_new w.drew _
   rw[this]
   congr 2
   apply Array.ext'
   simp
  ·simp only[List.length_append,hol,hnl,Array.length_toList,Lt,hzs]
   rw[← Nat.add_mul,← Nat.add_mul]
   have:=hcap old
   rw[show n+m+(grownCap w (n+m) old e-(n+m))=grownCap w (n+m) old e from by omega]
   exact Nat.le_refl _
  ·rintro j x (⟨hj,hx⟩ | ⟨hj,hx⟩)
   ·obtain ⟨q,q1,q2,q3,q4⟩:=hof j x hx hj
    refine⟨by omega,q,RdD.keep s3.keeps _ _ q1,q2,q3,fun l hl=>?_⟩
    have:(j+1) * sz≤n * sz:=Nat.mul_le_mul_right sz j_
    rw[Nat.add_mul,Nat.one_mul]at this
    rw[List.append_assoc,List.getElem?_append_left j_,q4 l hl]
   ·obtain ⟨h0,q,q1,q2,q3,q4⟩:=hng _ x hx
    refine⟨by omega,q,RdD.keep s3.keeps _ _ q1,q2,q3,fun l hl=>?_⟩
    have e1:j * sz=n * sz+(j-n) * sz:=by rw[← Nat.add_mul];congr 1;omega
    have:(j-n+1) * sz≤m * sz:=Nat.mul_le_mul_right sz j_
    rw[Nat.add_mul,Nat.one_mul]at this
    rw[List.append_assoc,List.getElem?_append_right j_,List.getElem?_append_left j_,← q4 l hl]
    congr 1
    omega
 cases k with
 | none =>
  obtain ⟨rfl,rfl⟩:=hb
  by_cases hm:m=0
  ·subst hm
   have st:=Eg hi hd (e:=.nil) (Grew.refl w) (fun b hb=>by cases hb)
   refine⟨.slice none 0 0,w,Dy κ d .nil,?_,st.1.weaken (fun j hj=>.inr hj),st.2,by simp[Rd,Am],.inl ⟨Am _ _ _,q_⟩⟩
   have hc:=hnc w (fun _ _=>rfl)
   simp[Builtin.append_,run_underlying ht,run_underlying ht2,hbm,sizeOf,typeInfo,hinfo,hsz,Builtin.lenOf,hc]
  ·obtain ⟨q1,q2,q3,q4⟩:=newrow [] 0 qf (fun j x _ hj=>absurd hj j_)
   refine⟨_,_,_,?_,q1,q2,q3,.inr q4⟩
   have hc:=hnc w.drew (fun _ _=>rfl)
   have h48:=hfits 0 j_
   have h63':¬ (9223372036854775807<(m:Int)):=by omega
   simp only[Nat.zero_add]at h48 ⊢
   simp[Builtin.append_,run_underlying ht,run_underlying ht2,hbm,sizeOf,typeInfo,zeroValue,hinfo,hsz,hz,Builtin.lenOf,hm,h63',h48,Question.forced,run_firstCells_none,hc,newRow,grownCap]
 | some k =>
  rcases hb with ⟨hk,rfl,rfl⟩ | ⟨hrow,tot,b,cap,hk,rfl⟩
  ·by_cases hm:m=0
   ·subst hm
    have hkd:d≠k:=fun e=>by subst e;rw[hd]at hk;cases hk
    have st:=Eg (Ht hi (some k)) (by show Dy κ k .dead d=.new;rw[B4 _ _ hkd];exact hd) (e:=.nil) (Grew.refl w) (fun b hb=>by cases hb)
    refine⟨.slice none 0 0,w,_,?_,((Er (some k)).weaken (fun j hj=>.inl hj)).trans (st.1.weaken (fun j hj=>.inr hj)),st.2,by simp[Rd,Am],.inl ⟨Am _ _ _,q_⟩⟩
    have hc:=hnc w (fun _ _=>rfl)
    simp[Builtin.append_,run_underlying ht,run_underlying ht2,hbm,sizeOf,typeInfo,hinfo,hsz,Builtin.lenOf,hc]
   ·obtain ⟨q1,q2,q3,q4⟩:=newrow [] 0 qf (fun j x _ hj=>absurd hj j_)
    refine⟨_,_,_,?_,q1,q2,q3,.inr q4⟩
    have hc:=hnc w.drew (fun _ _=>rfl)
    have h48:=hfits 0 j_
    have h63':¬ (9223372036854775807<(m:Int)):=by omega
    simp only[Nat.zero_add]at h48 ⊢
    simp[Builtin.append_,run_underlying ht,run_underlying ht2,hbm,sizeOf,typeInfo,zeroValue,hinfo,hsz,hz,Builtin.lenOf,hm,h63',h48,Question.forced,run_firstCells_none,hc,newRow,grownCap]
  ·obtain ⟨b',cap',hk',hsrc⟩:=hrow.src tot
   rw[hk]at hk'
   cases hk'
   have hrow':=hrow
   obtain ⟨b',cap',cs,T,fr,e1,e2,e3,e4,e5,e6⟩:=hrow'
   rw[hk]at e1
   cases e1
   by_cases hroom:n+m≤cap
   ·have hkd:k≠d:=fun e=>by subst e;rw[hk]at hd;cases hd
    have hcs:(n+m) * sz≤cs.length:=Nat.le_trans (Nat.mul_le_mul_right sz hroom) e4
    rw[Nat.add_mul]at hcs
    obtain ⟨w',f1,f2,f3,f4,f5,f6,f7⟩:=D1 P b (n * sz) T fr news 0 cs w e2 e3 j_ hn1
    obtain ⟨st,inv⟩:=Ox (n':=n+m) hi hk hd f3 f4 f5 f6 f7
    refine⟨.slice (some ⟨b,0,none⟩) (n+m) cap,w',_,?_,st.weaken (fun j hj=>hj.imp (fun h=>by rw[h]) id),inv,by simp[Rd,Am],.inr ?_⟩
    ·have hc:=hnc w (fun _ _=>rfl)
     simp[Builtin.append_,run_underlying ht,run_underlying ht2,hbm,sizeOf,typeInfo,hinfo,hsz,Builtin.lenOf,hroom,hc,Addr.add_lit,f1]
    ·refine⟨b,cap,_,T,fr,Am _ _ _,by simpa using f2,by rw[Ck];exact e3,by rw[Ck];exact e4,hroom,?_⟩
     have hset:=M0 cs news (n * sz)
     rintro j x (⟨hj,hx⟩ | ⟨hj,hx⟩)
     ·obtain ⟨_,q,q1,q2,q3,q4⟩:=e6 j x hx
      refine⟨by omega,q,RdD.keep st.keeps _ _ q1,q2,q3,fun l hl=>?_⟩
      have:(j+1) * sz≤n * sz:=Nat.mul_le_mul_right sz j_
      rw[Nat.add_mul,Nat.one_mul]at this
      rw[hset _ j_,if_neg j_,q4 l hl]
     ·obtain ⟨h0,q,q1,q2,q3,q4⟩:=hng _ x hx
      refine⟨by omega,q,RdD.keep st.keeps _ _ q1,q2,q3,fun l hl=>?_⟩
      have e1:j * sz=n * sz+(j-n) * sz:=by rw[← Nat.add_mul];congr 1;omega
      have:(j-n+1) * sz≤m * sz:=Nat.mul_le_mul_right sz j_
      rw[Nat.add_mul,Nat.one_mul]at this
      rw[hset _ j_,if_pos j_,← q4 l hl]
      congr 1
      omega
   ·rcases hsrc with ⟨rfl,hno,a',c',he⟩ | ⟨b2,o2,c2,olds,he,g1,g2,g3,g4⟩
    ·obtain ⟨q1,q2,q3,q4⟩:=newrow [] cap qf (fun j x _ hj=>absurd hj j_)
     refine⟨_,_,_,?_,q1,q2,q3,.inr q4⟩
     have hc:=hnc w.drew (fun _ _=>rfl)
     have h48:=hfits cap j_
     have h63':¬ (9223372036854775807<(m:Int)):=by omega
     have hroom':¬ (m≤cap):=by omega
     have hfo:=run_firstCells_some (P:=P) w.drew sz 0 ⟨b,0,none⟩ 0 cap [] qf (fun j v hj=>by simp at hj)
     simp only[Nat.zero_add]at h48 ⊢
     simp[Builtin.append_,run_underlying ht,run_underlying ht2,hbm,sizeOf,typeInfo,zeroValue,hinfo,hsz,hz,Builtin.lenOf,hroom',h63',h48,Question.forced,hfo,hc,newRow,grownCap]
    ·cases he
     obtain ⟨q1,q2,q3,q4⟩:=newrow olds cap g1 (fun j x hx hj=>(g4 j x hx).2)
     refine⟨_,_,_,?_,q1,q2,q3,.inr q4⟩
     have hc:=hnc w.drew (fun _ _=>rfl)
     have h48:=hfits cap j_
     have h63':¬ (9223372036854775807<(n:Int)+(m:Int)):=by omega
     have hfo:=run_firstCells_some (P:=P) w.drew sz n ⟨b,0,none⟩ n cap olds g1 (fun j v hj=>by
      have:=g3 j v hj
      rw[Addr.add_lit];simpa using this)
     simp[Builtin.append_,run_underlying ht,run_underlying ht2,hbm,sizeOf,typeInfo,zeroValue,hinfo,hsz,hz,Builtin.lenOf,hroom,h63',h48,Question.forced,hfo,hc,newRow,grownCap]
     congr 2
     apply Array.ext'
     simp[List.append_assoc]
theorem Xp {P:Program} (Γ:Ty P) {o:Oper} {s:SS} (d:Nat) {l:List UInt8} {b:ByteArray} {t t2:TypeId} {ti ti2:TI} {et:TypeId} {eb:Nat} {ez:List Value} {x y:Operand} {k:Option Nat}
  (h:o.op=.call ⟨.builtin .append,#[x,y],#[t,t2]⟩) (hd:s.h d=.fresh) (ht:Γ.get t=some ti) (hk:ti.k=.slice et 1 eb ez) (hez:ez.length=1) (ht2:Γ.get t2=some ti2) (hk2:ti2.k=.string)
  (hb:BaseT s 1 Ak (ev s x) k l) (hy:ev s y=.val (.string b)) (hkk:∀ j,k=some j→j≠d) (hbytes:(l.length+b.size) * eb≤140737488355328) (h63:l.length+b.size≤9223372036854775807) :
  Good P o s ⟨.osl d,[],He k d (.row 1 Ak (l++b.data.toList))⟩:=by
 obtain ⟨f,hb,hf⟩:=hb.base
 intro κ a w hi hr ho N Q hN
 have h1:=hr x (by simp[h,Op.operands,Call.operands])
 have h2:=hr y (by simp[h,Op.operands,Call.operands])
 rw[hy]at h2
 have hws:∀ j,j∈(Up.mk (.osl d) [] (He k d (.row 1 Ak (l++b.data.toList)))).ws↔(k=some j∨j=d):=by
  intro j
  cases k<;>simp[Up.ws,He,eq_comm]
 have hnew:κ d=.new:=by have:=ho d (.inr ((hws d).2 (.inr rfl)));rwa [hd]at this
 obtain ⟨hu,i,z,q1,q2,q3,q4,q5⟩:=Dg Γ ht hk
 have hzs:z.cells.size=1:=by rw[← hez,← q5];simp
 have hu2:P.underlying t2=some .string:=by
  obtain ⟨dd,info,zz,k1,k2,_⟩:=Γ.ok t2 ti2 ht2
  rw[hk2]at k2
  simp only[TK.ok]at k2
  subst k2
  exact k1
 obtain ⟨v',w',κ',r1,r2,r3,r4,r5⟩:=X0 (P:=P) (ty:=o.type) (g:=rowF Ak b.data.toList) hi hu q1 q4 q2 hzs hnew (hb.base h1 (fun j hj=>ho j (.inr ((hws j).2 (.inl hj))))) hu2 (rfl:b.size=b.size) rfl
  (fun j x hx=>hx) h63 (by rw[q3];exact hbytes)
 have hrun:(execOp a.eval o).run P w=.ok (.value v') w':=by
  simp[execOp,h,h2.val,resolve,invoke,builtin,r1]
 simp only[Oper.wp,hrun,Oper.upon]
 refine hN v' κ' w' (r2.weaken (fun j hj=>(hws j).2 hj)) r3 r4 (fun p hp=>?_)
 have hfin:ObOK κ' w' d (.row 1 Ak (l++b.data.toList)):=Z5 r5 (by rw[List.length_append];rfl) (Yg hf (fun _ _ h=>h))
 cases k with
 | none =>
  simp only[He,List.mem_singleton]at hp
  subst hp
  exact hfin
 | some k =>
  simp only[He,List.mem_cons,List.not_mem_nil,or_false]at hp
  rcases hp with rfl | rfl
  ·trivial
  ·exact hfin
theorem An {C:Cx} {k:List KI} {s:SS} (d:Nat) (l':List SV) {l:List SV} (h:s.h d=.box l) (hv:VwL s [] l l') (hg:G C k ⟨s.σ,upd s.h d (.box l')⟩):G C k s:=fun κ a w hs =>
 hg κ a w ⟨hs.defers,hs.size,hs.inv,hs.ctx,hs.slot,fun i=>by
  show ObOK κ w i (upd s.h d (.box l') i)
  by_cases hi:i=d
  ·subst hi
   rw[Cd]
   have:=hs.obj i
   rw[h]at this
   obtain ⟨b,cs,T,fr,e1,e2,e3,e4,e5⟩:=this
   exact⟨b,cs,T,fr,e1,e2,e3,e4,VwL.rd hs.inv (fun _ hn=>by cases hn) hv e5⟩
  ·rw[C6 _ _ hi];exact hs.obj i⟩
end Go.Sy
namespace Go.Sy.YtgblchnfjbkipaaGreatDoor
open Go.Proofs
attribute [local irreducible] Go.Sy.G Go.Sy.DR
set_option maxRecDepth 100000
set_option maxHeartbeats 4000000
theorem Ql (l:List Int) (hl:l.length<2147483648):Sy.Spec Tryz.prog 99 [.sl 1 Aa l] [] (.sl 1 Aa l) []:=cT F99 Tryz.ntmps99 fun F hF=>by
 conv=>whnf
 refine Acs q_ (.inl q_) q_ q_ q_ .sl q_ q_ ?_
 intro b hb
 cases b
 ·refine oF ?_
  refine Cq (Ai Γ.toTy 7 q_ q_ q_ q_ q_ (.lit (e:=Aa) (l:=[]) q_ q_) .sl qf (by simp;omega) (by simp;omega)) q_ q_ ?_
  refine A5 7 q_ ?_
  refine oO ?_
  exact dN
 ·have h0:l=[]:=List.eq_nil_of_length_eq_zero (hb rfl)
  subst h0
  refine oT ?_
  refine Bm 2 1 Aa q_ ?_
  exact dN
theorem Afb (l:List Int) (hl:l.length<2147483648):Sy.Spec Tryz.prog 100 [.sl 1 A0 l] [] (.sl 1 A0 l) []:=cT F100 Tryz.ntmps100 fun F hF=>by
 conv=>whnf
 refine Acs q_ (.inl q_) q_ q_ q_ .sl q_ q_ ?_
 intro b hb
 cases b
 ·refine oF ?_
  refine Cq (Ai Γ.toTy 7 q_ q_ q_ q_ q_ (.lit (e:=A0) (l:=[]) q_ q_) .sl qf (by simp;omega) (by simp;omega)) q_ q_ ?_
  refine A5 7 q_ ?_
  refine oO ?_
  exact dN
 ·have h0:l=[]:=List.eq_nil_of_length_eq_zero (hb rfl)
  subst h0
  refine oT ?_
  refine Bm 2 1 A0 q_ ?_
  exact dN
theorem Wp (l:List UInt8) (h:l.length≤6):Sy.Spec Tryz.prog 357 [.sl 1 Ak l] [] (Bh (S8 l)) []:=cT F357 Tryz.ntmps357 fun F hF=>by
 conv=>whnf
 refine Dk l.length (fun j=>[(0,.sl 1 Ak l),(3,Bh (S8 (l.take j))),(4,Aa j)]) (fun _=>[]) [] ⟨⟨q_,q_,q_,q_,q_,q_,z_⟩,z_,q_,q_⟩ ?_
 intro j hj
 have hlt2:=Acr _ (l.take j) rfl
 refine oO ?_
 refine⟨fun h2=>?_,fun h2=>?_⟩
 ·have hlt:j<l.length:=by have:=of_decide_eq_true h2;omega
  have hj0:((j:Nat):Int).toNat<l.length:=by simpa using hlt
  have hs:=Adi l hlt
  have hll:(l.take j).length=j:=by rw[List.length_take];omega
  rw[hll]at hlt2
  have h5:S8 (l.take j)<1099511627776:=Nat.lt_of_lt_of_le hlt2 (by
   have:(256:Nat) ^ j≤256 ^ 5:=Nat.pow_le_pow_right qe j_
   exact this)
  obtain ⟨c,hc⟩:∃ c,l[((j:Nat):Int).toNat]'hj0=c:=⟨_,rfl⟩
  have hc':l[j]=c:=hc
  rw[hc']at hs
  have hcn:=c.toNat_lt
  generalize S8 (l.take j)=m at *
  refine oO ?_
  refine⟨q_,by omega,hj0,?_⟩
  rw[hc]
  conv=>whnf
  refine iW ?_
  refine Dr [] hlt ⟨⟨q_,q_,congrArg (fun z:Int=>SV.val (.int .u64 z)) ?_,q_,q_,q_,z_⟩,z_,q_,q_⟩
  rw[hs,IntKind.wrap_u64,IntKind.wrap_u64,IntKind.wrap_u64]
  omega
 ·have hje:j=l.length:=by have:=of_decide_eq_false h2;omega
  subst hje
  rw[List.take_length]
  refine oO ?_
  exact dN
theorem macGroupSb (m:Nat) (h:m<18446744073709551616):Sy.Spec Tryz.prog 292 [Bh m] [] (Af (Js m)) []:=cT F292 Tryz.ntmps292 fun F hF=>by
 have e:=V3 m h
 conv=>whnf
 refine Bv q_ (.cons .tmp .nil) ?_ q_
 exact congrArg Af e.symm
theorem Ym (m:Nat) (h:m<18446744073709551616):Sy.Spec Tryz.prog 309 [Bh m] [] (Af (Js m)) []:=cT F309 Tryz.ntmps309 fun F hF=>by
 have e:=Ahm m
 have hl:(be 6 m).length=6:=H8 m 6
 have h0:(0:Int).toNat<(be 6 m).length:=by rw[hl];decide
 have hg:(be 6 m)[(0:Int).toNat]'h0=UInt8.ofNat (m / 256 ^ 5):=rfl
 conv=>whnf
 refine Cq (Ae [(0,4)] q_ F356 (Acf m h) q_ z_ q_ ⟨.inr q_,z_⟩) q_ q_ ?_
 refine A5 4 q_ ?_
 refine oO ?_
 refine⟨q_,by decide,h0,?_⟩
 rw[hg]
 conv=>whnf
 refine⟨by decide,?_⟩
 conv=>whnf
 refine Bv q_ (.cons .tmp .nil) ?_ q_
 refine congrArg Af ?_
 rw[← e,Bool.eq_iff_iff]
 rw[Int.tmod_eq_emod_of_nonneg j_]
 simp
 omega
def Ls (i:Nat) (c:UInt8):Bool:=letB c || (Cc c && decide (i≠0))
theorem Ag2 (s:ByteArray):nameB s=(I5 Ls s.data.toList && (decide (0<s.size) && decide (s.size≤12))):=by
 have hsz:s.data.toList.length=s.size:=rfl
 rw[nameB,← hsz]
 cases hl:s.data.toList with
 | nil=>rfl
 | cons c l =>
  have e:I5 Ls (c::l)=(letB c && l.all fun c=>letB c || Cc c):=by
   rw[Bool.eq_iff_iff,allB_iff,Bool.and_eq_true,List.all_eq_true]
   constructor
   ·intro h
    refine⟨by have:=h 0 qf;simpa [Ls] using this,fun x hx=>?_⟩
    obtain ⟨i,hi,rfl⟩:=List.mem_iff_getElem.1 hx
    have:=h (i+1) (by simp;omega)
    simpa [Ls] using this
   ·rintro ⟨h1,h2⟩ i hi
    cases i with
    | zero=>simp[Ls,h1]
    | succ i =>
     have:=h2 (l[i]'(by simp at hi;omega)) (List.getElem_mem _)
     simpa [Ls] using this
  rw[e,Ag1]
  simp
theorem E8 (s:ByteArray) (hs:s.size≤1000000):Sy.Spec Tryz.prog 235 [Ab s] [] (Af (nameB s)) []:=cT F235 Tryz.ntmps235 fun F hF=>by
 have hsz:s.data.toList.length=s.size:=rfl
 have hw:=Ag2 s
 obtain ⟨r,hr⟩:∃ r,nameB s=r:=⟨_,rfl⟩
 rw[hr]at hw ⊢
 refine T ?_
 refine B3 s.size (fun j=>J1 Ls s.data.toList j) (fun j=>[(0,Ab s),(7,Aa s.size),(8,Aa j)]) (fun _=>[]) [] (Cz _ _) U ?_
 intro j hj hI
 refine T ?_
 refine⟨fun h=>?_,fun h=>?_⟩
 ·have hlt:j<s.data.toList.length:=qA h
  have hb:Ad s j=s.data.toList[j]:=Dj hlt
  have hno:=fun h=>D5 (p:=Ls) hlt h
  have hnx:=fun h=>Ce (p:=Ls) hI hlt h
  rw[← hb]at hno hnx
  clear h
  have hx:Ls j (Ad s j)=((decide (97≤(Ad s j).toNat) && decide ((Ad s j).toNat≤122)) || ((decide (48≤(Ad s j).toNat) && decide ((Ad s j).toNat≤57)) && decide (j≠0))):=rfl
  rcases (by omega:(Ad s j).toNat<48∨(48≤(Ad s j).toNat∧(Ad s j).toNat≤57)∨(57<(Ad s j).toNat∧(Ad s j).toNat<97)∨(97≤(Ad s j).toNat∧(Ad s j).toNat≤122)∨122<(Ad s j).toNat) with h | h | h | h | h
  ·rw[hno (by rw[hx,decide_eq_false (by omega:¬ 97≤(Ad s j).toNat),decide_eq_false (by omega:¬ 48≤(Ad s j).toNat)];rfl),Bool.false_and]at hw
   subst hw
   refine T ?_
   exact D
  ·by_cases h0:j=0
   ·subst h0
    rw[hno (by rw[hx,decide_eq_false (by omega:¬ 97≤(Ad s 0).toNat)];simp),Bool.false_and]at hw
    subst hw
    refine T ?_
    exact D
   ·refine T ?_
    exact B5 [] hI j_ (hnx (by rw[hx];simp[h,h0])) U
  ·rw[hno (by rw[hx,decide_eq_false (by omega:¬ 97≤(Ad s j).toNat),decide_eq_false (by omega:¬ (Ad s j).toNat≤57)];simp),Bool.false_and]at hw
   subst hw
   refine T ?_
   exact D
  ·refine T ?_
   exact B5 [] hI j_ (hnx (by rw[hx];simp[h])) U
  ·rw[hno (by rw[hx,decide_eq_false (by omega:¬ (Ad s j).toNat≤122),decide_eq_false (by omega:¬ (Ad s j).toNat≤57)];simp),Bool.false_and]at hw
   subst hw
   refine T ?_
   exact D
 ·have hje:j=s.size:=qB h
  subst hje
  rw[Mr hI (Nat.le_refl _),Bool.true_and]at hw
  clear h
  subst hw
  by_cases h0:0<s.size
  ·refine T ?_
   refine⟨fun _=>?_,fun h=>absurd (of_decide_eq_false h) j_⟩
   refine T ?_
   refine Bv q_ (.cons .tmp .nil) (congrArg Af ?_) q_
   rw[decide_eq_true h0,Bool.true_and]
   exact decide_eq_decide.2 j_
  ·rw[decide_eq_false h0,Bool.false_and]
   refine T ?_
   exact D
theorem Vr (c:UInt8):Sy.Spec Tryz.prog 290 [Ak c] [] (Bh (digI c)) []:=cT F290 Tryz.ntmps290 fun F hF=>by
 have hres:=digI.eq_1 c
 generalize digI c=res at *
 have hcn:=c.toNat_lt
 rcases (by omega:c.toNat<48∨(48≤c.toNat∧c.toNat≤57)∨(57<c.toNat∧c.toNat<97)∨(97≤c.toNat∧c.toNat≤102)∨102<c.toNat) with h | h | h | h | h
 ·rw[if_neg j_,if_neg j_]at hres
  subst hres
  refine T ?_
  exact D
 ·rw[if_pos j_]at hres
  subst hres
  refine T ?_
  refine Bv q_ (.cons .tmp .nil) ?_ q_
  refine congrArg (fun z=>SV.val (.int .u64 z)) (?_:_=IntKind.u64.wrap (IntKind.u8.wrap ((c.toNat:Int)-48)))
  rw[IntKind.wrap_u8,IntKind.wrap_u64];omega
 ·rw[if_neg j_,if_neg j_]at hres
  subst hres
  refine T ?_
  exact D
 ·rw[if_neg j_,if_pos j_]at hres
  subst hres
  refine T ?_
  refine Bv q_ (.cons .tmp .nil) ?_ q_
  refine congrArg (fun z=>SV.val (.int .u64 z)) (?_:_=IntKind.u64.wrap (IntKind.u64.wrap (IntKind.u8.wrap ((c.toNat:Int)-97))+10))
  rw[IntKind.wrap_u8,IntKind.wrap_u64,IntKind.wrap_u64];omega
 ·rw[if_neg j_,if_neg j_]at hres
  subst hres
  refine T ?_
  exact D
theorem Md {s:ByteArray}:∀ {j:Nat},(∀ i,i<j→Eb s i=true)→0≤Ko s j∧Ko s j<256 ^ j
 | 0,_=>by simp[Ko]
 | j+1,h=>by
  have ih:=Md (s:=s) (j:=j) (fun i hi=>h i j_)
  have hj:=h j j_
  simp only[Eb,Bool.and_eq_true,decide_eq_true_eq]at hj
  have d1:=S4 (Ad s (3 * j))
  have d2:=S4 (Ad s (3 * j+1))
  rw[Ko,Int.pow_succ]
  omega
theorem Ag3 (m a b:Nat) (hm:m<72057594037927936) (ha:a<16) (hb:b<16):bits .or .u64 (bits .or .u64 (IntKind.u64.wrap ((m:Int) * 2 ^ min (Int.toNat 8) IntKind.u64.bits)) (IntKind.u64.wrap ((a:Int) * 2 ^ min (Int.toNat 4) IntKind.u64.bits))) (b:Int)=((m * 256+a * 16+b:Nat):Int):=by
 have e1:IntKind.u64.wrap ((m:Int) * 2 ^ min (Int.toNat 8) IntKind.u64.bits)=((m * 256:Nat):Int):=by
  show IntKind.u64.wrap ((m:Int) * 256)=_
  rw[IntKind.wrap_u64];omega
 have e2:IntKind.u64.wrap ((a:Int) * 2 ^ min (Int.toNat 4) IntKind.u64.bits)=((a * 16:Nat):Int):=by
  show IntKind.u64.wrap ((a:Int) * 16)=_
  rw[IntKind.wrap_u64];omega
 have o1:=Nat.two_pow_add_eq_or_of_lt (i:=8) (b:=a * 16) j_ m
 have o2:=Nat.two_pow_add_eq_or_of_lt (i:=4) (b:=b) j_ (m * 16+a)
 have f1:m * 256 ||| a * 16=m * 256+a * 16:=by rw[Nat.mul_comm m 256];exact o1.symm
 have f2:(m * 256+a * 16) ||| b=m * 256+a * 16+b:=by
  have e:m * 256+a * 16=2 ^ 4 * (m * 16+a):=by omega
  rw[e];exact o2.symm
 rw[e1,e2,bits_or_u64_nat _ _ j_ j_,f1,bits_or_u64_nat _ _ j_ j_,f2]
theorem macR_no {s:ByteArray} {j:Nat} (hj:j<6) (h:Eb s j=false):macR s=(0,false):=by
 rw[macR,if_neg]
 rintro ⟨_,h2⟩
 rw[List.all_eq_true]at h2
 rw[h2 j (List.mem_range.2 hj)]at h;cases h
theorem Ag5 (s:ByteArray) (hs:s.size≤1000000):Sy.Spec Tryz.prog 237 [Ab s] [] (.tup [Bh (macR s).1,Af (macR s).2]) []:=cT F237 Tryz.ntmps237 fun F hF=>by
 have hno:=@macR_no s
 have hyes:=macR.eq_1 s
 generalize macR s=res at *
 by_cases h17:s.size=17
 rotate_left
 ·rw[if_neg (fun e=>h17 e.1)]at hyes
  subst hyes
  refine T ?_
  exact D
 refine T ?_
 refine B3 6 (fun j=>∀ i,i<j→Eb s i=true) (fun j=>[(0,Ab s),(4,Bh (Ko s j)),(11,Aa j)]) (fun _=>[]) [] (fun i hi=>by omega) U ?_
 intro j hj hI
 have hmv:=Md hI
 refine T ?_
 refine⟨fun h=>?_,fun h=>?_⟩
 ·have hlt:j<6:=qA h
  have hno:=hno hlt
  clear h
  have i0:(3 * ((j:Nat):Int)).toNat=3 * j:=by omega
  have i1:(3 * ((j:Nat):Int)+1).toNat=3 * j+1:=by omega
  have i2:(3 * ((j:Nat):Int)+2).toNat=3 * j+2:=by omega
  have hx:Eb s j=(decide (digI (Ad s (3 * j))≤15) && decide (digI (Ad s (3 * j+1))≤15) && (decide (5≤j) || decide ((Ad s (3 * j+2)).toNat=58))):=rfl
  have hv:Ko s (j+1)=Ko s j * 256+digI (Ad s (3 * j)) * 16+digI (Ad s (3 * j+1)):=rfl
  rw[← i1,← i2,← i0]at hx
  rw[← i1,← i0]at hv
  have d1:=S4 (Ad s (3 * ((j:Nat):Int)).toNat)
  have d2:=S4 (Ad s (3 * ((j:Nat):Int)+1).toNat)
  have q1:=Vr (Ad s (3 * ((j:Nat):Int)).toNat)
  have q2:=Vr (Ad s (3 * ((j:Nat):Int)+1).toNat)
  by_cases c1:digI (Ad s (3 * ((j:Nat):Int)).toNat)≤15
  ·have f1:decide (digI (Ad s (3 * ((j:Nat):Int)).toNat)>15)=false:=decide_eq_false j_
   by_cases c2:digI (Ad s (3 * ((j:Nat):Int)+1).toNat)≤15
   ·have f2:decide (digI (Ad s (3 * ((j:Nat):Int)+1).toNat)>15)=false:=decide_eq_false j_
    have hp:(256:Int) ^ j≤256 ^ 5:=by
     have:=Nat.pow_le_pow_right (n:=256) qe (show j≤5 by omega)
     exact_mod_cast this
    have hst:=Ag3 (Ko s j).toNat (digI (Ad s (3 * ((j:Nat):Int)).toNat)).toNat (digI (Ad s (3 * ((j:Nat):Int)+1).toNat)).toNat j_ j_ j_
    have hst2:((((Ko s j).toNat * 256+(digI (Ad s (3 * ((j:Nat):Int)).toNat)).toNat * 16+(digI (Ad s (3 * ((j:Nat):Int)+1).toNat)).toNat:Nat)):Int)=Ko s (j+1):=by rw[hv];omega
    rw[hst2,Int.toNat_of_nonneg hmv.1,Int.toNat_of_nonneg d1.1,Int.toNat_of_nonneg d2.1]at hst
    by_cases c3:j<5
    ·by_cases c4:(Ad s (3 * ((j:Nat):Int)+2).toNat).toNat=58
     ·have f4:(((Ad s (3 * ((j:Nat):Int)+2).toNat).toNat:Int) != 58)=false:=by rw[c4];rfl
      have hmj:Eb s j=true:=by rw[hx,c4];simp[c1,c2]
      refine T ?_
      refine C q1 F290 ?_
      refine C q2 F290 ?_
      exact B5 [] hI hlt (fun i hi=>by
       by_cases e:i=j
       ·rw[e];exact hmj
       ·exact hI i j_) ⟨⟨q_,q_,congrArg Bh hst.symm,q_,q_,q_,z_⟩,z_,q_,q_⟩
     ·have f4:(((Ad s (3 * ((j:Nat):Int)+2).toNat).toNat:Int) != 58)=true:=by
       rw[bne_iff_ne];omega
      have hmj:Eb s j=false:=by rw[hx,decide_eq_false c4,decide_eq_false (by omega:¬ 5≤j)];simp
      rw[hno hmj]
      refine T ?_
      refine C q1 F290 ?_
      refine C q2 F290 ?_
      exact D
    ·have hmj:Eb s j=true:=by rw[hx];simp[c1,c2];omega
     refine T ?_
     refine C q1 F290 ?_
     refine C q2 F290 ?_
     exact B5 [] hI hlt (fun i hi=>by
      by_cases e:i=j
      ·rw[e];exact hmj
      ·exact hI i j_) ⟨⟨q_,q_,congrArg Bh hst.symm,q_,q_,q_,z_⟩,z_,q_,q_⟩
   ·have f2:decide (digI (Ad s (3 * ((j:Nat):Int)+1).toNat)>15)=true:=decide_eq_true j_
    rw[hno (by rw[hx,decide_eq_false c2];simp)]
    refine T ?_
    refine C q1 F290 ?_
    refine C q2 F290 ?_
    exact D
  ·have f1:decide (digI (Ad s (3 * ((j:Nat):Int)).toNat)>15)=true:=decide_eq_true j_
   rw[hno (by rw[hx,decide_eq_false c1];rfl)]
   refine T ?_
   refine C q1 F290 ?_
   refine C q2 F290 ?_
   exact D
 ·have hje:j=6:=qB h
  subst hje
  clear h
  rw[if_pos ⟨h17,by rw[List.all_eq_true];intro i hi;exact hI i (List.mem_range.1 hi)⟩]at hyes
  subst hyes
  refine T ?_
  exact D
theorem Zn (m:Nat) (h:m<18446744073709551616):(((bits .and .u64 (m:Int) 281474976710655).fdiv (2 ^ min (Int.toNat 32) IntKind.u64.bits)) != 512)=!(D7 m):=by
 have e:=bits_and_u64_nat m 281474976710655 h qe
 have e2:m &&& 281474976710655=m % 281474976710656:=Nat.and_two_pow_sub_one_eq_mod m 48
 have e3:bits .and .u64 (m:Int) 281474976710655=((m % 281474976710656:Nat):Int):=by rw[← e2];exact e
 have e4:((m % 281474976710656:Nat):Int).fdiv (2 ^ min (Int.toNat 32) IntKind.u64.bits)=((m % 281474976710656 / 4294967296:Nat):Int):=by
  show ((m % 281474976710656:Nat):Int).fdiv 4294967296=_
  rw[Int.fdiv_eq_ediv_of_nonneg _ qe,Int.natCast_ediv];rfl
 rw[e3,e4,D7]
 by_cases hh:m % 281474976710656 / 4294967296=512
 ·rw[hh,decide_eq_true j_];rfl
 ·rw[decide_eq_false j_]
  simp;omega
def Ahi (m:Int):Int:=if D7 m=true then IntKind.u32.wrap (bits .and .u64 m 281474976710655) else 0
theorem Aiw (m:Nat) (h:m<18446744073709551616):Sy.Spec Tryz.prog 291 [Bh m] [] (.tup [A0 (Ahi m),Af (D7 m)]) []:=cT F291 Tryz.ntmps291 fun F hF=>by
 have hb:=Zn m h
 rw[Ahi]
 cases hh:D7 m with
 | true =>
  have hb:=hb.trans (by rw[hh];rfl:_=false)
  rw[if_pos rfl]
  refine T ?_
  exact D
 | false =>
  have hb:=hb.trans (by rw[hh];rfl:_=true)
  rw[if_neg qf]
  refine T ?_
  exact D
theorem macGroupSc (m:Nat) (h:m<18446744073709551616):Sy.Spec Tryz.prog 292 [Bh m] [] (Af (Js m)) []:=cT F292 Tryz.ntmps292 fun F hF=>by
 have hb:=V3 m h
 refine T ?_
 exact Bv q_ (.cons .tmp .nil) (congrArg Af hb.symm) q_
theorem Te (m:Nat) (h:m<18446744073709551616):Sy.Spec Tryz.prog 238 [Bh m] [] (Af (statB m)) []:=cT F238 Tryz.ntmps238 fun F hF=>by
 have q1:=Aiw m h
 have q2:=macGroupSc m h
 have hw:=statB.eq_1 (m:Int)
 rw[Int.toNat_natCast]at hw
 generalize statB (m:Int)=r at *
 generalize Ahi (m:Int)=hv at *
 by_cases c1:(m:Int)≤281474976710655
 ·rw[decide_eq_true c1,Bool.true_and]at hw
  have f1:decide ((m:Int)≤281474976710655)=true:=decide_eq_true c1
  cases hh:D7 m with
  | true =>
   rw[hh]at q1 hw
   simp at hw
   subst hw
   refine T ?_
   refine C q1 F291 ?_
   exact D
  | false =>
   rw[hh]at q1 hw
   simp at hw
   subst hw
   refine T ?_
   refine C q1 F291 ?_
   refine C q2 F292 ?_
   exact D
 ·rw[decide_eq_false c1]at hw
  have f1:decide ((m:Int)≤281474976710655)=false:=decide_eq_false c1
  simp at hw
  subst hw
  refine T ?_
  refine C q1 F291 ?_
  exact D
def hexD16:ByteArray:=⟨#[48,49,50,51,52,53,54,55,56,57,97,98,99,100,101,102]⟩
theorem S0:∀ d:Fin 16,hexD16.extract d.1 (d.1+1)=mkT [B6 d.1]:=by decide +kernel
theorem Q6 (m:Nat):∀ j,(Iz m j).length≤3 * j
 | 0=>by simp[Iz]
 | j+1=>by
  have:=Q6 m j
  rw[Iz,List.length_append,List.length_append]
  split<;>simp<;>omega
theorem Uk (m j:Nat) (hj:j<6) (h:((j:Nat):Int).toNat<(be 6 m).length):((be 6 m)[((j:Nat):Int).toNat]'h).toNat=byteN m j:=by
 have h6:j=0∨j=1∨j=2∨j=3∨j=4∨j=5:=by omega
 unfold byteN
 rcases h6 with rfl | rfl | rfl | rfl | rfl | rfl
 ·show (UInt8.ofNat (m / 256 ^ 5)).toNat=_;simp
 ·show (UInt8.ofNat (m / 256 ^ 4)).toNat=_;simp
 ·show (UInt8.ofNat (m / 256 ^ 3)).toNat=_;simp
 ·show (UInt8.ofNat (m / 256 ^ 2)).toNat=_;simp
 ·show (UInt8.ofNat (m / 256 ^ 1)).toNat=_;simp
 ·show (UInt8.ofNat (m / 256 ^ 0)).toNat=_;simp
theorem Acv (m:Nat) (h:m<18446744073709551616):Sy.Spec Tryz.prog 307 [Bh m] [] (Ab (Ao m)) []:=cT F307 Tryz.ntmps307 fun F hF=>by
 have hl:(be 6 m).length=6:=H8 m 6
 have hbe:=Uk m
 rw[Ao,Int.toNat_natCast]
 refine T ?_
 refine X (Ae [(0,8)] q_ F356 (Acf m h) q_ z_ q_ ⟨.inr q_,z_⟩) ?_
 refine A5 8 q_ ?_
 generalize be 6 m=B at *
 refine T ?_
 refine Av (fun j:Nat=>j≤6) (fun j=>[(3,Ab hexD16),(4,.sl 1 Ak B),(5,Ab (mkT (Iz m j))),(6,Aa j)]) (fun _=>[]) (fun j=>6-j) 0 [] qf U ?_
 intro j hj
 refine T ?_
 refine⟨fun h2=>?_,fun h2=>?_⟩
 ·have hlt:j<6:=by have:=of_decide_eq_true h2;omega
  clear h2
  have hj0:((j:Nat):Int).toNat<B.length:=by omega
  have hbj:=hbe j hlt hj0
  have hn:byteN m j<256:=Nat.mod_lt _ qe
  have hsu:Iz m (j+1)=Iz m j++(if 0<j then [58] else [])++[B6 (byteN m j / 16),B6 (byteN m j % 16)]:=rfl
  have hul:=Q6 m j
  have eA:IntKind.u8.wrap (((B[((j:Nat):Int).toNat]'hj0).toNat:Int).tdiv 16)=((byteN m j / 16:Nat):Int):=by
   rw[hbj,Int.tdiv_eq_ediv_of_nonneg j_,IntKind.wrap_u8];omega
  have eA1:IntKind.u8.wrap (IntKind.u8.wrap (((B[((j:Nat):Int).toNat]'hj0).toNat:Int).tdiv 16)+1)=((byteN m j / 16+1:Nat):Int):=by
   rw[eA,IntKind.wrap_u8];omega
  have eR:((B[((j:Nat):Int).toNat]'hj0).toNat:Int).tmod 16=((byteN m j % 16:Nat):Int):=by
   rw[hbj,Int.tmod_eq_emod_of_nonneg j_];omega
  have eR1:IntKind.u8.wrap (((B[((j:Nat):Int).toNat]'hj0).toNat:Int).tmod 16+1)=((byteN m j % 16+1:Nat):Int):=by
   rw[eR,IntKind.wrap_u8];omega
  generalize Iz m j=ws at *
  have hz1:(mkT ws).size=ws.length:=Ax ws
  by_cases k:0<j
  ·have f:decide ((j:Int)>0)=true:=decide_eq_true j_
   rw[if_pos k]at hsu
   have z1:(mkT ws).size+(⟨#[58]⟩:ByteArray).size≤9223372036854775807:=by
    have:(⟨#[58]⟩:ByteArray).size=1:=rfl
    omega
   have hz2:(mkT ws++(⟨#[58]⟩:ByteArray)).size=ws.length+1:=by rw[ByteArray.size_append,hz1];rfl
   have x1:(hexD16.extract (IntKind.u8.wrap (((B[((j:Nat):Int).toNat]'hj0).toNat:Int).tdiv 16)).toNat (IntKind.u8.wrap (IntKind.u8.wrap (((B[((j:Nat):Int).toNat]'hj0).toNat:Int).tdiv 16)+1)).toNat).size≤16:=by
    rw[ByteArray.size_extract,show hexD16.size=16 from rfl];omega
   have x2:(hexD16.extract (((B[((j:Nat):Int).toNat]'hj0).toNat:Int).tmod 16).toNat (IntKind.u8.wrap (((B[((j:Nat):Int).toNat]'hj0).toNat:Int).tmod 16+1)).toNat).size≤16:=by
    rw[ByteArray.size_extract,show hexD16.size=16 from rfl];omega
   have z2:(mkT ws++(⟨#[58]⟩:ByteArray)).size+(hexD16.extract (IntKind.u8.wrap (((B[((j:Nat):Int).toNat]'hj0).toNat:Int).tdiv 16)).toNat (IntKind.u8.wrap (IntKind.u8.wrap (((B[((j:Nat):Int).toNat]'hj0).toNat:Int).tdiv 16)+1)).toNat).size≤9223372036854775807:=by omega
   have z3:((mkT ws++(⟨#[58]⟩:ByteArray))++hexD16.extract (IntKind.u8.wrap (((B[((j:Nat):Int).toNat]'hj0).toNat:Int).tdiv 16)).toNat (IntKind.u8.wrap (IntKind.u8.wrap (((B[((j:Nat):Int).toNat]'hj0).toNat:Int).tdiv 16)+1)).toNat).size+(hexD16.extract (((B[((j:Nat):Int).toNat]'hj0).toNat:Int).tmod 16).toNat (IntKind.u8.wrap (((B[((j:Nat):Int).toNat]'hj0).toNat:Int).tmod 16+1)).toNat).size≤9223372036854775807:=by
    rw[ByteArray.size_append];omega
   have hfin:mkT (Iz m (j+1))=(mkT ws++(⟨#[58]⟩:ByteArray))++hexD16.extract (IntKind.u8.wrap (((B[((j:Nat):Int).toNat]'hj0).toNat:Int).tdiv 16)).toNat (IntKind.u8.wrap (IntKind.u8.wrap (((B[((j:Nat):Int).toNat]'hj0).toNat:Int).tdiv 16)+1)).toNat++hexD16.extract (((B[((j:Nat):Int).toNat]'hj0).toNat:Int).tmod 16).toNat (IntKind.u8.wrap (((B[((j:Nat):Int).toNat]'hj0).toNat:Int).tmod 16+1)).toNat:=by
    rw[eA1,eA,eR1,eR,Int.toNat_natCast,Int.toNat_natCast,Int.toNat_natCast,Int.toNat_natCast,S0 ⟨byteN m j / 16,by omega⟩,S0 ⟨byteN m j % 16,by omega⟩]
    rw[show (⟨#[58]⟩:ByteArray)=mkT [58] from rfl]
    simp only[D4]
    rw[hsu]
    simp
   refine T ?_
   refine⟨⟨by omega,by omega,by rw[show hexD16.size=16 from q_];omega⟩,?_⟩
   refine T ?_
   refine⟨⟨by omega,by omega,by rw[show hexD16.size=16 from q_];omega⟩,?_⟩
   refine T ?_
   exact Ag (j+1) [] hlt j_ ⟨⟨q_,q_,q_,q_,congrArg Ab hfin,q_,q_,q_,z_⟩,z_,q_,q_⟩
  ·have f:decide ((j:Int)>0)=false:=decide_eq_false j_
   rw[if_neg k,List.append_nil]at hsu
   have hz2:(mkT ws).size=ws.length:=by exact hz1
   have x1:(hexD16.extract (IntKind.u8.wrap (((B[((j:Nat):Int).toNat]'hj0).toNat:Int).tdiv 16)).toNat (IntKind.u8.wrap (IntKind.u8.wrap (((B[((j:Nat):Int).toNat]'hj0).toNat:Int).tdiv 16)+1)).toNat).size≤16:=by
    rw[ByteArray.size_extract,show hexD16.size=16 from rfl];omega
   have x2:(hexD16.extract (((B[((j:Nat):Int).toNat]'hj0).toNat:Int).tmod 16).toNat (IntKind.u8.wrap (((B[((j:Nat):Int).toNat]'hj0).toNat:Int).tmod 16+1)).toNat).size≤16:=by
    rw[ByteArray.size_extract,show hexD16.size=16 from rfl];omega
   have z2:(mkT ws).size+(hexD16.extract (IntKind.u8.wrap (((B[((j:Nat):Int).toNat]'hj0).toNat:Int).tdiv 16)).toNat (IntKind.u8.wrap (IntKind.u8.wrap (((B[((j:Nat):Int).toNat]'hj0).toNat:Int).tdiv 16)+1)).toNat).size≤9223372036854775807:=by omega
   have z3:(mkT ws++hexD16.extract (IntKind.u8.wrap (((B[((j:Nat):Int).toNat]'hj0).toNat:Int).tdiv 16)).toNat (IntKind.u8.wrap (IntKind.u8.wrap (((B[((j:Nat):Int).toNat]'hj0).toNat:Int).tdiv 16)+1)).toNat).size+(hexD16.extract (((B[((j:Nat):Int).toNat]'hj0).toNat:Int).tmod 16).toNat (IntKind.u8.wrap (((B[((j:Nat):Int).toNat]'hj0).toNat:Int).tmod 16+1)).toNat).size≤9223372036854775807:=by
    rw[ByteArray.size_append];omega
   have hfin:mkT (Iz m (j+1))=mkT ws++hexD16.extract (IntKind.u8.wrap (((B[((j:Nat):Int).toNat]'hj0).toNat:Int).tdiv 16)).toNat (IntKind.u8.wrap (IntKind.u8.wrap (((B[((j:Nat):Int).toNat]'hj0).toNat:Int).tdiv 16)+1)).toNat++hexD16.extract (((B[((j:Nat):Int).toNat]'hj0).toNat:Int).tmod 16).toNat (IntKind.u8.wrap (((B[((j:Nat):Int).toNat]'hj0).toNat:Int).tmod 16+1)).toNat:=by
    rw[eA1,eA,eR1,eR,Int.toNat_natCast,Int.toNat_natCast,Int.toNat_natCast,Int.toNat_natCast,S0 ⟨byteN m j / 16,by omega⟩,S0 ⟨byteN m j % 16,by omega⟩]
    skip
    simp only[D4]
    rw[hsu]
    simp
   refine T ?_
   refine⟨⟨by omega,by omega,by rw[show hexD16.size=16 from q_];omega⟩,?_⟩
   refine T ?_
   refine⟨⟨by omega,by omega,by rw[show hexD16.size=16 from q_];omega⟩,?_⟩
   refine T ?_
   exact Ag (j+1) [] hlt j_ ⟨⟨q_,q_,q_,q_,congrArg Ab hfin,q_,q_,q_,z_⟩,z_,q_,q_⟩
 ·have hje:j=6:=by have:=of_decide_eq_false h2;omega
  subst hje
  refine T ?_
  exact D
theorem Aip (s:ByteArray) (i:Nat) (h:i<17):0≤Dc s i∧Dc s i<18014398509481984:=by
 have h0:=Is s 0;have h1:=T2 s
 have mono:∀ a,Dc s a≤Dc s (a+1):=fun a=>by
  have h2:=(Is s a).1
  have h3:=(Mh (Ad s a)).1
  rw[Dc]
  split<;>omega
 have up:∀ k a,a+k=17→Dc s a≤Dc s 17:=fun k=>by
  induction k with
  | zero=>intro a ha;rw[show a=17 by omega];exact Int.le_refl _
  | succ k ih=>intro a ha;exact Int.le_trans (mono a) (ih (a+1) j_)
 have:=up (17-i) i j_
 have:=(Is s i).1
 omega
theorem Aii (s:ByteArray):Sy.Spec Tryz.prog 259 [Ab s] [] (.tup [Bh (macR s).1,Af (macR s).2]) []:=cT F259 Tryz.ntmps259 fun F hF=>by
 by_cases h0:s.size=17
 ·have f0:((s.size:Int) != 17)=false:=by rw[bne_eq_false_iff_eq];omega
  have hres:=Aiq s h0
  generalize macR s=res at *
  refine T ?_
  refine Av (fun i:Nat=>i≤17) (fun i=>[(0,Ab s),(4,Bh (Dc s i)),(5,Aa i)]) (fun _=>[]) (fun i=>17-i) 0 [] qf U ?_
  intro i hi
  refine T ?_
  refine⟨fun h=>?_,fun h=>?_⟩
  ·have hlt:i<17:=qA h
   clear h
   have hlts:i<s.size:=by omega
   have hn:=Aip s i hlt
   have hsu:Dc s (i+1)=if i % 3=2 then Dc s i else Dc s i * 16+digD (Ad s ((i:Nat):Int).toNat):=rfl
   generalize Dc s i=n at *
   clear hres
   have hc:=(Ad s ((i:Nat):Int).toNat).toNat_lt
   have hdg:=digD.eq_1 (Ad s ((i:Nat):Int).toNat)
   have hdi:=digI.eq_1 (Ad s ((i:Nat):Int).toNat)
   have em:((i:Int)).tmod 3=((i % 3:Nat):Int):=by rw[Int.tmod_eq_emod_of_nonneg j_];omega
   by_cases k1:48≤(Ad s ((i:Nat):Int).toNat).toNat
   ·have g1:decide (((Ad s ((i:Nat):Int).toNat).toNat:Int)≥48)=true:=decide_eq_true j_
    by_cases k2:(Ad s ((i:Nat):Int).toNat).toNat≤57
    ·have g2:decide (((Ad s ((i:Nat):Int).toNat).toNat:Int)≤57)=true:=decide_eq_true j_
     have g3:decide (((Ad s ((i:Nat):Int).toNat).toNat:Int)≥97)=false:=decide_eq_false j_
     have hd:digD (Ad s ((i:Nat):Int).toNat)=((Ad s ((i:Nat):Int).toNat).toNat:Int)-48:=by rw[hdg,hdi];repeat' split<;>omega
     by_cases k3:i % 3=2
     ·have g5:((i:Int).tmod 3 != 2)=false:=by rw[em,bne_eq_false_iff_eq];omega
      rw[if_pos k3]at hsu
      refine T ?_
      exact Ag (i+1) [] hlt j_ ⟨⟨q_,q_,congrArg Bh hsu,q_,q_,q_,z_⟩,z_,q_,q_⟩
     ·have g5:((i:Int).tmod 3 != 2)=true:=by rw[em,bne_iff_ne];omega
      rw[if_neg k3,hd]at hsu
      refine T ?_
      exact Ag (i+1) [] hlt j_ ⟨⟨q_,q_,congrArg Bh (by rw[hsu];simp only[IntKind.wrap_u64];omega),q_,q_,q_,z_⟩,z_,q_,q_⟩
    ·have g2:decide (((Ad s ((i:Nat):Int).toNat).toNat:Int)≤57)=false:=decide_eq_false j_
     by_cases k4:97≤(Ad s ((i:Nat):Int).toNat).toNat
     ·have g3:decide (((Ad s ((i:Nat):Int).toNat).toNat:Int)≥97)=true:=decide_eq_true j_
      by_cases k5:(Ad s ((i:Nat):Int).toNat).toNat≤102
      ·have g4:decide (((Ad s ((i:Nat):Int).toNat).toNat:Int)≤102)=true:=decide_eq_true j_
       have hd:digD (Ad s ((i:Nat):Int).toNat)=((Ad s ((i:Nat):Int).toNat).toNat:Int)-87:=by rw[hdg,hdi];repeat' split<;>omega
       by_cases k3:i % 3=2
       ·have g5:((i:Int).tmod 3 != 2)=false:=by rw[em,bne_eq_false_iff_eq];omega
        rw[if_pos k3]at hsu
        refine T ?_
        exact Ag (i+1) [] hlt j_ ⟨⟨q_,q_,congrArg Bh hsu,q_,q_,q_,z_⟩,z_,q_,q_⟩
       ·have g5:((i:Int).tmod 3 != 2)=true:=by rw[em,bne_iff_ne];omega
        rw[if_neg k3,hd]at hsu
        refine T ?_
        exact Ag (i+1) [] hlt j_ ⟨⟨q_,q_,congrArg Bh (by rw[hsu];simp only[IntKind.wrap_u64];omega),q_,q_,q_,z_⟩,z_,q_,q_⟩
      ·have g4:decide (((Ad s ((i:Nat):Int).toNat).toNat:Int)≤102)=false:=decide_eq_false j_
       have hd:digD (Ad s ((i:Nat):Int).toNat)=0:=by rw[hdg,hdi];repeat' split<;>omega
       by_cases k3:i % 3=2
       ·have g5:((i:Int).tmod 3 != 2)=false:=by rw[em,bne_eq_false_iff_eq];omega
        rw[if_pos k3]at hsu
        refine T ?_
        exact Ag (i+1) [] hlt j_ ⟨⟨q_,q_,congrArg Bh hsu,q_,q_,q_,z_⟩,z_,q_,q_⟩
       ·have g5:((i:Int).tmod 3 != 2)=true:=by rw[em,bne_iff_ne];omega
        rw[if_neg k3,hd]at hsu
        refine T ?_
        exact Ag (i+1) [] hlt j_ ⟨⟨q_,q_,congrArg Bh (by rw[hsu];simp only[IntKind.wrap_u64];omega),q_,q_,q_,z_⟩,z_,q_,q_⟩
     ·have g3:decide (((Ad s ((i:Nat):Int).toNat).toNat:Int)≥97)=false:=decide_eq_false j_
      have hd:digD (Ad s ((i:Nat):Int).toNat)=0:=by rw[hdg,hdi];repeat' split<;>omega
      by_cases k3:i % 3=2
      ·have g5:((i:Int).tmod 3 != 2)=false:=by rw[em,bne_eq_false_iff_eq];omega
       rw[if_pos k3]at hsu
       refine T ?_
       exact Ag (i+1) [] hlt j_ ⟨⟨q_,q_,congrArg Bh hsu,q_,q_,q_,z_⟩,z_,q_,q_⟩
      ·have g5:((i:Int).tmod 3 != 2)=true:=by rw[em,bne_iff_ne];omega
       rw[if_neg k3,hd]at hsu
       refine T ?_
       exact Ag (i+1) [] hlt j_ ⟨⟨q_,q_,congrArg Bh (by rw[hsu];simp only[IntKind.wrap_u64];omega),q_,q_,q_,z_⟩,z_,q_,q_⟩
   ·have g1:decide (((Ad s ((i:Nat):Int).toNat).toNat:Int)≥48)=false:=decide_eq_false j_
    have g3:decide (((Ad s ((i:Nat):Int).toNat).toNat:Int)≥97)=false:=decide_eq_false j_
    have hd:digD (Ad s ((i:Nat):Int).toNat)=0:=by rw[hdg,hdi];repeat' split<;>omega
    by_cases k3:i % 3=2
    ·have g5:((i:Int).tmod 3 != 2)=false:=by rw[em,bne_eq_false_iff_eq];omega
     rw[if_pos k3]at hsu
     refine T ?_
     exact Ag (i+1) [] hlt j_ ⟨⟨q_,q_,congrArg Bh hsu,q_,q_,q_,z_⟩,z_,q_,q_⟩
    ·have g5:((i:Int).tmod 3 != 2)=true:=by rw[em,bne_iff_ne];omega
     rw[if_neg k3,hd]at hsu
     refine T ?_
     exact Ag (i+1) [] hlt j_ ⟨⟨q_,q_,congrArg Bh (by rw[hsu];simp only[IntKind.wrap_u64];omega),q_,q_,q_,z_⟩,z_,q_,q_⟩
  ·have hie:i=17:=qB h
   subst hie
   clear h
   have h17:=T2 s
   obtain ⟨m,hm⟩:∃ m:Nat,Dc s 17=m:=⟨(Dc s 17).toNat,by omega⟩
   rw[hm]at hres h17 ⊢
   have q:=Acv m j_
   by_cases hx:Ao (m:Int)=s
   ·have g:=Ov hx
    rw[if_pos hx]at hres
    subst hres
    refine T ?_
    refine C q F307 ?_
    exact D
   ·have g:=Ou hx
    rw[if_neg hx]at hres
    subst hres
    refine T ?_
    refine C q F307 ?_
    exact D
 ·have f0:((s.size:Int) != 17)=true:=by rw[bne_iff_ne];omega
  rw[Ag4 h0]
  refine T ?_
  exact D
theorem Ad0 (m:Nat) (h:m<18446744073709551616):∃ x:Int,Sy.Spec Tryz.prog 308 [Bh m] [] (.tup [A0 x,Af (D7 m)]) []:=by
 have hl:(be 6 m).length=6:=H8 m 6
 have h0:(0:Int).toNat<(be 6 m).length:=by rw[hl];decide
 have h1:(1:Int).toNat<(be 6 m).length:=by rw[hl];decide
 have c0:((be 6 m)[(0:Int).toNat]'h0).toNat=byteN m 0:=Uk m 0 qe h0
 have c1:((be 6 m)[(1:Int).toNat]'h1).toNat=byteN m 1:=Uk m 1 qe h1
 have d0:byteN m 0=m / 1099511627776 % 256:=rfl
 have d1:byteN m 1=m / 4294967296 % 256:=rfl
 have hb:D7 (m:Int)=decide ((m:Int) % 281474976710656 / 4294967296=512):=rfl
 have qb:=Acf m h
 generalize be 6 m=B at *
 by_cases k0:byteN m 0=2
 ·have g0:(((B[(0:Int).toNat]'h0).toNat:Int) != 2)=false:=by rw[bne_eq_false_iff_eq];omega
  by_cases k1:byteN m 1=0
  ·have g1:(((B[(1:Int).toNat]'h1).toNat:Int) != 0)=false:=by rw[bne_eq_false_iff_eq];omega
   have e:D7 (m:Int)=true:=by rw[hb];exact decide_eq_true j_
   have q:=Wp (B.drop 2) (by rw[List.length_drop];omega)
   refine⟨IntKind.u32.wrap (S8 (B.drop 2)),?_⟩
   rw[e]
   refine Hd Γ hm 100 F308 Tryz.ntmps308 q_ fun F hF=>by
    refine T ?_
    refine X (Ae [(0,6)] q_ F356 qb q_ z_ q_ ⟨.inr q_,z_⟩) ?_
    refine A5 6 q_ ?_
    refine T ?_
    refine X (Cw (lo:=2) (hi:=B.length) Γ.toTy (B.drop 2) q_ q_ q_ q_ (.inr ⟨_,_,q_,q_⟩) (.inl ⟨q_,q_⟩) j_ (Nat.le_refl _) (by rw[List.take_length])) ?_
    refine C q F357 ?_
    exact D
  ·have g1:(((B[(1:Int).toNat]'h1).toNat:Int) != 0)=true:=by rw[bne_iff_ne];omega
   have e:D7 (m:Int)=false:=by rw[hb];exact decide_eq_false j_
   refine⟨0,?_⟩
   rw[e]
   refine Hd Γ hm 100 F308 Tryz.ntmps308 q_ fun F hF=>by
    refine T ?_
    refine X (Ae [(0,6)] q_ F356 qb q_ z_ q_ ⟨.inr q_,z_⟩) ?_
    refine A5 6 q_ ?_
    refine T ?_
    exact D
 ·have g0:(((B[(0:Int).toNat]'h0).toNat:Int) != 2)=true:=by rw[bne_iff_ne];omega
  have e:D7 (m:Int)=false:=by rw[hb];exact decide_eq_false j_
  refine⟨0,?_⟩
  rw[e]
  refine Hd Γ hm 100 F308 Tryz.ntmps308 q_ fun F hF=>by
   refine T ?_
   refine X (Ae [(0,6)] q_ F356 qb q_ z_ q_ ⟨.inr q_,z_⟩) ?_
   refine A5 6 q_ ?_
   refine T ?_
   exact D
def If (one:ByteArray→Int × Bool) (out:List Int) (s:ByteArray) (b:Bool):List Int × Bool:=if b=true then Bj one out (Au 44 s) else (out,true)
theorem Ab5 {c:UInt8}:∀ {l:List UInt8},0≤Lib.indexByte l c→c∈l
 | [],h=>by simp[Lib.indexByte]at h
 | b::l,h=>by
  unfold Lib.indexByte at h
  by_cases hb:(b == c)=true
  ·simp at hb;simp[hb]
  ·rw[if_neg hb]at h
   by_cases h1:(Lib.indexByte l c == -1)=true
   ·rw[if_pos h1]at h;omega
   ·rw[if_neg h1]at h
    have:=Ha l c
    have h2:Lib.indexByte l c≠-1:=by simpa using h1
    exact List.mem_cons_of_mem _ (Ab5 j_)
theorem Ua (one:ByteArray→Int × Bool) (out:List Int) (s:ByteArray) :
  If one out s true=(if (one (cutT 44 s).1).2=false∨out.length=16∨(∃ x,out.getLast? = some x∧(one (cutT 44 s).1).1≤x) then ([],false) else If one (out++[(one (cutT 44 s).1).1]) (cutT 44 s).2.1 (cutT 44 s).2.2):=by
 rw[If,if_pos rfl,Hh]
 have hsz:s.data.toList.length=s.size:=rfl
 have tk:∀ i,s.extract 0 i=mkT (s.data.toList.take i):=fun i=>by rw[← Bt s,Bu,A2];simp
 by_cases h:0≤Lib.indexByte s.data.toList 44
 ·have hm:=Ab5 h
  have e2:s.extract (Hl 44 s.data.toList+1) s.size=mkT (s.data.toList.drop (Hl 44 s.data.toList+1)):=by
   have:=Bu s.data.toList (Hl 44 s.data.toList+1) s.size
   rw[Bt]at this
   rw[this,← hsz,List.take_length]
  rw[cutT,if_pos h,Jh 44 _ _ hm,List.nil_append,Bj,tk,e2]
  dsimp only
  rw[If,if_pos rfl,Hh,A2]
 ·have hm:(44:UInt8)∉s.data.toList:=fun hh=>h (Ev hh).1
  rw[cutT,if_neg h,E3 44 _ _ hm,List.nil_append,Bt,Bj]
  simp only[If,if_neg (show ¬ (false=true) by simp),Bj]
theorem Wa (s:ByteArray):(cutT 44 s).1.size≤s.size∧(cutT 44 s).2.1.size≤s.size∧((cutT 44 s).2.2=true→(cutT 44 s).2.1.size<s.size):=by
 have hsz:s.data.toList.length=s.size:=rfl
 have hlt:=Jq s.data.toList 44
 have ex:∀ i j,(s.extract i j).size=((s.data.toList.take j).drop i).length:=fun i j=>by
  have:=Bu s.data.toList i j
  rw[Bt]at this
  rw[this,Ax]
 rw[cutT]
 split
 ·rename_i h
  refine⟨?_,?_,fun _=>?_⟩
  ·rw[ex,List.length_drop,List.length_take];omega
  ·rw[ex,List.length_drop,List.length_take];omega
  ·rw[ex,List.length_drop,List.length_take]
   have:Hl 44 s.data.toList+1≤s.data.toList.length:=by unfold Hl;omega
   omega
 ·exact⟨Nat.le_refl _,Nat.zero_le _,fun e=>by cases e⟩
theorem Za (one:ByteArray→Int × Bool) (f:FuncId) (first cap:List SV) (hc:(SV.clo (.func f) first cap).inn []=true) (hr:∀ ρ:Nat→Nat,(SV.clo (.func f) first cap).ren ρ=.clo (.func f) first cap) (s0:ByteArray) (hs:s0.size≤10000) (hf:∀ p:ByteArray,p.size≤s0.size→Su Tryz.prog f (first++[Ab p]++cap) (.tup [Aa (one p).1,Af (one p).2])) :
  Sy.Spec Tryz.prog 294 [Ab s0,.clo (.func f) first cap] [] (.tup [.sl 1 Aa (Cn one s0).1,Af (Cn one s0).2]) []:=cT F294 Tryz.ntmps294 fun F hF=>by
 have hres:Cn one s0=If one [] s0 true:=rfl
 generalize Cn one s0=res at *
 have hc':(SV.clo (.func f) first cap).inn [1000]=true:=Ek _ hc
 have hin:∀ y:SV,y.inn []=true→Cg [] (first++[y]++cap)=true:=fun y hy=>by
  simp only[SV.inn,Bool.and_eq_true]at hc
  rw[Co,Co,hc.1,hc.2]
  simp[Cg,hy]
 refine T ?_
 refine Ct 6 1000 1 Aa q_ q_ ?_
 refine T ?_
 refine Av (fun x:ByteArray × Bool × List Int=>res=If one x.2.2 x.1 x.2.1∧x.1.size≤s0.size∧x.2.2.length≤16) (fun x=>[(0,Ab x.1),(1,.clo (.func f) first cap),(6,.osl 1000),(7,Af x.2.1)]) (fun x=>[(1000,.row 1 Aa x.2.2)]) (fun x=>if x.2.1=true then x.1.size+1 else 0) (s0,true,[]) [] ⟨hres,Nat.le_refl _,by simp⟩ ⟨⟨q_,q_,Bo _,hc',q_,q_,q_,q_,z_⟩,⟨.inl q_,q_,z_⟩,q_,q_⟩ ?_
 rintro ⟨s,b,out⟩ ⟨hI,hsz,hout⟩
 dsimp only at hI hsz hout ⊢
 cases b with
 | false =>
  rw[If,if_neg qf]at hI
  subst hI
  refine T ?_
  refine A5 1000 q_ ?_
  refine T ?_
  exact D
 | true =>
  have q1:=Sx s 44 j_
  have hsm:=Wa s
  rw[Ua]at hI
  generalize cutT 44 s=ct at *
  obtain ⟨p,r,m⟩:=ct
  dsimp only at hI hsm q1
  have q2:=hf p j_
  generalize one p=op at *
  obtain ⟨v,ok⟩:=op
  dsimp only at hI q2
  refine T ?_
  refine C q1 F176 ?_
  refine Ac8 q2 q_ q_ q_ (by simp only[hin (Ab p) q_];rfl) q_ q_ ?_
  cases ok with
  | false =>
   rw[if_pos (.inl rfl)]at hI
   subst hI
   refine T ?_
   refine Bm 4 1 Aa q_ ?_
   refine T ?_
   exact D
  | true =>
   by_cases c1:out.length=16
   ·rw[if_pos (.inr (.inl c1))]at hI
    subst hI
    refine T ?_
    refine Bm 4 1 Aa q_ ?_
    refine T ?_
    exact D
   ·by_cases c2:out.length=0
    ·have hn:out=[]:=List.eq_nil_of_length_eq_zero c2
     rw[if_neg (by rw[hn];simp)]at hI
     refine T ?_
     refine X (Ai Γ.toTy 49 q_ q_ q_ q_ q_ (.row q_) (.lit (e:=Aa) (l:=[v]) q_ q_) qf (by simp;omega) (by simp;omega)) ?_
     refine Ag (r,m,out++[v]) [(1000,49)] ⟨hI,by dsimp only;omega,by simp;omega⟩ (by
      have h3:=hsm.2.2
      cases m
      ·simp
      ·have:=h3 rfl;simp;omega) ⟨⟨rfl,rfl,hr _,hc',rfl,rfl,rfl,rfl,trivial⟩,⟨.inl rfl,rfl,trivial⟩,rfl,rfl⟩
    ·have hk:((out.length:Int)-1).toNat<out.length:=by omega
     have hlast:out.getLast? = some (out[((out.length:Int)-1).toNat]'hk):=by
      rw[List.getLast?_eq_getElem?,List.getElem?_eq_getElem j_]
      congr 1
      have:out.length-1=((out.length:Int)-1).toNat:=by omega
      simp only[this]
     have f2:decide ((out.length:Int)>0)=true:=decide_eq_true j_
     by_cases c3:v≤out[((out.length:Int)-1).toNat]'hk
     ·have f3:decide (out[((out.length:Int)-1).toNat]'hk≥v)=true:=decide_eq_true c3
      rw[if_pos (.inr (.inr ⟨_,hlast,c3⟩))]at hI
      subst hI
      refine T ?_
      refine Bm 4 1 Aa q_ ?_
      refine T ?_
      exact D
     ·have f3:decide (out[((out.length:Int)-1).toNat]'hk≥v)=false:=decide_eq_false c3
      rw[if_neg (by
       rintro (hh | hh | ⟨x,hx,hh⟩)
       ·cases hh
       ·exact c1 hh
       ·rw[hlast]at hx
        simp only[Option.some.injEq]at hx
        rw[← hx]at hh
        exact c3 hh)]at hI
      refine T ?_
      refine X (Ai Γ.toTy 49 q_ q_ q_ q_ q_ (.row q_) (.lit (e:=Aa) (l:=[v]) q_ q_) qf (by simp;omega) (by simp;omega)) ?_
      refine Ag (r,m,out++[v]) [(1000,49)] ⟨hI,by dsimp only;omega,by simp;omega⟩ (by
      have h3:=hsm.2.2
      cases m
      ·simp
      ·have:=h3 rfl;simp;omega) ⟨⟨rfl,rfl,hr _,hc',rfl,rfl,rfl,rfl,trivial⟩,⟨.inl rfl,rfl,trivial⟩,rfl,rfl⟩
theorem Y8 (one:ByteArray→Int × Bool) (f:FuncId) (first cap:List SV) (hc:(SV.clo (.func f) first cap).inn []=true) (hr:∀ ρ:Nat→Nat,(SV.clo (.func f) first cap).ren ρ=.clo (.func f) first cap) (s0:ByteArray) (hs:s0.size≤10000) (hf:∀ p:ByteArray,p.size≤s0.size→Su Tryz.prog f (first++[Ab p]++cap) (.tup [A0 (one p).1,Af (one p).2])) :
  Sy.Spec Tryz.prog 242 [Ab s0,.clo (.func f) first cap] [] (.tup [.sl 1 A0 (Cn one s0).1,Af (Cn one s0).2]) []:=cT F242 Tryz.ntmps242 fun F hF=>by
 have hres:Cn one s0=If one [] s0 true:=rfl
 generalize Cn one s0=res at *
 have hc':(SV.clo (.func f) first cap).inn [1000]=true:=Ek _ hc
 have hin:∀ y:SV,y.inn []=true→Cg [] (first++[y]++cap)=true:=fun y hy=>by
  simp only[SV.inn,Bool.and_eq_true]at hc
  rw[Co,Co,hc.1,hc.2]
  simp[Cg,hy]
 refine T ?_
 refine Ct 6 1000 1 A0 q_ q_ ?_
 refine T ?_
 refine Av (fun x:ByteArray × Bool × List Int=>res=If one x.2.2 x.1 x.2.1∧x.1.size≤s0.size∧x.2.2.length≤16) (fun x=>[(0,Ab x.1),(1,.clo (.func f) first cap),(6,.osl 1000),(7,Af x.2.1)]) (fun x=>[(1000,.row 1 A0 x.2.2)]) (fun x=>if x.2.1=true then x.1.size+1 else 0) (s0,true,[]) [] ⟨hres,Nat.le_refl _,by simp⟩ ⟨⟨q_,q_,Bo _,hc',q_,q_,q_,q_,z_⟩,⟨.inl q_,q_,z_⟩,q_,q_⟩ ?_
 rintro ⟨s,b,out⟩ ⟨hI,hsz,hout⟩
 dsimp only at hI hsz hout ⊢
 cases b with
 | false =>
  rw[If,if_neg qf]at hI
  subst hI
  refine T ?_
  refine A5 1000 q_ ?_
  refine T ?_
  exact D
 | true =>
  have q1:=Sx s 44 j_
  have hsm:=Wa s
  rw[Ua]at hI
  generalize cutT 44 s=ct at *
  obtain ⟨p,r,m⟩:=ct
  dsimp only at hI hsm q1
  have q2:=hf p j_
  generalize one p=op at *
  obtain ⟨v,ok⟩:=op
  dsimp only at hI q2
  refine T ?_
  refine C q1 F176 ?_
  refine Ac8 q2 q_ q_ q_ (by simp only[hin (Ab p) q_];rfl) q_ q_ ?_
  cases ok with
  | false =>
   rw[if_pos (.inl rfl)]at hI
   subst hI
   refine T ?_
   refine Bm 4 1 A0 q_ ?_
   refine T ?_
   exact D
  | true =>
   by_cases c1:out.length=16
   ·rw[if_pos (.inr (.inl c1))]at hI
    subst hI
    refine T ?_
    refine Bm 4 1 A0 q_ ?_
    refine T ?_
    exact D
   ·by_cases c2:out.length=0
    ·have hn:out=[]:=List.eq_nil_of_length_eq_zero c2
     rw[if_neg (by rw[hn];simp)]at hI
     refine T ?_
     refine X (Ai Γ.toTy 49 q_ q_ q_ q_ q_ (.row q_) (.lit (e:=A0) (l:=[v]) q_ q_) qf (by simp;omega) (by simp;omega)) ?_
     refine Ag (r,m,out++[v]) [(1000,49)] ⟨hI,by dsimp only;omega,by simp;omega⟩ (by
      have h3:=hsm.2.2
      cases m
      ·simp
      ·have:=h3 rfl;simp;omega) ⟨⟨rfl,rfl,hr _,hc',rfl,rfl,rfl,rfl,trivial⟩,⟨.inl rfl,rfl,trivial⟩,rfl,rfl⟩
    ·have hk:((out.length:Int)-1).toNat<out.length:=by omega
     have hlast:out.getLast? = some (out[((out.length:Int)-1).toNat]'hk):=by
      rw[List.getLast?_eq_getElem?,List.getElem?_eq_getElem j_]
      congr 1
      have:out.length-1=((out.length:Int)-1).toNat:=by omega
      simp only[this]
     have f2:decide ((out.length:Int)>0)=true:=decide_eq_true j_
     by_cases c3:v≤out[((out.length:Int)-1).toNat]'hk
     ·have f3:decide (out[((out.length:Int)-1).toNat]'hk≥v)=true:=decide_eq_true c3
      rw[if_pos (.inr (.inr ⟨_,hlast,c3⟩))]at hI
      subst hI
      refine T ?_
      refine Bm 4 1 A0 q_ ?_
      refine T ?_
      exact D
     ·have f3:decide (out[((out.length:Int)-1).toNat]'hk≥v)=false:=decide_eq_false c3
      rw[if_neg (by
       rintro (hh | hh | ⟨x,hx,hh⟩)
       ·cases hh
       ·exact c1 hh
       ·rw[hlast]at hx
        simp only[Option.some.injEq]at hx
        rw[← hx]at hh
        exact c3 hh)]at hI
      refine T ?_
      refine X (Ai Γ.toTy 49 q_ q_ q_ q_ q_ (.row q_) (.lit (e:=A0) (l:=[v]) q_ q_) qf (by simp;omega) (by simp;omega)) ?_
      refine Ag (r,m,out++[v]) [(1000,49)] ⟨hI,by dsimp only;omega,by simp;omega⟩ (by
      have h3:=hsm.2.2
      cases m
      ·simp
      ·have:=h3 rfl;simp;omega) ⟨⟨rfl,rfl,hr _,hc',rfl,rfl,rfl,rfl,trivial⟩,⟨.inl rfl,rfl,trivial⟩,rfl,rfl⟩
theorem Xh (p:ByteArray) (lo hi:Int):Sy.Spec Tryz.prog 295 [Ab p,.ref 1 (Aa lo) 0,.ref 1 (Aa hi) 0] [] (.tup [Aa (numR p lo hi).1,Af (numR p lo hi).2]) []:=cT F295 Tryz.ntmps295 fun F hF=>by
 have q:=Y9 p lo hi
 generalize numR p lo hi=r at *
 refine T ?_
 refine C q F236 ?_
 exact D
theorem Xg (s:ByteArray) (hi:Int) (hs:s.size≤10000):Sy.Spec Tryz.prog 243 [Ab s,Aa 1,Aa hi] [] (.tup [.sl 1 Aa (Cn (fun p=>numR p 1 hi) s).1,Af (Cn (fun p=>numR p 1 hi) s).2]) []:=cT F243 Tryz.ntmps243 fun F hF=>by
 have q:=Za (fun p=>numR p 1 hi) 295 [] [.ref 1 (Aa 1) 0,.ref 1 (Aa hi) 0] rfl (fun _=>rfl) s hs (fun p _=>⟨⟨_,_,F295⟩,Xh p 1 hi⟩)
 generalize Cn (fun p=>numR p 1 hi) s=r at *
 refine T ?_
 refine Aab 4 1 (Aa 1) q_ q_ q_ ?_
 refine Aab 5 1 (Aa hi) q_ q_ q_ ?_
 refine T ?_
 refine C q F294 ?_
 exact D
theorem Uv (s:ByteArray) (hs:s.size≤10000):Sy.Spec Tryz.prog 190 [Ab s] [] (.tup [.sl 1 A0 (Az s).1,Af (Az s).2]) []:=cT F190 Tryz.ntmps190 fun F hF=>by
 have q:=Y8 A8 187 [] [] rfl (fun _=>rfl) s hs (fun p hp=>⟨⟨_,_,F187⟩,Qo p j_⟩)
 unfold Az
 generalize Cn A8 s=r at *
 refine T ?_
 refine C q F242 ?_
 exact D
theorem Z8 (s:ByteArray) (hs:s.size≤10000):Sy.Spec Tryz.prog 192 [Ab s] [] (.tup [B8 (prefixR s).1.1 (prefixR s).1.2,Af (prefixR s).2]) []:=cT F192 Tryz.ntmps192 fun F hF=>by
 have q1:=Sx s 47 j_
 have hres:=prefixR.eq_1 s
 have hsm:(cutT 47 s).1.size≤s.size:=by
  rw[cutT]
  split
  ·have:=Bu s.data.toList 0 (Hl 47 s.data.toList)
   rw[Bt]at this
   rw[this,Ax,List.length_drop,List.length_take]
   have:s.data.toList.length=s.size:=rfl
   omega
  ·exact Nat.le_refl _
 generalize cutT 47 s=ct at *
 obtain ⟨p,r,m⟩:=ct
 dsimp only at hres hsm q1
 have q2:=Qo p j_
 have q3:=Um r 32
 generalize prefixR s=res at *
 generalize A8 p=a at *
 generalize smallT r 32=b at *
 obtain ⟨av,ao⟩:=a
 obtain ⟨bv,bo⟩:=b
 dsimp only at hres q2 q3
 cases m<;>cases ao<;>cases bo
 all_goals (simp at hres;subst hres)
 all_goals (refine T ?_;refine C q1 F176 ?_;refine C q2 F187 ?_;refine C q3 F241 ?_;exact D)
abbrev rdO (w:List ByteArray) (i:Nat) (e:Int):Obs:=[(0,.box [.sl 1 Ab w,Aa i,Aa e])]
theorem Br {w:List ByteArray} {i:Nat} (h:i<w.length):wdT w i=w[i]:=by rw[wdT,List.getElem?_eq_getElem h];rfl
theorem Ir (w:List ByteArray) (i:Nat) (e:Int) (hi:i<w.length) (hw:w.length≤1000000):Sy.Spec Tryz.prog 188 [.ptr 0 0] (rdO w i e) (Ab (wdT w i)) (rdO w (i+1) e):=cT F188 Tryz.ntmps188 fun F hF=>by
 have hk:((i:Int)+1-1).toNat<w.length:=by omega
 have hx:wdT w i=w[((i:Int)+1-1).toNat]'hk:=by
  rw[Br hi]
  have:((i:Int)+1-1).toNat=i:=by omega
  simp only[this]
 rw[hx]
 refine T ?_
 exact done q_ (.cons .tmp .nil) [] (rdO w (i+1) e) (fun _ h=>h) q_ q_ U
theorem Ej (w:List ByteArray) (i:Nat) (e:Int) (b:Bool) (c:Int):Sy.Spec Tryz.prog 185 [.ptr 0 0,Af b,Aa c] (rdO w i e) (.tup []) (rdO w i (Aj e b c)):=cT F185 Tryz.ntmps185 fun F hF=>by
 cases b with
 | false =>
  have hf:Aj e false c=e:=by rw[Aj,if_neg qf]
  rw[hf]
  refine T ?_
  exact B1 q_ .nil [] (rdO w i e) (fun _ h=>h) q_ q_ U
 | true =>
  by_cases h:e=0
  ·have hf:Aj e true c=c:=by rw[Aj,if_pos ⟨rfl,h⟩]
   rw[hf]
   subst h
   refine T ?_
   exact B1 q_ .nil [] (rdO w i c) (fun _ h=>h) q_ q_ U
  ·have hf:Aj e true c=e:=by rw[Aj,if_neg (fun x=>h x.2)]
   rw[hf]
   have hb:(e == 0)=false:=by simpa using h
   refine T ?_
   exact B1 q_ .nil [] (rdO w i e) (fun _ h=>h) q_ q_ U
theorem Di (w:List ByteArray) (i:Nat) (e:Int) (hi:i<w.length) (hw:w.length≤1000000) (hs:∀ s∈w,s.size≤40):Sy.Spec Tryz.prog 181 [.ptr 0 0] (rdO w i e) (Ab (wdT w i)) (rdO w (i+1) (Aj e (!(nameB (wdT w i))) 20)):=cT F181 Tryz.ntmps181 fun F hF=>by
 have hwd:(wdT w i).size≤40:=by rw[Br hi];exact hs _ (List.getElem_mem hi)
 have q1:=Ir w i e hi hw
 have q2:=E8 (wdT w i) j_
 have q3:=Ej w (i+1) e (!(nameB (wdT w i))) 20
 generalize nameB (wdT w i)=nb at *
 generalize wdT w i=x at *
 refine T ?_
 refine X (Ae [] q_ F188 q1 q_ W q_ V) ?_
 refine C q2 F235 ?_
 refine X (Ae [] q_ F185 q3 q_ W q_ V) ?_
 exact done q_ (.cons .tmp .nil) [] (rdO w (i+1) (Aj e (!nb) 20)) (fun _ h=>h) q_ q_ U
theorem K5 (w:List ByteArray) (i:Nat) (e lo hi_:Int) (hi:i<w.length) (hw:w.length≤1000000):Sy.Spec Tryz.prog 183 [.ptr 0 0,Aa lo,Aa hi_] (rdO w i e) (Aa (numR (wdT w i) lo hi_).1) (rdO w (i+1) (Aj e (!(numR (wdT w i) lo hi_).2) 21)):=cT F183 Tryz.ntmps183 fun F hF=>by
 have q1:=Ir w i e hi hw
 have q2:=Y9 (wdT w i) lo hi_
 generalize numR (wdT w i) lo hi_=r at *
 have q3:=Ej w (i+1) e (!r.2) 21
 generalize wdT w i=x at *
 refine T ?_
 refine X (Ae [] q_ F188 q1 q_ W q_ V) ?_
 refine C q2 F236 ?_
 refine X (Ae [] q_ F185 q3 q_ W q_ V) ?_
 exact done q_ (.cons .tmp .nil) [] (rdO w (i+1) (Aj e (!r.2) 21)) (fun _ h=>h) q_ q_ U
theorem M8 (w:List ByteArray) (i:Nat) (e:Int) (hi:i<w.length) (hw:w.length≤1000000):Sy.Spec Tryz.prog 182 [.ptr 0 0] (rdO w i e) (Aa (A1 (wdT w i)).1) (rdO w (i+1) (Aj e (!(A1 (wdT w i)).2) 21)):=cT F182 Tryz.ntmps182 fun F hF=>by
 have q:=K5 w i e 1 4094 hi hw
 unfold A1
 generalize numR (wdT w i) 1 4094=r at *
 refine T ?_
 refine X (Ae [] q_ F183 q q_ W q_ V) ?_
 exact done q_ (.cons .tmp .nil) [] (rdO w (i+1) (Aj e (!r.2) 21)) (fun _ h=>h) q_ q_ U
theorem Af9 (w:List ByteArray) (i:Nat) (e:Int) (hi:i<w.length) (hw:w.length≤1000000):Sy.Spec Tryz.prog 189 [.ptr 0 0] (rdO w i e) (Aa (El (wdT w i)).1) (rdO w (i+1) (Aj e (!(El (wdT w i)).2) 21)):=cT F189 Tryz.ntmps189 fun F hF=>by
 have q:=K5 w i e 1 16777215 hi hw
 unfold El
 generalize numR (wdT w i) 1 16777215=r at *
 refine T ?_
 refine X (Ae [] q_ F183 q q_ W q_ V) ?_
 exact done q_ (.cons .tmp .nil) [] (rdO w (i+1) (Aj e (!r.2) 21)) (fun _ h=>h) q_ q_ U
theorem Ae5 (e c:Int):Aj e false c=e:=by rw[Aj,if_neg qf]
theorem Sz (w:List ByteArray) (i:Nat) (e most:Int) (hi:i<w.length) (hw:w.length≤1000000) (hs:∀ s∈w,s.size≤40):Sy.Spec Tryz.prog 191 [.ptr 0 0,Aa most] (rdO w i e) (.sl 1 Aa (listR most (wdT w i)).1) (rdO w (i+1) (Aj e (!(listR most (wdT w i)).2) 21)):=cT F191 Tryz.ntmps191 fun F hF=>by
 have hwd:(wdT w i).size≤40:=by rw[Br hi];exact hs _ (List.getElem_mem hi)
 have q1:=Ir w i e hi hw
 have q2:=Xg (wdT w i) most j_
 have hres:=listR.eq_1 most (wdT w i)
 generalize listR most (wdT w i)=res at *
 by_cases hd:wdT w i=dash
 ·rw[if_pos hd]at hres
  subst hres
  have hb:(wdT w i == (⟨#[45]⟩:ByteArray))=true:=(C1 _ _).2 hd
  rw[show (!(([]:List Int),true).2)=false from rfl,Ae5]
  refine T ?_
  refine X (Ae [] q_ F188 q1 q_ W q_ V) ?_
  refine Bm 4 1 Aa q_ ?_
  refine T ?_
  exact done q_ (.cons .tmp .nil) [] (rdO w (i+1) e) (fun _ h=>h) q_ q_ U
 ·rw[if_neg hd]at hres
  have hb:(wdT w i == (⟨#[45]⟩:ByteArray))=false:=by
   cases hx:(wdT w i == (⟨#[45]⟩:ByteArray))
   ·rfl
   ·exact absurd ((C1 _ _).1 hx) hd
  rw[← hres]at q2
  have q3:=Ej w (i+1) e (!res.2) 21
  clear hres
  refine T ?_
  refine X (Ae [] q_ F188 q1 q_ W q_ V) ?_
  refine C q2 F243 ?_
  refine X (Ae [] q_ F185 q3 q_ W q_ V) ?_
  exact done q_ (.cons .tmp .nil) [] (rdO w (i+1) (Aj e (!res.2) 21)) (fun _ h=>h) q_ q_ U
theorem T1 (s:ByteArray):∃ m:Nat,(macR s).1=m∧m<281474976710656:=by
 rw[macR]
 split
 ·rename_i h
  have:=Md (s:=s) (j:=6) (fun i hi=>by have:=h.2;rw[List.all_eq_true]at this;exact this i (List.mem_range.2 hi))
  refine⟨(Ko s 6).toNat,?_,?_⟩
  ·rw[Int.toNat_of_nonneg this.1]
  ·have h2:Ko s 6<281474976710656:=this.2
   omega
 ·exact⟨0,q_,by decide⟩
def macE (s:ByteArray):Bool:=!((macR s).2 && statB (macR s).1)
theorem Aga (w:List ByteArray) (i:Nat) (e:Int) (hi:i<w.length) (hw:w.length≤1000000) (hs:∀ s∈w,s.size≤40):Sy.Spec Tryz.prog 184 [.ptr 0 0] (rdO w i e) (Bh (macR (wdT w i)).1) (rdO w (i+1) (Aj e (macE (wdT w i)) 21)):=cT F184 Tryz.ntmps184 fun F hF=>by
 have hwd:(wdT w i).size≤40:=by rw[Br hi];exact hs _ (List.getElem_mem hi)
 have q1:=Ir w i e hi hw
 have q2:=Ag5 (wdT w i) j_
 obtain ⟨m,hm1,hm2⟩:=T1 (wdT w i)
 have q4:=Te m j_
 have hres:=macE.eq_1 (wdT w i)
 rw[hm1]at hres
 generalize macE (wdT w i)=be at *
 have q3:=Ej w (i+1) e be 21
 generalize macR (wdT w i)=r at *
 obtain ⟨rv,rb⟩:=r
 dsimp only at hm1
 subst hm1
 generalize statB (m:Int)=sb at *
 cases rb with
 | false =>
  simp at hres
  subst hres
  refine T ?_
  refine X (Ae [] q_ F188 q1 q_ W q_ V) ?_
  refine C q2 F237 ?_
  refine X (Ae [] q_ F185 q3 q_ W q_ V) ?_
  exact done q_ (.cons .tmp .nil) [] (rdO w (i+1) (Aj e true 21)) (fun _ h=>h) q_ q_ U
 | true =>
  simp at hres
  subst hres
  refine T ?_
  refine X (Ae [] q_ F188 q1 q_ W q_ V) ?_
  refine C q2 F237 ?_
  refine C q4 F238 ?_
  refine X (Ae [] q_ F185 q3 q_ W q_ V) ?_
  exact done q_ (.cons .tmp .nil) [] (rdO w (i+1) (Aj e (!sb) 21)) (fun _ h=>h) q_ q_ U
theorem B2 {a b:ByteArray} (h:a≠b):(a == b)=false:=by
 cases hx:(a == b)
 ·rfl
 ·exact absurd ((C1 _ _).1 hx) h
theorem Bl {a b:ByteArray} (h:a=b):(a == b)=true:=(C1 _ _).2 h
theorem Ih {a b:ByteArray} (h:a≠b):(!(a == b))=true:=by rw[B2 h];rfl
theorem D8 {a b:ByteArray} (h:a=b):(!(a == b))=false:=by rw[Bl h];rfl
theorem Dw (s:ByteArray):Sy.Spec Tryz.prog 180 [Ab s] [] (Aa (kindL s)) []:=cT F180 Tryz.ntmps180 fun F hF=>by
 have hk:=kindL.eq_1 s
 generalize kindL s=k at *
 by_cases c1:s=(⟨#[100,101,118,105,99,101]⟩:ByteArray)
 ·have b1:=Bl c1
  rw[if_pos c1]at hk
  subst hk
  refine T ?_
  exact D
 have b1:=B2 c1
 rw[if_neg c1]at hk
 by_cases c2:s=(⟨#[112,111,114,116]⟩:ByteArray)
 ·have b2:=Bl c2
  rw[if_pos c2]at hk
  subst hk
  refine T ?_
  exact D
 have b2:=B2 c2
 rw[if_neg c2]at hk
 by_cases c3:s=(⟨#[108,105,110,107]⟩:ByteArray)
 ·have b3:=Bl c3
  rw[if_pos c3]at hk
  subst hk
  refine T ?_
  exact D
 have b3:=B2 c3
 rw[if_neg c3]at hk
 by_cases c4:s=(⟨#[115,116,97,116,105,99]⟩:ByteArray)
 ·have b4:=Bl c4
  rw[if_pos c4]at hk
  subst hk
  refine T ?_
  exact D
 have b4:=B2 c4
 rw[if_neg c4]at hk
 by_cases c5:s=(⟨#[118,116,101,112]⟩:ByteArray)
 ·have b5:=Bl c5
  rw[if_pos c5]at hk
  subst hk
  refine T ?_
  exact D
 have b5:=B2 c5
 rw[if_neg c5]at hk
 by_cases c6:s=(⟨#[118,110,105]⟩:ByteArray)
 ·have b6:=Bl c6
  rw[if_pos c6]at hk
  subst hk
  refine T ?_
  exact D
 have b6:=B2 c6
 rw[if_neg c6]at hk
 by_cases c7:s=(⟨#[102,108,111,111,100]⟩:ByteArray)
 ·have b7:=Bl c7
  rw[if_pos c7]at hk
  subst hk
  refine T ?_
  exact D
 have b7:=B2 c7
 rw[if_neg c7]at hk
 by_cases c8:s=(⟨#[118,114,102]⟩:ByteArray)
 ·have b8:=Bl c8
  rw[if_pos c8]at hk
  subst hk
  refine T ?_
  exact D
 have b8:=B2 c8
 rw[if_neg c8]at hk
 by_cases c9:s=(⟨#[105,114,98]⟩:ByteArray)
 ·have b9:=Bl c9
  rw[if_pos c9]at hk
  subst hk
  refine T ?_
  exact D
 have b9:=B2 c9
 rw[if_neg c9]at hk
 subst hk
 refine T ?_
 exact D
theorem Dv (k:Int) (hk:0≤k∧k≤9) (w:List ByteArray) (hw:w.length≤1000000):Sy.Spec Tryz.prog 179 [Aa k,.sl 1 Ab w] [] (Af (manyB k w)) []:=cT F179 Tryz.ntmps179 fun F hF=>by
 have hm2:=manyB.eq_1 k w
 generalize manyB k w=r at *
 rcases (by omega:k=0∨k=1∨k=2∨k=3∨k=4∨k=5∨k=6∨k=7∨k=8∨k=9) with h | h | h | h | h | h | h | h | h | h
 ·subst h
  have hr:r=false:=by rw[hm2];simp
  subst hr
  refine T ?_
  exact D
 ·subst h
  have hr:r=decide (w.length=4):=by rw[hm2];simp
  subst hr
  refine T ?_
  refine Bv q_ (.cons .tmp .nil) (congrArg Af ?_) q_
  by_cases hn:w.length=4
  ·rw[hn];rfl
  ·rw[decide_eq_false hn];symm;simp;omega
 ·subst h
  rw[if_neg qe,if_pos rfl]at hm2
  by_cases h6:w.length<6
  ·rw[if_pos h6]at hm2
   subst hm2
   refine T ?_
   exact D
  ·rw[if_neg h6]at hm2
   have f6:decide ((w.length:Int)<6)=false:=decide_eq_false j_
   have h4:(4:Int).toNat<w.length:=by show 4<w.length;omega
   have hx:wdT w 4=w[(4:Int).toNat]'h4:=Br j_
   rw[hx]at hm2
   by_cases ca:w[(4:Int).toNat]'h4=accessT
   ·have ba:(w[(4:Int).toNat]'h4 == (⟨#[97,99,99,101,115,115]⟩:ByteArray))=true:=Bl ca
    have bt:(w[(4:Int).toNat]'h4 == (⟨#[116,114,117,110,107]⟩:ByteArray))=false:=B2 (by rw[ca];exact Qp)
    have na:(!(w[(4:Int).toNat]'h4 == (⟨#[97,99,99,101,115,115]⟩:ByteArray)))=false:=D8 ca
    rw[if_pos ca]at hm2
    by_cases hn:w.length=6
    ·rw[decide_eq_true hn]at hm2
     subst hm2
     refine T ?_
     exact D
    ·rw[decide_eq_false hn]at hm2
     have fb:((w.length:Int) == 6)=false:=by rw[beq_eq_false_iff_ne];omega
     subst hm2
     refine T ?_
     exact D
   ·have ba:(w[(4:Int).toNat]'h4 == (⟨#[97,99,99,101,115,115]⟩:ByteArray))=false:=B2 ca
    have na:(!(w[(4:Int).toNat]'h4 == (⟨#[97,99,99,101,115,115]⟩:ByteArray)))=true:=Ih ca
    rw[if_neg ca]at hm2
    by_cases ctr:w[(4:Int).toNat]'h4=trunkT
    ·have bt:(w[(4:Int).toNat]'h4 == (⟨#[116,114,117,110,107]⟩:ByteArray))=true:=Bl ctr
     have nt:(!(w[(4:Int).toNat]'h4 == (⟨#[116,114,117,110,107]⟩:ByteArray)))=false:=D8 ctr
     rw[if_pos ctr]at hm2
     by_cases hn:w.length=7
     ·rw[decide_eq_true hn]at hm2
      subst hm2
      refine T ?_
      exact D
     ·rw[decide_eq_false hn]at hm2
      have fb:((w.length:Int) == 7)=false:=by rw[beq_eq_false_iff_ne];omega
      subst hm2
      refine T ?_
      exact D
    ·have bt:(w[(4:Int).toNat]'h4 == (⟨#[116,114,117,110,107]⟩:ByteArray))=false:=B2 ctr
     have nt:(!(w[(4:Int).toNat]'h4 == (⟨#[116,114,117,110,107]⟩:ByteArray)))=true:=Ih ctr
     rw[if_neg ctr]at hm2
     subst hm2
     refine T ?_
     refine Bv q_ (.cons .tmp .nil) (congrArg Af ?_) q_
     exact decide_eq_decide.2 j_
 ·subst h
  have hr:r=decide (w.length=5):=by rw[hm2];simp
  subst hr
  refine T ?_
  refine Bv q_ (.cons .tmp .nil) (congrArg Af ?_) q_
  by_cases hn:w.length=5
  ·rw[hn];rfl
  ·rw[decide_eq_false hn];symm;simp;omega
 ·subst h
  have hr:r=decide (w.length=5):=by rw[hm2];simp
  subst hr
  refine T ?_
  refine Bv q_ (.cons .tmp .nil) (congrArg Af ?_) q_
  by_cases hn:w.length=5
  ·rw[hn];rfl
  ·rw[decide_eq_false hn];symm;simp;omega
 ·subst h
  have hr:r=decide (w.length=3):=by rw[hm2];simp
  subst hr
  refine T ?_
  refine Bv q_ (.cons .tmp .nil) (congrArg Af ?_) q_
  by_cases hn:w.length=3
  ·rw[hn];rfl
  ·rw[decide_eq_false hn];symm;simp;omega
 ·subst h
  have hr:r=decide (w.length=4):=by rw[hm2];simp
  subst hr
  refine T ?_
  refine Bv q_ (.cons .tmp .nil) (congrArg Af ?_) q_
  by_cases hn:w.length=4
  ·rw[hn];rfl
  ·rw[decide_eq_false hn];symm;simp;omega
 ·subst h
  have hr:r=decide (w.length=4):=by rw[hm2];simp
  subst hr
  refine T ?_
  refine Bv q_ (.cons .tmp .nil) (congrArg Af ?_) q_
  by_cases hn:w.length=4
  ·rw[hn];rfl
  ·rw[decide_eq_false hn];symm;simp;omega
 ·subst h
  have hr:r=decide (w.length=5):=by rw[hm2];simp
  subst hr
  refine T ?_
  refine Bv q_ (.cons .tmp .nil) (congrArg Af ?_) q_
  by_cases hn:w.length=5
  ·rw[hn];rfl
  ·rw[decide_eq_false hn];symm;simp;omega
 ·subst h
  have hr:r=decide (w.length=5):=by rw[hm2];simp
  subst hr
  refine T ?_
  refine Bv q_ (.cons .tmp .nil) (congrArg Af ?_) q_
  by_cases hn:w.length=5
  ·rw[hn];rfl
  ·rw[decide_eq_false hn];symm;simp;omega
theorem Qt (a:Nat) (b:Int) (ha:a<4294967296):Sy.Spec Tryz.prog 193 [B8 a b] [] (Af (subnetB a b)) []:=cT F193 Tryz.ntmps193 fun F hF=>by
 have q1:=Aco a b ha
 have q2:=Aff a b ha
 have hs:=subnetB.eq_1 (a:Int) b
 generalize subnetB (a:Int) b=r at *
 generalize Ef (a:Int) b=fi at *
 generalize lastI (a:Int) b=la at *
 by_cases h1:1≤b
 ·by_cases h2:b≤30
  ·by_cases h3:(a:Int)=fi
   ·have f3:((a:Int) != fi)=false:=by rw[bne_eq_false_iff_eq];exact h3
    have hr:r=false:=by rw[hs];simp[h3]
    subst hr
    refine T ?_
    refine C q1 F244 ?_
    exact D
   ·have f3:((a:Int) != fi)=true:=by rw[bne_iff_ne];exact h3
    by_cases h4:(a:Int)=la
    ·have f4:((a:Int) != la)=false:=by rw[bne_eq_false_iff_eq];exact h4
     have hr:r=false:=by rw[hs];simp[h4]
     subst hr
     refine T ?_
     refine C q1 F244 ?_
     refine C q2 F245 ?_
     refine Bv q_ (.cons .tmp .nil) (congrArg Af f4.symm) q_
    ·have f4:((a:Int) != la)=true:=by rw[bne_iff_ne];exact h4
     have hr:r=true:=by rw[hs];simp[h1,h2,h3,h4]
     subst hr
     refine T ?_
     refine C q1 F244 ?_
     refine C q2 F245 ?_
     refine Bv q_ (.cons .tmp .nil) (congrArg Af f4.symm) q_
  ·have hr:r=false:=by rw[hs];simp[h2]
   subst hr
   refine T ?_
   exact D
 ·have hr:r=false:=by rw[hs];simp[h1]
  subst hr
  refine T ?_
  exact D
theorem Zr (l:List Int) (v:Int):l.contains v=inB l v:=by
 induction l with
 | nil=>rfl
 | cons x l ih =>
  rw[List.contains_cons,ih,inB,inB,List.any_cons]
  congr 1
  exact Bool.beq_comm
theorem E1 (l:LineM) (hl:Ec l.tagged):Sy.Spec Tryz.prog 239 [Ac l] [] (Af (membersB l.vlan l.tagged)) []:=cT F239 Tryz.ntmps239 fun F hF=>by
 have q:=Ae8 l.tagged l.vlan hl
 have hm2:=membersB.eq_1 l.vlan l.tagged
 rw[Zr]at hm2
 generalize membersB l.vlan l.tagged=r at *
 generalize inB l.tagged l.vlan=ib at *
 unfold Ec at hl
 by_cases h1:0<l.vlan
 ·have hr:r=!ib:=by rw[hm2];simp[h1]
  subst hr
  refine T ?_
  refine C q F161 ?_
  exact D
 ·by_cases h2:l.tagged.length=0
  ·have hr:r=false:=by
    rw[hm2,decide_eq_false h1,List.eq_nil_of_length_eq_zero h2];rfl
   subst hr
   refine T ?_
   exact D
  ·have hr:r=!ib:=by
    rw[hm2]
    have:l.tagged.isEmpty=false:=by cases ht:l.tagged<;>simp_all
    simp[this]
   have f2:decide ((l.tagged.length:Int)>0)=true:=decide_eq_true j_
   subst hr
   refine T ?_
   refine C q F161 ?_
   exact D
theorem H1 (l m:List Int) (hl:l.length≤1000000) (hm1:m.length≤1000000):Sy.Spec Tryz.prog 64 [.sl 1 Aa l,.sl 1 Aa m] [] (Af (l == m)) []:=cT F64 Tryz.ntmps64 fun F hF=>by
 by_cases hlen:l.length=m.length
 rotate_left
 ·have hr:(l == m)=false:=by
   rw[beq_eq_false_iff_ne];intro e;exact hlen (by rw[e])
  have f0:((l.length:Int) != (m.length:Int))=true:=by rw[bne_iff_ne];omega
  rw[hr]
  refine T ?_
  exact D
 have f0:((l.length:Int) != (m.length:Int))=false:=by rw[bne_eq_false_iff_eq];omega
 refine T ?_
 refine B3 l.length (fun j=>l.take j=m.take j) (fun j=>[(0,.sl 1 Aa l),(1,.sl 1 Aa m),(12,Aa l.length),(13,Aa j)]) (fun _=>[]) [] q_ U ?_
 intro j hj hI
 refine T ?_
 refine⟨fun h=>?_,fun h=>?_⟩
 ·have hlt:j<l.length:=qA h
  have hlm:j<m.length:=by omega
  have hlt0:((j:Nat):Int).toNat<l.length:=hlt
  have hlm0:((j:Nat):Int).toNat<m.length:=hlm
  clear h
  by_cases he:l[j]=m[j]
  ·have f1:(l[((j:Nat):Int).toNat]'hlt0 != m[((j:Nat):Int).toNat]'hlm0)=false:=by rw[bne_eq_false_iff_eq];exact he
   refine T ?_
   refine B5 [] hI j_ ?_ U
   rw[List.take_succ_eq_append_getElem hlt,List.take_succ_eq_append_getElem hlm,hI,he]
  ·have f1:(l[((j:Nat):Int).toNat]'hlt0 != m[((j:Nat):Int).toNat]'hlm0)=true:=by rw[bne_iff_ne];exact he
   have hr:(l == m)=false:=by
    rw[beq_eq_false_iff_ne];intro e;subst e;exact he rfl
   rw[hr]
   refine T ?_
   exact D
 ·have hje:j=l.length:=qB h
  subst hje
  have hr:(l == m)=true:=by
   rw[beq_iff_eq]
   rw[List.take_length,hlen,List.take_length]at hI
   exact hI
  rw[hr]
  clear h
  refine T ?_
  exact D
theorem Sl (l m:List Int) (hl:l.length≤1000000) (hm1:m.length≤1000000):Sy.Spec Tryz.prog 69 [.sl 1 A0 l,.sl 1 A0 m] [] (Af (l == m)) []:=cT F69 Tryz.ntmps69 fun F hF=>by
 by_cases hlen:l.length=m.length
 rotate_left
 ·have hr:(l == m)=false:=by
   rw[beq_eq_false_iff_ne];intro e;exact hlen (by rw[e])
  have f0:((l.length:Int) != (m.length:Int))=true:=by rw[bne_iff_ne];omega
  rw[hr]
  refine T ?_
  exact D
 have f0:((l.length:Int) != (m.length:Int))=false:=by rw[bne_eq_false_iff_eq];omega
 refine T ?_
 refine B3 l.length (fun j=>l.take j=m.take j) (fun j=>[(0,.sl 1 A0 l),(1,.sl 1 A0 m),(12,Aa l.length),(13,Aa j)]) (fun _=>[]) [] q_ U ?_
 intro j hj hI
 refine T ?_
 refine⟨fun h=>?_,fun h=>?_⟩
 ·have hlt:j<l.length:=qA h
  have hlm:j<m.length:=by omega
  have hlt0:((j:Nat):Int).toNat<l.length:=hlt
  have hlm0:((j:Nat):Int).toNat<m.length:=hlm
  clear h
  by_cases he:l[j]=m[j]
  ·have f1:(l[((j:Nat):Int).toNat]'hlt0 != m[((j:Nat):Int).toNat]'hlm0)=false:=by rw[bne_eq_false_iff_eq];exact he
   refine T ?_
   refine B5 [] hI j_ ?_ U
   rw[List.take_succ_eq_append_getElem hlt,List.take_succ_eq_append_getElem hlm,hI,he]
  ·have f1:(l[((j:Nat):Int).toNat]'hlt0 != m[((j:Nat):Int).toNat]'hlm0)=true:=by rw[bne_iff_ne];exact he
   have hr:(l == m)=false:=by
    rw[beq_eq_false_iff_ne];intro e;subst e;exact he rfl
   rw[hr]
   refine T ?_
   exact D
 ·have hje:j=l.length:=qB h
  subst hje
  have hr:(l == m)=true:=by
   rw[beq_iff_eq]
   rw[List.take_length,hlen,List.take_length]at hI
   exact hI
  rw[hr]
  clear h
  refine T ?_
  exact D
theorem Adq (a b:LineM) (ha:LineFin a) (hb:LineFin b):Sy.Spec Tryz.prog 50 [Ac a,Ac b] [] (Af (Hp a b)) []:=cT F50 Tryz.ntmps50 fun F hF=>by
 have ht:=ha.t;have hi:=ha.i;have he:=ha.e;have haa:=ha.a
 have ht2:=hb.t;have hi2:=hb.i;have he2:=hb.e;have haa2:=hb.a
 have q0:=H1 a.tagged b.tagged j_ j_
 have q1:=H1 a.imports b.imports j_ j_
 have q2:=H1 a.exports b.exports j_ j_
 have q3:=Sl a.addrs b.addrs j_ j_
 rw[Hp]
 cases h_row:(a.row == b.row)
 ·rw[Bool.false_and]
  refine T ?_
  exact D
 rw[Bool.true_and]
 cases h_kind:(a.kind == b.kind)
 ·rw[Bool.false_and]
  refine T ?_
  exact D
 rw[Bool.true_and]
 cases h_dev:(a.dev == b.dev)
 ·rw[Bool.false_and]
  refine T ?_
  exact D
 rw[Bool.true_and]
 cases h_port:(a.port == b.port)
 ·rw[Bool.false_and]
  refine T ?_
  exact D
 rw[Bool.true_and]
 cases h_peer:(a.peer == b.peer)
 ·rw[Bool.false_and]
  refine T ?_
  exact D
 rw[Bool.true_and]
 cases h_far:(a.far == b.far)
 ·rw[Bool.false_and]
  refine T ?_
  exact D
 rw[Bool.true_and]
 cases h_name:(a.name == b.name)
 ·rw[Bool.false_and]
  refine T ?_
  exact D
 rw[Bool.true_and]
 cases h_mac:(a.mac == b.mac)
 ·rw[Bool.false_and]
  refine T ?_
  exact D
 rw[Bool.true_and]
 cases h_addr:(a.addr == b.addr)
 ·rw[Bool.false_and]
  refine T ?_
  exact D
 rw[Bool.true_and]
 cases h_bits:(a.bits == b.bits)
 ·rw[Bool.false_and]
  refine T ?_
  exact D
 rw[Bool.true_and]
 cases h_vlan:(a.vlan == b.vlan)
 ·rw[Bool.false_and]
  refine T ?_
  exact D
 rw[Bool.true_and]
 cases h_num:(a.num == b.num)
 ·rw[Bool.false_and]
  refine T ?_
  exact D
 rw[Bool.true_and]
 cases h_cost:(a.cost == b.cost)
 ·rw[Bool.false_and]
  refine T ?_
  exact D
 rw[Bool.true_and]
 cases h_tagged:(a.tagged == b.tagged)
 ·rw[h_tagged]at q0
  rw[Bool.false_and]
  refine T ?_
  refine C q0 F64 ?_
  exact D
 rw[h_tagged]at q0
 rw[Bool.true_and]
 cases h_imports:(a.imports == b.imports)
 ·rw[h_imports]at q1
  rw[Bool.false_and]
  refine T ?_
  refine C q0 F64 ?_
  refine C q1 F64 ?_
  exact D
 rw[h_imports]at q1
 rw[Bool.true_and]
 cases h_exports:(a.exports == b.exports)
 ·rw[h_exports]at q2
  rw[Bool.false_and]
  refine T ?_
  refine C q0 F64 ?_
  refine C q1 F64 ?_
  refine C q2 F64 ?_
  exact D
 rw[h_exports]at q2
 rw[Bool.true_and]
 cases h_addrs:(a.addrs == b.addrs)
 ·rw[h_addrs]at q3
  skip
  refine T ?_
  refine C q0 F64 ?_
  refine C q1 F64 ?_
  refine C q2 F64 ?_
  refine C q3 F69 ?_
  exact D
 rw[h_addrs]at q3
 refine T ?_
 refine C q0 F64 ?_
 refine C q1 F64 ?_
 refine C q2 F64 ?_
 refine C q3 F69 ?_
 exact D
theorem Dn (n lo hi:Int):Sy.Spec Tryz.prog 349 [Aa n,Aa lo,Aa hi] [] (Af (Bg n lo hi)) []:=cT F349 Tryz.ntmps349 fun F hF=>by
 rw[Bg]
 by_cases h1:lo≤n
 ·have f1:decide (n≥lo)=true:=decide_eq_true h1
  rw[decide_eq_true h1,Bool.true_and]
  refine T ?_
  exact D
 ·have f1:decide (n≥lo)=false:=decide_eq_false h1
  rw[decide_eq_false h1,Bool.false_and]
  refine T ?_
  exact D
theorem Ow (l:List Int) (most:Int) (hl:l.length≤100000):Sy.Spec Tryz.prog 350 [.sl 1 Aa l,Aa most] [] (Af (Cs l most)) []:=cT F350 Tryz.ntmps350 fun F hF=>by
 have q:=Abw l 1 most (by simp only[Ec];omega)
 rw[Cs,Vf]
 by_cases h0:l.length=0
 ·rw[decide_eq_true h0,Bool.true_or]
  have f0:((l.length:Int) == 0)=true:=by rw[h0];rfl
  refine T ?_
  exact D
 ·rw[decide_eq_false h0,Bool.false_or]
  have f0:((l.length:Int) == 0)=false:=by rw[beq_eq_false_iff_ne];omega
  refine T ?_
  refine C q F166 ?_
  exact D
def K0 (l:List Int) (i:Nat) (x:Int):Bool:=decide (x≠0) && (i == 0 || decide (l.getD (i-1) 0<x))
theorem Acm (l:List Int):Hf l=(I5 (K0 l) l && (decide (0<l.length) && decide (l.length≤16))):=by
 have e:(List.range l.length).all (fun i=>decide (l.getD i 0≠0) && (i == 0 || decide (l.getD (i-1) 0<l.getD i 0)))=I5 (K0 l) l:=by
  rw[Bool.eq_iff_iff,List.all_eq_true,allB_iff]
  constructor
  ·intro h i hi
   have:=h i (List.mem_range.2 hi)
   rw[show l.getD i 0=l[i] by rw[List.getD_eq_getElem?_getD,List.getElem?_eq_getElem hi];rfl]at this
   exact this
  ·intro h i hi
   have hi:=List.mem_range.1 hi
   rw[show l.getD i 0=l[i] by rw[List.getD_eq_getElem?_getD,List.getElem?_eq_getElem hi];rfl]
   exact h i hi
 rw[Hf,e]
theorem Aa3 (l:List Int) (hl:l.length≤100000):Sy.Spec Tryz.prog 351 [.sl 1 A0 l] [] (Af (Hf l)) []:=cT F351 Tryz.ntmps351 fun F hF=>by
 have hres:=Acm l
 generalize Hf l=r at *
 refine T ?_
 refine B3 l.length (fun j=>J1 (K0 l) l j) (fun j=>[(0,.sl 1 A0 l),(5,.sl 1 A0 l),(6,Aa l.length),(7,Aa j)]) (fun _=>[]) [] (Cz _ _) U ?_
 intro j hj hI
 refine T ?_
 refine⟨fun h=>?_,fun h=>?_⟩
 ·have hlt:j<l.length:=qA h
  have hlt0:((j:Nat):Int).toNat<l.length:=hlt
  have hno:=fun h=>D5 (p:=K0 l) hlt h
  have hnx:=fun h=>Ce (p:=K0 l) hI hlt h
  clear h
  by_cases h1:l[j]=0
  ·have f1:(l[((j:Nat):Int).toNat]'hlt0 == 0)=true:=beq_iff_eq.2 h1
   rw[hno (by simp[K0,h1]),Bool.false_and]at hres
   subst hres
   refine T ?_
   exact D
  ·have f1:(l[((j:Nat):Int).toNat]'hlt0 == 0)=false:=beq_eq_false_iff_ne.2 h1
   by_cases h2:j=0
   ·subst h2
    refine T ?_
    exact B5 [] hI j_ (hnx (by simp[K0,h1])) U
   ·have f2:decide ((j:Int)>0)=true:=decide_eq_true j_
    have hk:((j:Int)-1).toNat<l.length:=by omega
    have hg:l.getD (j-1) 0=l[((j:Int)-1).toNat]'hk:=by
     rw[List.getD_eq_getElem?_getD,List.getElem?_eq_getElem (by omega:j-1<l.length)]
     have:((j:Int)-1).toNat=j-1:=by omega
     simp only[this]
     rfl
    have hx:K0 l j l[j]=(decide (l[j]≠0) && (j == 0 || decide (l.getD (j-1) 0<l[j]))):=rfl
    rw[hg]at hx
    by_cases h3:l[((j:Int)-1).toNat]'hk<l[j]
    ·have f3:decide (l[((j:Int)-1).toNat]'hk≥l[((j:Nat):Int).toNat]'hlt0)=false:=decide_eq_false (by show ¬ _≥l[j];omega)
     refine T ?_
     exact B5 [] hI j_ (hnx (by rw[hx,decide_eq_true h1,decide_eq_true h3,Bool.or_true];rfl)) U
    ·have f3:decide (l[((j:Int)-1).toNat]'hk≥l[((j:Nat):Int).toNat]'hlt0)=true:=decide_eq_true (by show _≥l[j];omega)
     rw[hno (by rw[hx,decide_eq_false h3,beq_eq_false_iff_ne.2 h2];simp),Bool.false_and]at hres
     subst hres
     refine T ?_
     exact D
 ·have hje:j=l.length:=qB h
  subst hje
  rw[Mr hI (Nat.le_refl _),Bool.true_and]at hres
  subst hres
  clear h
  by_cases h0:0<l.length
  ·rw[decide_eq_true h0,Bool.true_and]
   have f0:decide ((l.length:Int)>0)=true:=decide_eq_true j_
   refine T ?_
   refine Bv q_ (.cons .tmp .nil) (congrArg Af ?_) q_
   exact decide_eq_decide.2 j_
  ·rw[decide_eq_false h0,Bool.false_and]
   have f0:decide ((l.length:Int)>0)=false:=decide_eq_false j_
   refine T ?_
   exact D
structure LineW (l:LineM):Prop where
 fin:LineFin l
 ok:LineOK l
 dev:l.dev.size≤100000
 port:l.port.size≤100000
 peer:l.peer.size≤100000
 far:l.far.size≤100000
 name:l.name.size≤100000
theorem Aas (l:LineM) (hw:LineW l) (hk:l.kind=1):Sy.Spec Tryz.prog 298 [Ac l] [] (.tup [Ac (Aq l).1,Af (Aq l).2]) []:=cT F298 Tryz.ntmps298 fun F hF=>by
 have hU:Aq l=({ lineZ with row:=l.row,kind:=1,dev:=l.dev,num:=l.num,mac:=l.mac },(Bg l.num 0 65535 && statB l.mac)):=by
  simp only[Aq,hk]
  rfl
 rw[hU]
 have q0:=Dn l.num 0 65535
 have q1:Sy.Spec Tryz.prog 238 [Bh l.mac] [] (Af (statB l.mac)) []:=by
  have:=hw.ok.mac
  obtain ⟨m,hm1⟩:∃ m:Nat,l.mac=m:=⟨l.mac.toNat,by omega⟩
  rw[hm1];exact Te m j_
 obtain ⟨row,kind,dev,port,peer,far,name,mac,addr,bits,vlan,num,cost,tagged,imports,exports,addrs⟩:=l
 dsimp only at hk q0 q1 ⊢
 subst hk
 clear hU hw
 generalize Bg num 0 65535=b0 at *
 generalize statB mac=b1 at *
 cases b0
 ·rw[Bool.false_and]
  refine T ?_
  refine C q0 F349 ?_
  refine An 2 (Ay { lineZ with row:=row,kind:=1,dev:=dev,num:=num,mac:=mac }) rfl (.cons (.refl _) (.cons (.refl _) (.cons (.refl _) (.cons (.refl _) (.cons (.refl _) (.cons (.refl _) (.cons (.refl _) (.cons (.refl _) (.cons (.refl _) (.cons (.refl _) (.cons (.refl _) (.cons (.refl _) (.cons (.refl _) (.cons .nil (.cons .nil (.cons .nil (.cons .nil .nil))))))))))))))))) ?_
  refine T ?_
  exact D
 rw[Bool.true_and]
 refine T ?_
 refine C q0 F349 ?_
 refine C q1 F238 ?_
 refine An 2 (Ay { lineZ with row:=row,kind:=1,dev:=dev,num:=num,mac:=mac }) rfl (.cons (.refl _) (.cons (.refl _) (.cons (.refl _) (.cons (.refl _) (.cons (.refl _) (.cons (.refl _) (.cons (.refl _) (.cons (.refl _) (.cons (.refl _) (.cons (.refl _) (.cons (.refl _) (.cons (.refl _) (.cons (.refl _) (.cons .nil (.cons .nil (.cons .nil (.cons .nil .nil))))))))))))))))) ?_
 refine T ?_
 exact D
theorem Aar (l:LineM) (hw:LineW l) (hk:l.kind=2):Sy.Spec Tryz.prog 298 [Ac l] [] (.tup [Ac (Aq l).1,Af (Aq l).2]) []:=cT F298 Tryz.ntmps298 fun F hF=>by
 have hU:Aq l=({ lineZ with row:=l.row,kind:=2,dev:=l.dev,port:=l.port,cost:=l.cost,vlan:=l.vlan,tagged:=l.tagged },(nameB l.port && (Bg l.cost 1 65535 && (Bg l.vlan 0 4094 && (Cs l.tagged 4094 && membersB l.vlan l.tagged))))):=by
  simp only[Aq,hk]
  rfl
 rw[hU]
 have q0:=E8 l.port (by have:=hw.port;omega)
 have q1:=Dn l.cost 1 65535
 have q2:=Dn l.vlan 0 4094
 have q3:=Ow l.tagged 4094 hw.fin.t
 have q4:=E1 l (by have:=hw.fin.t;simp only[Ec];omega)
 obtain ⟨row,kind,dev,port,peer,far,name,mac,addr,bits,vlan,num,cost,tagged,imports,exports,addrs⟩:=l
 dsimp only at hk q0 q1 q2 q3 q4 ⊢
 subst hk
 clear hU hw
 generalize nameB port=b0 at *
 generalize Bg cost 1 65535=b1 at *
 generalize Bg vlan 0 4094=b2 at *
 generalize Cs tagged 4094=b3 at *
 generalize membersB vlan tagged=b4 at *
 cases b0
 ·rw[Bool.false_and]
  refine T ?_
  refine C q0 F235 ?_
  refine An 2 (Ay { lineZ with row:=row,kind:=2,dev:=dev,port:=port,cost:=cost,vlan:=vlan,tagged:=tagged }) rfl (.cons (.refl _) (.cons (.refl _) (.cons (.refl _) (.cons (.refl _) (.cons (.refl _) (.cons (.refl _) (.cons (.refl _) (.cons (.refl _) (.cons (.refl _) (.cons (.refl _) (.cons (.refl _) (.cons (.refl _) (.cons (.refl _) (.cons (.refl _) (.cons .nil (.cons .nil (.cons .nil .nil))))))))))))))))) ?_
  refine T ?_
  exact D
 rw[Bool.true_and]
 cases b1
 ·rw[Bool.false_and]
  refine T ?_
  refine C q0 F235 ?_
  refine C q1 F349 ?_
  refine An 2 (Ay { lineZ with row:=row,kind:=2,dev:=dev,port:=port,cost:=cost,vlan:=vlan,tagged:=tagged }) rfl (.cons (.refl _) (.cons (.refl _) (.cons (.refl _) (.cons (.refl _) (.cons (.refl _) (.cons (.refl _) (.cons (.refl _) (.cons (.refl _) (.cons (.refl _) (.cons (.refl _) (.cons (.refl _) (.cons (.refl _) (.cons (.refl _) (.cons (.refl _) (.cons .nil (.cons .nil (.cons .nil .nil))))))))))))))))) ?_
  refine T ?_
  exact D
 rw[Bool.true_and]
 cases b2
 ·rw[Bool.false_and]
  refine T ?_
  refine C q0 F235 ?_
  refine C q1 F349 ?_
  refine C q2 F349 ?_
  refine An 2 (Ay { lineZ with row:=row,kind:=2,dev:=dev,port:=port,cost:=cost,vlan:=vlan,tagged:=tagged }) rfl (.cons (.refl _) (.cons (.refl _) (.cons (.refl _) (.cons (.refl _) (.cons (.refl _) (.cons (.refl _) (.cons (.refl _) (.cons (.refl _) (.cons (.refl _) (.cons (.refl _) (.cons (.refl _) (.cons (.refl _) (.cons (.refl _) (.cons (.refl _) (.cons .nil (.cons .nil (.cons .nil .nil))))))))))))))))) ?_
  refine T ?_
  exact D
 rw[Bool.true_and]
 cases b3
 ·rw[Bool.false_and]
  refine T ?_
  refine C q0 F235 ?_
  refine C q1 F349 ?_
  refine C q2 F349 ?_
  refine C q3 F350 ?_
  refine An 2 (Ay { lineZ with row:=row,kind:=2,dev:=dev,port:=port,cost:=cost,vlan:=vlan,tagged:=tagged }) rfl (.cons (.refl _) (.cons (.refl _) (.cons (.refl _) (.cons (.refl _) (.cons (.refl _) (.cons (.refl _) (.cons (.refl _) (.cons (.refl _) (.cons (.refl _) (.cons (.refl _) (.cons (.refl _) (.cons (.refl _) (.cons (.refl _) (.cons (.refl _) (.cons .nil (.cons .nil (.cons .nil .nil))))))))))))))))) ?_
  refine T ?_
  exact D
 rw[Bool.true_and]
 refine T ?_
 refine C q0 F235 ?_
 refine C q1 F349 ?_
 refine C q2 F349 ?_
 refine C q3 F350 ?_
 refine C q4 F239 ?_
 refine An 2 (Ay { lineZ with row:=row,kind:=2,dev:=dev,port:=port,cost:=cost,vlan:=vlan,tagged:=tagged }) rfl (.cons (.refl _) (.cons (.refl _) (.cons (.refl _) (.cons (.refl _) (.cons (.refl _) (.cons (.refl _) (.cons (.refl _) (.cons (.refl _) (.cons (.refl _) (.cons (.refl _) (.cons (.refl _) (.cons (.refl _) (.cons (.refl _) (.cons (.refl _) (.cons .nil (.cons .nil (.cons .nil .nil))))))))))))))))) ?_
 refine T ?_
 exact D
theorem Aaq (l:LineM) (hw:LineW l) (hk:l.kind=3):Sy.Spec Tryz.prog 298 [Ac l] [] (.tup [Ac (Aq l).1,Af (Aq l).2]) []:=cT F298 Tryz.ntmps298 fun F hF=>by
 have hU:Aq l=({ lineZ with row:=l.row,kind:=3,dev:=l.dev,port:=l.port,peer:=l.peer,far:=l.far },(nameB l.port && (nameB l.peer && nameB l.far))):=by
  simp only[Aq,hk]
  rfl
 rw[hU]
 have q0:=E8 l.port (by have:=hw.port;omega)
 have q1:=E8 l.peer (by have:=hw.peer;omega)
 have q2:=E8 l.far (by have:=hw.far;omega)
 obtain ⟨row,kind,dev,port,peer,far,name,mac,addr,bits,vlan,num,cost,tagged,imports,exports,addrs⟩:=l
 dsimp only at hk q0 q1 q2 ⊢
 subst hk
 clear hU hw
 generalize nameB port=b0 at *
 generalize nameB peer=b1 at *
 generalize nameB far=b2 at *
 cases b0
 ·rw[Bool.false_and]
  refine T ?_
  refine C q0 F235 ?_
  refine An 2 (Ay { lineZ with row:=row,kind:=3,dev:=dev,port:=port,peer:=peer,far:=far }) rfl (.cons (.refl _) (.cons (.refl _) (.cons (.refl _) (.cons (.refl _) (.cons (.refl _) (.cons (.refl _) (.cons (.refl _) (.cons (.refl _) (.cons (.refl _) (.cons (.refl _) (.cons (.refl _) (.cons (.refl _) (.cons (.refl _) (.cons .nil (.cons .nil (.cons .nil (.cons .nil .nil))))))))))))))))) ?_
  refine T ?_
  exact D
 rw[Bool.true_and]
 cases b1
 ·rw[Bool.false_and]
  refine T ?_
  refine C q0 F235 ?_
  refine C q1 F235 ?_
  refine An 2 (Ay { lineZ with row:=row,kind:=3,dev:=dev,port:=port,peer:=peer,far:=far }) rfl (.cons (.refl _) (.cons (.refl _) (.cons (.refl _) (.cons (.refl _) (.cons (.refl _) (.cons (.refl _) (.cons (.refl _) (.cons (.refl _) (.cons (.refl _) (.cons (.refl _) (.cons (.refl _) (.cons (.refl _) (.cons (.refl _) (.cons .nil (.cons .nil (.cons .nil (.cons .nil .nil))))))))))))))))) ?_
  refine T ?_
  exact D
 rw[Bool.true_and]
 refine T ?_
 refine C q0 F235 ?_
 refine C q1 F235 ?_
 refine C q2 F235 ?_
 refine An 2 (Ay { lineZ with row:=row,kind:=3,dev:=dev,port:=port,peer:=peer,far:=far }) rfl (.cons (.refl _) (.cons (.refl _) (.cons (.refl _) (.cons (.refl _) (.cons (.refl _) (.cons (.refl _) (.cons (.refl _) (.cons (.refl _) (.cons (.refl _) (.cons (.refl _) (.cons (.refl _) (.cons (.refl _) (.cons (.refl _) (.cons .nil (.cons .nil (.cons .nil (.cons .nil .nil))))))))))))))))) ?_
 refine T ?_
 exact D
theorem Aap (l:LineM) (hw:LineW l) (hk:l.kind=4):Sy.Spec Tryz.prog 298 [Ac l] [] (.tup [Ac (Aq l).1,Af (Aq l).2]) []:=cT F298 Tryz.ntmps298 fun F hF=>by
 have hU:Aq l=({ lineZ with row:=l.row,kind:=4,dev:=l.dev,vlan:=l.vlan,mac:=l.mac,port:=l.port },(Bg l.vlan 1 4094 && (statB l.mac && nameB l.port))):=by
  simp only[Aq,hk]
  rfl
 rw[hU]
 have q0:=Dn l.vlan 1 4094
 have q1:Sy.Spec Tryz.prog 238 [Bh l.mac] [] (Af (statB l.mac)) []:=by
  have:=hw.ok.mac
  obtain ⟨m,hm1⟩:∃ m:Nat,l.mac=m:=⟨l.mac.toNat,by omega⟩
  rw[hm1];exact Te m j_
 have q2:=E8 l.port (by have:=hw.port;omega)
 obtain ⟨row,kind,dev,port,peer,far,name,mac,addr,bits,vlan,num,cost,tagged,imports,exports,addrs⟩:=l
 dsimp only at hk q0 q1 q2 ⊢
 subst hk
 clear hU hw
 generalize Bg vlan 1 4094=b0 at *
 generalize statB mac=b1 at *
 generalize nameB port=b2 at *
 cases b0
 ·rw[Bool.false_and]
  refine T ?_
  refine C q0 F349 ?_
  refine An 2 (Ay { lineZ with row:=row,kind:=4,dev:=dev,vlan:=vlan,mac:=mac,port:=port }) rfl (.cons (.refl _) (.cons (.refl _) (.cons (.refl _) (.cons (.refl _) (.cons (.refl _) (.cons (.refl _) (.cons (.refl _) (.cons (.refl _) (.cons (.refl _) (.cons (.refl _) (.cons (.refl _) (.cons (.refl _) (.cons (.refl _) (.cons .nil (.cons .nil (.cons .nil (.cons .nil .nil))))))))))))))))) ?_
  refine T ?_
  exact D
 rw[Bool.true_and]
 cases b1
 ·rw[Bool.false_and]
  refine T ?_
  refine C q0 F349 ?_
  refine C q1 F238 ?_
  refine An 2 (Ay { lineZ with row:=row,kind:=4,dev:=dev,vlan:=vlan,mac:=mac,port:=port }) rfl (.cons (.refl _) (.cons (.refl _) (.cons (.refl _) (.cons (.refl _) (.cons (.refl _) (.cons (.refl _) (.cons (.refl _) (.cons (.refl _) (.cons (.refl _) (.cons (.refl _) (.cons (.refl _) (.cons (.refl _) (.cons (.refl _) (.cons .nil (.cons .nil (.cons .nil (.cons .nil .nil))))))))))))))))) ?_
  refine T ?_
  exact D
 rw[Bool.true_and]
 refine T ?_
 refine C q0 F349 ?_
 refine C q1 F238 ?_
 refine C q2 F235 ?_
 refine An 2 (Ay { lineZ with row:=row,kind:=4,dev:=dev,vlan:=vlan,mac:=mac,port:=port }) rfl (.cons (.refl _) (.cons (.refl _) (.cons (.refl _) (.cons (.refl _) (.cons (.refl _) (.cons (.refl _) (.cons (.refl _) (.cons (.refl _) (.cons (.refl _) (.cons (.refl _) (.cons (.refl _) (.cons (.refl _) (.cons (.refl _) (.cons .nil (.cons .nil (.cons .nil (.cons .nil .nil))))))))))))))))) ?_
 refine T ?_
 exact D
theorem Aan (l:LineM) (hw:LineW l) (hk:l.kind=6):Sy.Spec Tryz.prog 298 [Ac l] [] (.tup [Ac (Aq l).1,Af (Aq l).2]) []:=cT F298 Tryz.ntmps298 fun F hF=>by
 have hU:Aq l=({ lineZ with row:=l.row,kind:=6,dev:=l.dev,vlan:=l.vlan,num:=l.num },(Bg l.vlan 1 4094 && Bg l.num 1 16777215)):=by
  simp only[Aq,hk]
  rfl
 rw[hU]
 have q0:=Dn l.vlan 1 4094
 have q1:=Dn l.num 1 16777215
 obtain ⟨row,kind,dev,port,peer,far,name,mac,addr,bits,vlan,num,cost,tagged,imports,exports,addrs⟩:=l
 dsimp only at hk q0 q1 ⊢
 subst hk
 clear hU hw
 generalize Bg vlan 1 4094=b0 at *
 generalize Bg num 1 16777215=b1 at *
 cases b0
 ·rw[Bool.false_and]
  refine T ?_
  refine C q0 F349 ?_
  refine An 2 (Ay { lineZ with row:=row,kind:=6,dev:=dev,vlan:=vlan,num:=num }) rfl (.cons (.refl _) (.cons (.refl _) (.cons (.refl _) (.cons (.refl _) (.cons (.refl _) (.cons (.refl _) (.cons (.refl _) (.cons (.refl _) (.cons (.refl _) (.cons (.refl _) (.cons (.refl _) (.cons (.refl _) (.cons (.refl _) (.cons .nil (.cons .nil (.cons .nil (.cons .nil .nil))))))))))))))))) ?_
  refine T ?_
  exact D
 rw[Bool.true_and]
 refine T ?_
 refine C q0 F349 ?_
 refine C q1 F349 ?_
 refine An 2 (Ay { lineZ with row:=row,kind:=6,dev:=dev,vlan:=vlan,num:=num }) rfl (.cons (.refl _) (.cons (.refl _) (.cons (.refl _) (.cons (.refl _) (.cons (.refl _) (.cons (.refl _) (.cons (.refl _) (.cons (.refl _) (.cons (.refl _) (.cons (.refl _) (.cons (.refl _) (.cons (.refl _) (.cons (.refl _) (.cons .nil (.cons .nil (.cons .nil (.cons .nil .nil))))))))))))))))) ?_
 refine T ?_
 exact D
theorem Aam (l:LineM) (hw:LineW l) (hk:l.kind=7):Sy.Spec Tryz.prog 298 [Ac l] [] (.tup [Ac (Aq l).1,Af (Aq l).2]) []:=cT F298 Tryz.ntmps298 fun F hF=>by
 have hU:Aq l=({ lineZ with row:=l.row,kind:=7,dev:=l.dev,num:=l.num,addrs:=l.addrs },(Bg l.num 1 16777215 && Hf l.addrs)):=by
  simp only[Aq,hk]
  rfl
 rw[hU]
 have q0:=Dn l.num 1 16777215
 have q1:=Aa3 l.addrs hw.fin.a
 obtain ⟨row,kind,dev,port,peer,far,name,mac,addr,bits,vlan,num,cost,tagged,imports,exports,addrs⟩:=l
 dsimp only at hk q0 q1 ⊢
 subst hk
 clear hU hw
 generalize Bg num 1 16777215=b0 at *
 generalize Hf addrs=b1 at *
 cases b0
 ·rw[Bool.false_and]
  refine T ?_
  refine C q0 F349 ?_
  refine An 2 (Ay { lineZ with row:=row,kind:=7,dev:=dev,num:=num,addrs:=addrs }) rfl (.cons (.refl _) (.cons (.refl _) (.cons (.refl _) (.cons (.refl _) (.cons (.refl _) (.cons (.refl _) (.cons (.refl _) (.cons (.refl _) (.cons (.refl _) (.cons (.refl _) (.cons (.refl _) (.cons (.refl _) (.cons (.refl _) (.cons .nil (.cons .nil (.cons .nil (.cons (.refl _) .nil))))))))))))))))) ?_
  refine T ?_
  exact D
 rw[Bool.true_and]
 refine T ?_
 refine C q0 F349 ?_
 refine C q1 F351 ?_
 refine An 2 (Ay { lineZ with row:=row,kind:=7,dev:=dev,num:=num,addrs:=addrs }) rfl (.cons (.refl _) (.cons (.refl _) (.cons (.refl _) (.cons (.refl _) (.cons (.refl _) (.cons (.refl _) (.cons (.refl _) (.cons (.refl _) (.cons (.refl _) (.cons (.refl _) (.cons (.refl _) (.cons (.refl _) (.cons (.refl _) (.cons .nil (.cons .nil (.cons .nil (.cons (.refl _) .nil))))))))))))))))) ?_
 refine T ?_
 exact D
theorem Aal (l:LineM) (hw:LineW l) (hk:l.kind=8):Sy.Spec Tryz.prog 298 [Ac l] [] (.tup [Ac (Aq l).1,Af (Aq l).2]) []:=cT F298 Tryz.ntmps298 fun F hF=>by
 have hU:Aq l=({ lineZ with row:=l.row,kind:=8,dev:=l.dev,name:=l.name,imports:=l.imports,exports:=l.exports },(nameB l.name && (Cs l.imports 65535 && Cs l.exports 65535))):=by
  simp only[Aq,hk]
  rfl
 rw[hU]
 have q0:=E8 l.name (by have:=hw.name;omega)
 have q1:=Ow l.imports 65535 hw.fin.i
 have q2:=Ow l.exports 65535 hw.fin.e
 obtain ⟨row,kind,dev,port,peer,far,name,mac,addr,bits,vlan,num,cost,tagged,imports,exports,addrs⟩:=l
 dsimp only at hk q0 q1 q2 ⊢
 subst hk
 clear hU hw
 generalize nameB name=b0 at *
 generalize Cs imports 65535=b1 at *
 generalize Cs exports 65535=b2 at *
 cases b0
 ·rw[Bool.false_and]
  refine T ?_
  refine C q0 F235 ?_
  refine An 2 (Ay { lineZ with row:=row,kind:=8,dev:=dev,name:=name,imports:=imports,exports:=exports }) rfl (.cons (.refl _) (.cons (.refl _) (.cons (.refl _) (.cons (.refl _) (.cons (.refl _) (.cons (.refl _) (.cons (.refl _) (.cons (.refl _) (.cons (.refl _) (.cons (.refl _) (.cons (.refl _) (.cons (.refl _) (.cons (.refl _) (.cons .nil (.cons (.refl _) (.cons (.refl _) (.cons .nil .nil))))))))))))))))) ?_
  refine T ?_
  exact D
 rw[Bool.true_and]
 cases b1
 ·rw[Bool.false_and]
  refine T ?_
  refine C q0 F235 ?_
  refine C q1 F350 ?_
  refine An 2 (Ay { lineZ with row:=row,kind:=8,dev:=dev,name:=name,imports:=imports,exports:=exports }) rfl (.cons (.refl _) (.cons (.refl _) (.cons (.refl _) (.cons (.refl _) (.cons (.refl _) (.cons (.refl _) (.cons (.refl _) (.cons (.refl _) (.cons (.refl _) (.cons (.refl _) (.cons (.refl _) (.cons (.refl _) (.cons (.refl _) (.cons .nil (.cons (.refl _) (.cons (.refl _) (.cons .nil .nil))))))))))))))))) ?_
  refine T ?_
  exact D
 rw[Bool.true_and]
 refine T ?_
 refine C q0 F235 ?_
 refine C q1 F350 ?_
 refine C q2 F350 ?_
 refine An 2 (Ay { lineZ with row:=row,kind:=8,dev:=dev,name:=name,imports:=imports,exports:=exports }) rfl (.cons (.refl _) (.cons (.refl _) (.cons (.refl _) (.cons (.refl _) (.cons (.refl _) (.cons (.refl _) (.cons (.refl _) (.cons (.refl _) (.cons (.refl _) (.cons (.refl _) (.cons (.refl _) (.cons (.refl _) (.cons (.refl _) (.cons .nil (.cons (.refl _) (.cons (.refl _) (.cons .nil .nil))))))))))))))))) ?_
 refine T ?_
 exact D
theorem Aak (l:LineM) (hw:LineW l) (hk:l.kind=9):Sy.Spec Tryz.prog 298 [Ac l] [] (.tup [Ac (Aq l).1,Af (Aq l).2]) []:=cT F298 Tryz.ntmps298 fun F hF=>by
 have hU:Aq l=({ lineZ with row:=l.row,kind:=9,dev:=l.dev,vlan:=l.vlan,name:=l.name,addr:=l.addr,bits:=l.bits },(Bg l.vlan 1 4094 && (nameB l.name && subnetB l.addr l.bits))):=by
  simp only[Aq,hk]
  rfl
 rw[hU]
 have q0:=Dn l.vlan 1 4094
 have q1:=E8 l.name (by have:=hw.name;omega)
 have q2:Sy.Spec Tryz.prog 193 [B8 l.addr l.bits] [] (Af (subnetB l.addr l.bits)) []:=by
  have:=hw.ok.addr
  obtain ⟨m,hm1⟩:∃ m:Nat,l.addr=m:=⟨l.addr.toNat,by omega⟩
  rw[hm1];exact Qt m l.bits j_
 obtain ⟨row,kind,dev,port,peer,far,name,mac,addr,bits,vlan,num,cost,tagged,imports,exports,addrs⟩:=l
 dsimp only at hk q0 q1 q2 ⊢
 subst hk
 clear hU hw
 generalize Bg vlan 1 4094=b0 at *
 generalize nameB name=b1 at *
 generalize subnetB addr bits=b2 at *
 cases b0
 ·rw[Bool.false_and]
  refine T ?_
  refine C q0 F349 ?_
  refine An 2 (Ay { lineZ with row:=row,kind:=9,dev:=dev,vlan:=vlan,name:=name,addr:=addr,bits:=bits }) rfl (.cons (.refl _) (.cons (.refl _) (.cons (.refl _) (.cons (.refl _) (.cons (.refl _) (.cons (.refl _) (.cons (.refl _) (.cons (.refl _) (.cons (.refl _) (.cons (.refl _) (.cons (.refl _) (.cons (.refl _) (.cons (.refl _) (.cons .nil (.cons .nil (.cons .nil (.cons .nil .nil))))))))))))))))) ?_
  refine T ?_
  exact D
 rw[Bool.true_and]
 cases b1
 ·rw[Bool.false_and]
  refine T ?_
  refine C q0 F349 ?_
  refine C q1 F235 ?_
  refine An 2 (Ay { lineZ with row:=row,kind:=9,dev:=dev,vlan:=vlan,name:=name,addr:=addr,bits:=bits }) rfl (.cons (.refl _) (.cons (.refl _) (.cons (.refl _) (.cons (.refl _) (.cons (.refl _) (.cons (.refl _) (.cons (.refl _) (.cons (.refl _) (.cons (.refl _) (.cons (.refl _) (.cons (.refl _) (.cons (.refl _) (.cons (.refl _) (.cons .nil (.cons .nil (.cons .nil (.cons .nil .nil))))))))))))))))) ?_
  refine T ?_
  exact D
 rw[Bool.true_and]
 refine T ?_
 refine C q0 F349 ?_
 refine C q1 F235 ?_
 refine C q2 F193 ?_
 refine An 2 (Ay { lineZ with row:=row,kind:=9,dev:=dev,vlan:=vlan,name:=name,addr:=addr,bits:=bits }) rfl (.cons (.refl _) (.cons (.refl _) (.cons (.refl _) (.cons (.refl _) (.cons (.refl _) (.cons (.refl _) (.cons (.refl _) (.cons (.refl _) (.cons (.refl _) (.cons (.refl _) (.cons (.refl _) (.cons (.refl _) (.cons (.refl _) (.cons .nil (.cons .nil (.cons .nil (.cons .nil .nil))))))))))))))))) ?_
 refine T ?_
 exact D
theorem Aao (l:LineM) (hw:LineW l) (hk:l.kind=5):Sy.Spec Tryz.prog 298 [Ac l] [] (.tup [Ac (Aq l).1,Af (Aq l).2]) []:=cT F298 Tryz.ntmps298 fun F hF=>by
 have hU:Aq l=({ lineZ with row:=l.row,kind:=5,dev:=l.dev,addr:=l.addr },decide (l.addr≠0)):=by
  simp only[Aq,hk]
  rfl
 rw[hU]
 obtain ⟨row,kind,dev,port,peer,far,name,mac,addr,bits,vlan,num,cost,tagged,imports,exports,addrs⟩:=l
 dsimp only at hk ⊢
 subst hk
 clear hU hw
 have hb:decide (addr≠0)=(addr != 0):=by
  by_cases h:addr=0
  ·rw[h];rfl
  ·rw[decide_eq_true h,bne_iff_ne.2 h]
 rw[hb]
 refine T ?_
 refine An 2 (Ay { lineZ with row:=row,kind:=5,dev:=dev,addr:=addr }) rfl (.cons (.refl _) (.cons (.refl _) (.cons (.refl _) (.cons (.refl _) (.cons (.refl _) (.cons (.refl _) (.cons (.refl _) (.cons (.refl _) (.cons (.refl _) (.cons (.refl _) (.cons (.refl _) (.cons (.refl _) (.cons (.refl _) (.cons .nil (.cons .nil (.cons .nil (.cons .nil .nil))))))))))))))))) ?_
 refine T ?_
 exact D
theorem Aat (l:LineM) (hk:¬ (1≤l.kind∧l.kind≤9)):Sy.Spec Tryz.prog 298 [Ac l] [] (.tup [Ac (Aq l).1,Af (Aq l).2]) []:=cT F298 Tryz.ntmps298 fun F hF=>by
 have n1:¬ l.kind=1:=by omega
 have f1:(l.kind == 1)=false:=beq_eq_false_iff_ne.2 n1
 have n2:¬ l.kind=2:=by omega
 have f2:(l.kind == 2)=false:=beq_eq_false_iff_ne.2 n2
 have n3:¬ l.kind=3:=by omega
 have f3:(l.kind == 3)=false:=beq_eq_false_iff_ne.2 n3
 have n4:¬ l.kind=4:=by omega
 have f4:(l.kind == 4)=false:=beq_eq_false_iff_ne.2 n4
 have n5:¬ l.kind=5:=by omega
 have f5:(l.kind == 5)=false:=beq_eq_false_iff_ne.2 n5
 have n6:¬ l.kind=6:=by omega
 have f6:(l.kind == 6)=false:=beq_eq_false_iff_ne.2 n6
 have n7:¬ l.kind=7:=by omega
 have f7:(l.kind == 7)=false:=beq_eq_false_iff_ne.2 n7
 have n8:¬ l.kind=8:=by omega
 have f8:(l.kind == 8)=false:=beq_eq_false_iff_ne.2 n8
 have n9:¬ l.kind=9:=by omega
 have f9:(l.kind == 9)=false:=beq_eq_false_iff_ne.2 n9
 have hU:Aq l=({ lineZ with row:=l.row,kind:=l.kind,dev:=l.dev },false):=by
  simp only[Aq,if_neg n1,if_neg n2,if_neg n3,if_neg n4,if_neg n5,if_neg n6,if_neg n7,if_neg n8,if_neg n9]
 rw[hU]
 refine T ?_
 refine An 2 (Ay { lineZ with row:=l.row,kind:=l.kind,dev:=l.dev }) rfl (.cons (.refl _) (.cons (.refl _) (.cons (.refl _) (.cons (.refl _) (.cons (.refl _) (.cons (.refl _) (.cons (.refl _) (.cons (.refl _) (.cons (.refl _) (.cons (.refl _) (.cons (.refl _) (.cons (.refl _) (.cons (.refl _) (.cons .nil (.cons .nil (.cons .nil (.cons .nil .nil))))))))))))))))) ?_
 refine T ?_
 exact D
theorem Ado (l:LineM) (hw:LineW l):Sy.Spec Tryz.prog 298 [Ac l] [] (.tup [Ac (Aq l).1,Af (Aq l).2]) []:=by
 by_cases hk:1≤l.kind∧l.kind≤9
 ·rcases (by omega:l.kind=1∨l.kind=2∨l.kind=3∨l.kind=4∨l.kind=5∨l.kind=6∨l.kind=7∨l.kind=8∨l.kind=9) with h | h | h | h | h | h | h | h | h
  ·exact Aas l hw h
  ·exact Aar l hw h
  ·exact Aaq l hw h
  ·exact Aap l hw h
  ·exact Aao l hw h
  ·exact Aan l hw h
  ·exact Aam l hw h
  ·exact Aal l hw h
  ·exact Aak l hw h
 ·exact Aat l hk
theorem Adh {l:LineM} (h:LineFin l):LineFin (Aq l).1:=by
 have ht:=h.t;have hi:=h.i;have he:=h.e;have haa:=h.a
 unfold Aq
 dsimp only
 repeat' split
 all_goals exact⟨by first | exact ht | (show 0≤100000;decide),by first | exact hi | (show 0≤100000;decide),by first | exact he | (show 0≤100000;decide),by first | exact haa | (show 0≤100000;decide)⟩
theorem De (l:LineM) (hw:LineW l):Sy.Spec Tryz.prog 246 [Ac l] [] (Af (A7 l)) []:=cT F246 Tryz.ntmps246 fun F hF=>by
 have q1:=Ado l hw
 have q2:=E8 l.dev (by have:=hw.dev;omega)
 have q3:=Adq (Aq l).1 l (Adh hw.fin) hw.fin
 rw[A7]
 generalize Aq l=u at *
 obtain ⟨ul,ub⟩:=u
 dsimp only at q1 q3 ⊢
 cases ub
 ·rw[Bool.false_and]
  refine T ?_
  refine C q1 F298 ?_
  exact D
 rw[Bool.true_and]
 cases hn:nameB l.dev
 ·rw[hn]at q2
  rw[Bool.false_and]
  refine T ?_
  refine C q1 F298 ?_
  refine C q2 F235 ?_
  exact D
 rw[hn]at q2
 rw[Bool.true_and]
 refine T ?_
 refine C q1 F298 ?_
 refine C q2 F235 ?_
 refine C q3 F50 ?_
 exact D
theorem Aep (i:Nat) (hi:i<6):Sy.Spec Tryz.prog 299 [Aa i] [] (Bh ((8 * (5-i):Nat):Int)) []:=cT F299 Tryz.ntmps299 fun F hF=>by
 refine T ?_
 refine Bv q_ (.cons .tmp .nil) (congrArg (fun z=>SV.val (.int .u64 z)) (?_:_=IntKind.u64.wrap (8 * (5-(i:Int))))) q_
 rw[IntKind.wrap_u64];omega
theorem Acg (m j:Nat) (hm:m<18446744073709551616) (hj:j<6):IntKind.u8.wrap ((m:Int).fdiv (2 ^ (min (((8 * (5-j):Nat):Int)).toNat IntKind.u64.bits)))=((byteN m j:Nat):Int):=by
 have hb:min (((8 * (5-j):Nat):Int)).toNat IntKind.u64.bits=8 * (5-j):=by show min _ 64=_;omega
 have hp:(2:Nat) ^ (8 * (5-j))=256 ^ (5-j):=by rw[Nat.pow_mul]
 rw[hb,show (2:Int) ^ (8 * (5-j))=((2 ^ (8 * (5-j)):Nat):Int) by rw[Int.natCast_pow];rfl,hp,Int.fdiv_eq_ediv_of_nonneg _ (Int.natCast_nonneg _),← Int.natCast_ediv,byteN,IntKind.wrap_u8]
 omega
theorem Od (m:Nat):∀ j,(Iz m j).length≤3 * j
 | 0=>by simp[Iz]
 | j+1=>by
  have:=Od m j
  rw[Iz,List.length_append,List.length_append]
  split<;>simp<;>omega
theorem Ahk:∀ k:Fin 16,Ad (⟨#[48,49,50,51,52,53,54,55,56,57,97,98,99,100,101,102]⟩:ByteArray) k.1=B6 k.1:=by decide +kernel
theorem Aci:∀ k:Fin 256,bits .and .u8 (k.1:Int) 15=((k.1 % 16:Nat):Int):=by decide +kernel
theorem Af0 (c:Nat):(c:Int).fdiv (2 ^ min (Int.toNat 4) IntKind.u8.bits)=((c / 16:Nat):Int):=by
 show (c:Int).fdiv 16=_
 rw[Int.fdiv_eq_ediv_of_nonneg _ qe,Int.natCast_ediv];rfl
theorem Zi (m:Nat) (h_:m<18446744073709551616):Sy.Spec Tryz.prog 249 [Bh m] [] (Ab (Ao m)) []:=cT F249 Tryz.ntmps249 fun F hF=>by
 refine T ?_
 refine Ct 3 1000 1 Ak q_ q_ ?_
 refine T ?_
 refine Dk 6 (fun j=>[(0,Bh m),(3,.osl 1000),(6,Aa j)]) (fun j=>[(1000,.row 1 Ak (Iz m j))]) [] U ?_
 intro j hj
 have hlu:=Od m j
 have hsu:Iz m (j+1)=Iz m j++(if 0<j then [58] else [])++[B6 (byteN m j / 16),B6 (byteN m j % 16)]:=rfl
 generalize hu:Iz m j=u at *
 refine T ?_
 refine⟨fun h=>?_,fun h=>?_⟩
 ·have hlt:j<6:=qA h
  have hsh:=Acg m j h_ hlt
  clear h
  refine T ?_
  refine C (Aep j hlt) F299 ?_
  rw[hsh]
  have hbn:byteN m j<256:=Nat.mod_lt _ qe
  generalize byteN m j=c at *
  have hsz:(⟨#[48,49,50,51,52,53,54,55,56,57,97,98,99,100,101,102]⟩:ByteArray).size=16:=rfl
  have g1:0≤(c:Int).fdiv (2 ^ min (Int.toNat 4) IntKind.u8.bits):=by rw[Af0];omega
  have g2:((c:Int).fdiv (2 ^ min (Int.toNat 4) IntKind.u8.bits)).toNat<(⟨#[48,49,50,51,52,53,54,55,56,57,97,98,99,100,101,102]⟩:ByteArray).size:=by rw[Af0,hsz];omega
  have g3:0≤bits .and .u8 (c:Int) 15:=by rw[Aci ⟨c,hbn⟩];omega
  have g4:(bits .and .u8 (c:Int) 15).toNat<(⟨#[48,49,50,51,52,53,54,55,56,57,97,98,99,100,101,102]⟩:ByteArray).size:=by rw[Aci ⟨c,hbn⟩,hsz];show ((c % 16:Nat):Int).toNat<16;omega
  have x1:Ad (⟨#[48,49,50,51,52,53,54,55,56,57,97,98,99,100,101,102]⟩:ByteArray) ((c:Int).fdiv (2 ^ min (Int.toNat 4) IntKind.u8.bits)).toNat=B6 (c / 16):=by
   rw[Af0,Int.toNat_natCast];exact Ahk ⟨c / 16,by omega⟩
  have x2:Ad (⟨#[48,49,50,51,52,53,54,55,56,57,97,98,99,100,101,102]⟩:ByteArray) (bits .and .u8 (c:Int) 15).toNat=B6 (c % 16):=by
   rw[Aci ⟨c,hbn⟩,Int.toNat_natCast];exact Ahk ⟨c % 16,by omega⟩
  rw[← x1,← x2]at hsu
  by_cases h0:0<j
  ·rw[if_pos h0]at hsu
   refine T ?_
   refine X (Ai Γ.toTy 18 q_ q_ q_ q_ q_ (.row q_) (.lit (e:=Ak) (l:=[58]) q_ q_) qe (by simp;omega) (by simp;omega)) ?_
   refine Xd (Ai Γ.toTy 27 q_ q_ q_ q_ q_ (.row q_) (.lit (e:=Ak) (l:=[Ad (⟨#[48,49,50,51,52,53,54,55,56,57,97,98,99,100,101,102]⟩:ByteArray) ((c:Int).fdiv (2 ^ min (Int.toNat 4) IntKind.u8.bits)).toNat,Ad (⟨#[48,49,50,51,52,53,54,55,56,57,97,98,99,100,101,102]⟩:ByteArray) (bits .and .u8 (c:Int) 15).toNat]) q_ q_) qe (by simp;omega) (by simp;omega)) ?_
   exact Dr [(1000,27)] hlt ⟨⟨q_,q_,q_,q_,q_,q_,z_⟩,⟨.inl (congrArg (Ob.row 1 Ak) hsu),q_,z_⟩,q_,q_⟩
  ·rw[if_neg h0,List.append_nil]at hsu
   refine T ?_
   refine Xd (Ai Γ.toTy 27 q_ q_ q_ q_ q_ (.row q_) (.lit (e:=Ak) (l:=[Ad (⟨#[48,49,50,51,52,53,54,55,56,57,97,98,99,100,101,102]⟩:ByteArray) ((c:Int).fdiv (2 ^ min (Int.toNat 4) IntKind.u8.bits)).toNat,Ad (⟨#[48,49,50,51,52,53,54,55,56,57,97,98,99,100,101,102]⟩:ByteArray) (bits .and .u8 (c:Int) 15).toNat]) q_ q_) qe (by simp;omega) (by simp;omega)) ?_
   exact Dr [(1000,27)] hlt ⟨⟨q_,q_,q_,q_,q_,q_,z_⟩,⟨.inl (congrArg (Ob.row 1 Ak) hsu),q_,z_⟩,q_,q_⟩
 ·have:j=6:=qB h
  subst this
  subst hu
  clear h
  refine T ?_
  refine X (Bk Γ.toTy (bs:=Iz m 6) q_ q_ q_ q_ q_ q_ q_ (.row q_)) ?_
  exact D
theorem Ia {α:Type} {tx:α→ByteArray}:∀ (l:List α),(∀ x∈l,(tx x).size≤100)→Ea (l.map tx)≤100 * l.length
 | [],_=>by simp[Ea]
 | x::l,h=>by
  have h1:=h x qf
  have h2:=Ia l (fun y hy=>h y (by simp[hy]))
  simp only[Ea,List.map_cons,List.sum_cons,List.length_cons]at h2 ⊢
  omega
theorem Xf (tx:Int→ByteArray) (f:FuncId) (first cap:List SV) (hc:(SV.clo (.func f) first cap).inn []=true) (hr:∀ ρ:Nat→Nat,(SV.clo (.func f) first cap).ren ρ=.clo (.func f) first cap) (l:List Int) (hl:l.length≤100000) (hz:∀ x∈l,(tx x).size≤100) (hf:∀ x∈l,Su Tryz.prog f (first++[Aa x]++cap) (Ab (tx x))) :
  Sy.Spec Tryz.prog 352 [.sl 1 Aa l,.clo (.func f) first cap] [] (Ab (Bn (l.map tx) comma)) []:=cT F352 Tryz.ntmps352 fun F hF=>by
 have hc':(SV.clo (.func f) first cap).inn [1000]=true:=Ek _ hc
 have hin:∀ y:SV,y.inn []=true→Cg [] (first++[y]++cap)=true:=fun y hy=>by
  simp only[SV.inn,Bool.and_eq_true]at hc
  rw[Co,Co,hc.1,hc.2]
  simp[Cg,hy]
 have hs:Ea (l.map tx)≤100 * l.length:=Ia l hz
 have q2:=Td (l.map tx) comma (by simp;omega) j_ (by rw[List.length_map];show 1 * l.length≤_;omega)
 refine T ?_
 refine Ct 5 1000 1 Ab q_ q_ ?_
 refine T ?_
 refine Dk l.length (fun j=>[(1,.clo (.func f) first cap),(5,.osl 1000),(8,.sl 1 Aa l),(9,Aa l.length),(10,Aa j)]) (fun j=>[(1000,.row 1 Ab ((l.take j).map tx))]) [] ⟨⟨Bo _,hc',q_,q_,q_,q_,q_,q_,q_,q_,z_⟩,⟨.inl q_,q_,z_⟩,q_,q_⟩ ?_
 intro j hj
 refine T ?_
 refine⟨fun h=>?_,fun h=>?_⟩
 ·have hlt:j<l.length:=qA h
  have hlt0:((j:Nat):Int).toNat<l.length:=hlt
  clear h
  have q1:=hf (l[((j:Nat):Int).toNat]'hlt0) (List.getElem_mem _)
  refine T ?_
  refine Ac8 q1 q_ q_ q_ (by simp only[hin (Aa (l[((j:Nat):Int).toNat]'hlt0)) q_];rfl) q_ q_ ?_
  refine T ?_
  refine X (Ai Γ.toTy 19 q_ q_ q_ q_ q_ (.row q_) (.lit (e:=Ab) (l:=[tx (l[((j:Nat):Int).toNat]'hlt0)]) q_ q_) qe (by simp;omega) (by simp;omega)) ?_
  refine Dr [(1000,19)] hlt ⟨⟨hr _,hc',q_,q_,q_,q_,q_,q_,q_,q_,z_⟩,⟨.inl (congrArg (Ob.row 1 Ab) ?_),q_,z_⟩,q_,q_⟩
  rw[List.take_succ_eq_append_getElem hlt,List.map_append]
  rfl
 ·have hje:j=l.length:=qB h
  subst hje
  clear h
  rw[List.take_length]
  refine T ?_
  refine A5 1000 q_ ?_
  refine C q2 F255 ?_
  exact D
theorem Xc (tx:Int→ByteArray) (f:FuncId) (first cap:List SV) (hc:(SV.clo (.func f) first cap).inn []=true) (hr:∀ ρ:Nat→Nat,(SV.clo (.func f) first cap).ren ρ=.clo (.func f) first cap) (l:List Int) (hl:l.length≤100000) (hz:∀ x∈l,(tx x).size≤100) (hf:∀ x∈l,Su Tryz.prog f (first++[A0 x]++cap) (Ab (tx x))) :
  Sy.Spec Tryz.prog 301 [.sl 1 A0 l,.clo (.func f) first cap] [] (Ab (Bn (l.map tx) comma)) []:=cT F301 Tryz.ntmps301 fun F hF=>by
 have hc':(SV.clo (.func f) first cap).inn [1000]=true:=Ek _ hc
 have hin:∀ y:SV,y.inn []=true→Cg [] (first++[y]++cap)=true:=fun y hy=>by
  simp only[SV.inn,Bool.and_eq_true]at hc
  rw[Co,Co,hc.1,hc.2]
  simp[Cg,hy]
 have hs:Ea (l.map tx)≤100 * l.length:=Ia l hz
 have q2:=Td (l.map tx) comma (by simp;omega) j_ (by rw[List.length_map];show 1 * l.length≤_;omega)
 refine T ?_
 refine Ct 5 1000 1 Ab q_ q_ ?_
 refine T ?_
 refine Dk l.length (fun j=>[(1,.clo (.func f) first cap),(5,.osl 1000),(8,.sl 1 A0 l),(9,Aa l.length),(10,Aa j)]) (fun j=>[(1000,.row 1 Ab ((l.take j).map tx))]) [] ⟨⟨Bo _,hc',q_,q_,q_,q_,q_,q_,q_,q_,z_⟩,⟨.inl q_,q_,z_⟩,q_,q_⟩ ?_
 intro j hj
 refine T ?_
 refine⟨fun h=>?_,fun h=>?_⟩
 ·have hlt:j<l.length:=qA h
  have hlt0:((j:Nat):Int).toNat<l.length:=hlt
  clear h
  have q1:=hf (l[((j:Nat):Int).toNat]'hlt0) (List.getElem_mem _)
  refine T ?_
  refine Ac8 q1 q_ q_ q_ (by simp only[hin (A0 (l[((j:Nat):Int).toNat]'hlt0)) q_];rfl) q_ q_ ?_
  refine T ?_
  refine X (Ai Γ.toTy 19 q_ q_ q_ q_ q_ (.row q_) (.lit (e:=Ab) (l:=[tx (l[((j:Nat):Int).toNat]'hlt0)]) q_ q_) qe (by simp;omega) (by simp;omega)) ?_
  refine Dr [(1000,19)] hlt ⟨⟨hr _,hc',q_,q_,q_,q_,q_,q_,q_,q_,z_⟩,⟨.inl (congrArg (Ob.row 1 Ab) ?_),q_,z_⟩,q_,q_⟩
  rw[List.take_succ_eq_append_getElem hlt,List.map_append]
  rfl
 ·have hje:j=l.length:=qB h
  subst hje
  clear h
  rw[List.take_length]
  refine T ?_
  refine A5 1000 q_ ?_
  refine C q2 F255 ?_
  exact D
theorem Aeq (l:List Int) (hl:l.length≤100000) (hw:∀ x∈l,Dq x):Sy.Spec Tryz.prog 302 [.sl 1 Aa l] [] (Ab (Dz l)) []:=cT F302 Tryz.ntmps302 fun F hF=>by
 have q:=Xf Al 247 [] [] rfl (fun _=>rfl) l hl (fun x hx=>by have:=D3 (hw x hx);omega) (fun x hx=>⟨⟨_,_,F247⟩,Bi x (hw x hx)⟩)
 rw[Dz]
 generalize Bn (l.map Al) comma=r at *
 refine T ?_
 refine C q F352 ?_
 exact D
theorem Cy (a:Int):(Be a).size≤100:=by
 have:=Jz a.toNat 4
 rw[Be,Ax];omega
theorem Acl (l:List Int) (hl:l.length≤100000) (hw:∀ x∈l,0≤x∧x<4294967296):Sy.Spec Tryz.prog 252 [.sl 1 A0 l] [] (Ab (B9 l)) []:=cT F252 Tryz.ntmps252 fun F hF=>by
 have q:=Xc Be 251 [] [] rfl (fun _=>rfl) l hl (fun x hx=>Cy x) (fun x hx=>⟨⟨_,_,F251⟩,by
  obtain ⟨m,hm1⟩:∃ m:Nat,x=m:=⟨x.toNat,by have:=hw x hx;omega⟩
  have:=hw x hx
  rw[hm1];exact Qn m j_⟩)
 rw[B9]
 generalize Bn (l.map Be) comma=r at *
 refine T ?_
 refine C q F301 ?_
 exact D
theorem L7 (l:List Int) (hl:l.length≤100000) (hw:∀ x∈l,Dq x):Sy.Spec Tryz.prog 253 [.sl 1 Aa l] [] (Ab (By l)) []:=cT F253 Tryz.ntmps253 fun F hF=>by
 have q:=Aeq l hl hw
 rw[By]
 by_cases h0:l.length=0
 ·rw[if_pos (List.eq_nil_of_length_eq_zero h0)]
  have f0:((l.length:Int) == 0)=true:=by rw[h0];rfl
  refine T ?_
  exact D
 ·rw[if_neg (fun e=>h0 (by rw[e];rfl))]
  have f0:((l.length:Int) == 0)=false:=by rw[beq_eq_false_iff_ne];omega
  refine T ?_
  refine C q F302 ?_
  exact D
theorem Ds (svs:List SV):Sy.Spec Tryz.prog 248 [.osl 0] [(0,.lit 1 svs)] (.osl 0) [(0,.lit 1 svs)]:=cT F248 Tryz.ntmps248 fun F hF=>by
 refine T ?_
 exact done q_ (.cons .tmp .nil) [] [(0,.lit 1 svs)] (fun _ h=>h) q_ q_ ⟨z_,⟨.inl q_,q_,z_⟩,q_,q_⟩
theorem Yx (a:Nat) (b:Int) (ha:a<4294967296) (hb:0≤b∧b≤32):Sy.Spec Tryz.prog 254 [B8 a b] [] (Ab (B0 a b)) []:=cT F254 Tryz.ntmps254 fun F hF=>by
 have q1:=Ml (a:Int) b
 rw[decide_eq_true hb]at q1
 have q2:=Qn a ha
 have hsz:=Cy (a:Int)
 rw[B0,if_pos hb]
 generalize Be (a:Int)=t at *
 have q3:=Un b.toNat (t++(⟨#[47]⟩:ByteArray)).data.toList j_ (by
  have h1:=Bw 2 b.toNat j_
  have h2:(t++(⟨#[47]⟩:ByteArray)).data.toList.length=t.size+1:=by
   rw[show (t++(⟨#[47]⟩:ByteArray)).data.toList=t.data.toList++[47] from by simp]
   simp
  omega)
 rw[Int.toNat_of_nonneg hb.1]at q3
 have he:t.data.toList++[47]++(revDigs b.toNat).reverse=(t++(⟨#[47]⟩:ByteArray)).data.toList++(revDigs b.toNat).reverse:=by
  rw[show (t++(⟨#[47]⟩:ByteArray)).data.toList=t.data.toList++[47] from by simp]
 rw[he]
 refine T ?_
 refine C q1 F296 ?_
 refine C q2 F251 ?_
 refine Xd (Of Γ.toTy (d:=10) q_ q_ q_ q_ q_ q_ q_ q_ q_) ?_
 refine Xd (Ae [(0,10),(1,900)] q_ F300 q3 q_ W q_ V) ?_
 refine Xd (Bk Γ.toTy (bs:=(t++(⟨#[47]⟩:ByteArray)).data.toList++(revDigs b.toNat).reverse) q_ q_ q_ q_ q_ q_ q_ (.row q_)) ?_
 exact D
structure LineX (l:LineM):Prop where
 w:LineW l
 vlan:Dq l.vlan
 num:Dq l.num
 cost:Dq l.cost
 tagged:∀ x∈l.tagged,Dq x
 imports:∀ x∈l.imports,Dq x
 exports:∀ x∈l.exports,Dq x
theorem Abp (l:LineM) (h:LineX l):Sy.Spec Tryz.prog 250 [Ac l] [] (.sl 1 Ab (Hk l)) []:=cT F250 Tryz.ntmps250 fun F hF=>by
 have q1:=Bi l.vlan h.vlan
 have q2:=Bi l.cost h.cost
 have q3:=L7 l.tagged h.w.fin.t h.tagged
 have q4:=Ds [Ab ⟨#[112,111,114,116]⟩,Ab l.dev,Ab l.port,Ab (Al l.cost)]
 rw[Hk]
 by_cases h0:l.tagged.length=0
 ·have f0:((l.tagged.length:Int) == 0)=true:=by rw[h0];rfl
  rw[if_pos (List.eq_nil_of_length_eq_zero h0)]
  have q5:=Ds [Ab accessT,Ab (Al l.vlan)]
  refine T ?_
  refine C q1 F247 ?_
  refine C q2 F247 ?_
  refine Xe (Ae [(0,15)] q_ F248 q4 q_ W q_ V) ?_
  refine X (Ae [(0,24)] q_ F248 q5 q_ W q_ V) ?_
  refine X (Ai Γ.toTy 26 q_ q_ q_ q_ q_ (.lit (e:=Ab) (l:=[⟨#[112,111,114,116]⟩,l.dev,l.port,Al l.cost]) q_ q_) (.lit (e:=Ab) (l:=[accessT,Al l.vlan]) q_ q_) qe qf qf) ?_
  refine A5 26 q_ ?_
  refine T ?_
  exact D
 ·have f0:((l.tagged.length:Int) == 0)=false:=by rw[beq_eq_false_iff_ne];omega
  rw[if_neg (fun e=>h0 (by rw[e];rfl))]
  by_cases hv:l.vlan=0
  ·have f1:(l.vlan == 0)=true:=beq_iff_eq.2 hv
   rw[if_pos hv]
   have q5:=Ds [Ab trunkT,Ab dash,Ab (By l.tagged)]
   refine T ?_
   refine C q1 F247 ?_
   refine C q2 F247 ?_
   refine Xe (Ae [(0,15)] q_ F248 q4 q_ W q_ V) ?_
   refine C q3 F253 ?_
   refine X (Ae [(0,36)] q_ F248 q5 q_ W q_ V) ?_
   refine X (Ai Γ.toTy 38 q_ q_ q_ q_ q_ (.lit (e:=Ab) (l:=[⟨#[112,111,114,116]⟩,l.dev,l.port,Al l.cost]) q_ q_) (.lit (e:=Ab) (l:=[trunkT,dash,By l.tagged]) q_ q_) qe qf qf) ?_
   refine A5 38 q_ ?_
   refine T ?_
   exact D
  ·have f1:(l.vlan == 0)=false:=beq_eq_false_iff_ne.2 hv
   rw[if_neg hv]
   have q5:=Ds [Ab trunkT,Ab (Al l.vlan),Ab (By l.tagged)]
   refine T ?_
   refine C q1 F247 ?_
   refine C q2 F247 ?_
   refine Xe (Ae [(0,15)] q_ F248 q4 q_ W q_ V) ?_
   refine C q3 F253 ?_
   refine X (Ae [(0,36)] q_ F248 q5 q_ W q_ V) ?_
   refine X (Ai Γ.toTy 38 q_ q_ q_ q_ q_ (.lit (e:=Ab) (l:=[⟨#[112,111,114,116]⟩,l.dev,l.port,Al l.cost]) q_ q_) (.lit (e:=Ab) (l:=[trunkT,Al l.vlan,By l.tagged]) q_ q_) qe qf qf) ?_
   refine A5 38 q_ ?_
   refine T ?_
   exact D
theorem W6 (l:LineM) (h:LineX l) (hr:A7 l=true) (hk:l.kind=1):Sy.Spec Tryz.prog 194 [Ac l] [] (.sl 1 Ab (Ah l)) []:=cT F194 Tryz.ntmps194 fun F hF=>by
 have q0:=De l h.w
 have qv:=Bi l.vlan h.vlan
 have qn:=Bi l.num h.num
 have qa:Sy.Spec Tryz.prog 249 [Bh l.mac] [] (Ab (Ao l.mac)) []:=by
  have:=h.w.ok.mac
  obtain ⟨m,hm1⟩:∃ m:Nat,l.mac=m:=⟨l.mac.toNat,by omega⟩
  rw[hm1];exact Zi m j_
 have hwo:Ah l=[(⟨#[100,101,118,105,99,101]⟩:ByteArray),l.dev,Al l.num,Ao l.mac]:=by
  simp only[Ah,hk]
  rfl
 rw[hwo]
 rw[hr]at q0
 have f1:(l.kind == 1)=true:=by rw[hk];rfl
 generalize Al l.vlan=vv at *
 generalize Al l.num=nn at *
 generalize Ao l.mac=mm at *
 have qo:=Ds [Ab (⟨#[100,101,118,105,99,101]⟩:ByteArray),Ab l.dev,Ab nn,Ab mm]
 refine T ?_
 refine C q0 F246 ?_
 refine C qv F247 ?_
 refine C qn F247 ?_
 refine C qa F249 ?_
 refine Xe (Ae [(0,24)] q_ F248 qo q_ W q_ V) ?_
 refine C7 24 Ab [(⟨#[100,101,118,105,99,101]⟩:ByteArray),l.dev,nn,mm] q_ q_ ?_
 refine A5 24 q_ ?_
 refine T ?_
 exact D
theorem W4 (l:LineM) (h:LineX l) (hr:A7 l=true) (hk:l.kind=3):Sy.Spec Tryz.prog 194 [Ac l] [] (.sl 1 Ab (Ah l)) []:=cT F194 Tryz.ntmps194 fun F hF=>by
 have q0:=De l h.w
 have qv:=Bi l.vlan h.vlan
 have qn:=Bi l.num h.num
 have hwo:Ah l=[(⟨#[108,105,110,107]⟩:ByteArray),l.dev,l.port,l.peer,l.far]:=by
  simp only[Ah,hk]
  rfl
 rw[hwo]
 rw[hr]at q0
 have f1:(l.kind == 1)=false:=by rw[hk];rfl
 have f2:(l.kind == 2)=false:=by rw[hk];rfl
 have f3:(l.kind == 3)=true:=by rw[hk];rfl
 generalize Al l.vlan=vv at *
 generalize Al l.num=nn at *
 have qo:=Ds [Ab (⟨#[108,105,110,107]⟩:ByteArray),Ab l.dev,Ab l.port,Ab l.peer,Ab l.far]
 refine T ?_
 refine C q0 F246 ?_
 refine C qv F247 ?_
 refine C qn F247 ?_
 refine X (Ae [(0,40)] q_ F248 qo q_ W q_ V) ?_
 refine C7 40 Ab [(⟨#[108,105,110,107]⟩:ByteArray),l.dev,l.port,l.peer,l.far] q_ q_ ?_
 refine A5 40 q_ ?_
 refine T ?_
 exact D
theorem Wz (l:LineM) (h:LineX l) (hr:A7 l=true) (hk:l.kind=4):Sy.Spec Tryz.prog 194 [Ac l] [] (.sl 1 Ab (Ah l)) []:=cT F194 Tryz.ntmps194 fun F hF=>by
 have q0:=De l h.w
 have qv:=Bi l.vlan h.vlan
 have qn:=Bi l.num h.num
 have qa:Sy.Spec Tryz.prog 249 [Bh l.mac] [] (Ab (Ao l.mac)) []:=by
  have:=h.w.ok.mac
  obtain ⟨m,hm1⟩:∃ m:Nat,l.mac=m:=⟨l.mac.toNat,by omega⟩
  rw[hm1];exact Zi m j_
 have hwo:Ah l=[(⟨#[115,116,97,116,105,99]⟩:ByteArray),l.dev,Al l.vlan,Ao l.mac,l.port]:=by
  simp only[Ah,hk]
  rfl
 rw[hwo]
 rw[hr]at q0
 have f1:(l.kind == 1)=false:=by rw[hk];rfl
 have f2:(l.kind == 2)=false:=by rw[hk];rfl
 have f3:(l.kind == 3)=false:=by rw[hk];rfl
 have f4:(l.kind == 4)=true:=by rw[hk];rfl
 generalize Al l.vlan=vv at *
 generalize Al l.num=nn at *
 generalize Ao l.mac=mm at *
 have qo:=Ds [Ab (⟨#[115,116,97,116,105,99]⟩:ByteArray),Ab l.dev,Ab vv,Ab mm,Ab l.port]
 refine T ?_
 refine C q0 F246 ?_
 refine C qv F247 ?_
 refine C qn F247 ?_
 refine C qa F249 ?_
 refine Xe (Ae [(0,52)] q_ F248 qo q_ W q_ V) ?_
 refine C7 52 Ab [(⟨#[115,116,97,116,105,99]⟩:ByteArray),l.dev,vv,mm,l.port] q_ q_ ?_
 refine A5 52 q_ ?_
 refine T ?_
 exact D
theorem Wy (l:LineM) (h:LineX l) (hr:A7 l=true) (hk:l.kind=5):Sy.Spec Tryz.prog 194 [Ac l] [] (.sl 1 Ab (Ah l)) []:=cT F194 Tryz.ntmps194 fun F hF=>by
 have q0:=De l h.w
 have qv:=Bi l.vlan h.vlan
 have qn:=Bi l.num h.num
 have qa:Sy.Spec Tryz.prog 251 [A0 l.addr] [] (Ab (Be l.addr)) []:=by
  have:=h.w.ok.addr
  obtain ⟨m,hm1⟩:∃ m:Nat,l.addr=m:=⟨l.addr.toNat,by omega⟩
  rw[hm1];exact Qn m j_
 have hwo:Ah l=[(⟨#[118,116,101,112]⟩:ByteArray),l.dev,Be l.addr]:=by
  simp only[Ah,hk]
  rfl
 rw[hwo]
 rw[hr]at q0
 have f1:(l.kind == 1)=false:=by rw[hk];rfl
 have f2:(l.kind == 2)=false:=by rw[hk];rfl
 have f3:(l.kind == 3)=false:=by rw[hk];rfl
 have f4:(l.kind == 4)=false:=by rw[hk];rfl
 have f5:(l.kind == 5)=true:=by rw[hk];rfl
 generalize Al l.vlan=vv at *
 generalize Al l.num=nn at *
 generalize Be l.addr=aa at *
 have qo:=Ds [Ab (⟨#[118,116,101,112]⟩:ByteArray),Ab l.dev,Ab aa]
 refine T ?_
 refine C q0 F246 ?_
 refine C qv F247 ?_
 refine C qn F247 ?_
 refine C qa F251 ?_
 refine Xe (Ae [(0,61)] q_ F248 qo q_ W q_ V) ?_
 refine C7 61 Ab [(⟨#[118,116,101,112]⟩:ByteArray),l.dev,aa] q_ q_ ?_
 refine A5 61 q_ ?_
 refine T ?_
 exact D
theorem Wx (l:LineM) (h:LineX l) (hr:A7 l=true) (hk:l.kind=6):Sy.Spec Tryz.prog 194 [Ac l] [] (.sl 1 Ab (Ah l)) []:=cT F194 Tryz.ntmps194 fun F hF=>by
 have q0:=De l h.w
 have qv:=Bi l.vlan h.vlan
 have qn:=Bi l.num h.num
 have hwo:Ah l=[(⟨#[118,110,105]⟩:ByteArray),l.dev,Al l.vlan,Al l.num]:=by
  simp only[Ah,hk]
  rfl
 rw[hwo]
 rw[hr]at q0
 have f1:(l.kind == 1)=false:=by rw[hk];rfl
 have f2:(l.kind == 2)=false:=by rw[hk];rfl
 have f3:(l.kind == 3)=false:=by rw[hk];rfl
 have f4:(l.kind == 4)=false:=by rw[hk];rfl
 have f5:(l.kind == 5)=false:=by rw[hk];rfl
 have f6:(l.kind == 6)=true:=by rw[hk];rfl
 generalize Al l.vlan=vv at *
 generalize Al l.num=nn at *
 have qo:=Ds [Ab (⟨#[118,110,105]⟩:ByteArray),Ab l.dev,Ab vv,Ab nn]
 refine T ?_
 refine C q0 F246 ?_
 refine C qv F247 ?_
 refine C qn F247 ?_
 refine X (Ae [(0,69)] q_ F248 qo q_ W q_ V) ?_
 refine C7 69 Ab [(⟨#[118,110,105]⟩:ByteArray),l.dev,vv,nn] q_ q_ ?_
 refine A5 69 q_ ?_
 refine T ?_
 exact D
theorem Ww (l:LineM) (h:LineX l) (hr:A7 l=true) (hk:l.kind=7):Sy.Spec Tryz.prog 194 [Ac l] [] (.sl 1 Ab (Ah l)) []:=cT F194 Tryz.ntmps194 fun F hF=>by
 have q0:=De l h.w
 have qv:=Bi l.vlan h.vlan
 have qn:=Bi l.num h.num
 have qa:=Acl l.addrs h.w.fin.a h.w.ok.addrs
 have hwo:Ah l=[(⟨#[102,108,111,111,100]⟩:ByteArray),l.dev,Al l.num,B9 l.addrs]:=by
  simp only[Ah,hk]
  rfl
 rw[hwo]
 rw[hr]at q0
 have f1:(l.kind == 1)=false:=by rw[hk];rfl
 have f2:(l.kind == 2)=false:=by rw[hk];rfl
 have f3:(l.kind == 3)=false:=by rw[hk];rfl
 have f4:(l.kind == 4)=false:=by rw[hk];rfl
 have f5:(l.kind == 5)=false:=by rw[hk];rfl
 have f6:(l.kind == 6)=false:=by rw[hk];rfl
 have f7:(l.kind == 7)=true:=by rw[hk];rfl
 generalize Al l.vlan=vv at *
 generalize Al l.num=nn at *
 generalize B9 l.addrs=ad at *
 have qo:=Ds [Ab (⟨#[102,108,111,111,100]⟩:ByteArray),Ab l.dev,Ab nn,Ab ad]
 refine T ?_
 refine C q0 F246 ?_
 refine C qv F247 ?_
 refine C qn F247 ?_
 refine C qa F252 ?_
 refine Xe (Ae [(0,79)] q_ F248 qo q_ W q_ V) ?_
 refine C7 79 Ab [(⟨#[102,108,111,111,100]⟩:ByteArray),l.dev,nn,ad] q_ q_ ?_
 refine A5 79 q_ ?_
 refine T ?_
 exact D
theorem Wv (l:LineM) (h:LineX l) (hr:A7 l=true) (hk:l.kind=8):Sy.Spec Tryz.prog 194 [Ac l] [] (.sl 1 Ab (Ah l)) []:=cT F194 Tryz.ntmps194 fun F hF=>by
 have q0:=De l h.w
 have qv:=Bi l.vlan h.vlan
 have qn:=Bi l.num h.num
 have qa:=L7 l.imports h.w.fin.i h.imports
 have qb:=L7 l.exports h.w.fin.e h.exports
 have hwo:Ah l=[(⟨#[118,114,102]⟩:ByteArray),l.dev,l.name,By l.imports,By l.exports]:=by
  simp only[Ah,hk]
  rfl
 rw[hwo]
 rw[hr]at q0
 have f1:(l.kind == 1)=false:=by rw[hk];rfl
 have f2:(l.kind == 2)=false:=by rw[hk];rfl
 have f3:(l.kind == 3)=false:=by rw[hk];rfl
 have f4:(l.kind == 4)=false:=by rw[hk];rfl
 have f5:(l.kind == 5)=false:=by rw[hk];rfl
 have f6:(l.kind == 6)=false:=by rw[hk];rfl
 have f7:(l.kind == 7)=false:=by rw[hk];rfl
 have f8:(l.kind == 8)=true:=by rw[hk];rfl
 generalize Al l.vlan=vv at *
 generalize Al l.num=nn at *
 generalize By l.imports=si at *
 generalize By l.exports=se at *
 have qo:=Ds [Ab (⟨#[118,114,102]⟩:ByteArray),Ab l.dev,Ab l.name,Ab si,Ab se]
 refine T ?_
 refine C q0 F246 ?_
 refine C qv F247 ?_
 refine C qn F247 ?_
 refine C qa F253 ?_
 refine C qb F253 ?_
 refine Xe (Ae [(0,93)] q_ F248 qo q_ W q_ V) ?_
 refine C7 93 Ab [(⟨#[118,114,102]⟩:ByteArray),l.dev,l.name,si,se] q_ q_ ?_
 refine A5 93 q_ ?_
 refine T ?_
 exact D
theorem Wu (l:LineM) (h:LineX l) (hr:A7 l=true) (hk:l.kind=9):Sy.Spec Tryz.prog 194 [Ac l] [] (.sl 1 Ab (Ah l)) []:=cT F194 Tryz.ntmps194 fun F hF=>by
 have q0:=De l h.w
 have qv:=Bi l.vlan h.vlan
 have qn:=Bi l.num h.num
 have hb9:1≤l.bits∧l.bits≤30:=by
  rw[A7,Bool.and_eq_true]at hr
  have hu:=hr.1
  have n1:∀ k:Int,k≠9→¬ l.kind=k:=fun k hk2 e=>hk2 (by rw[← e,hk])
  simp only[Aq,if_neg (n1 1 qe),if_neg (n1 2 qe),if_neg (n1 3 qe),if_neg (n1 4 qe),if_neg (n1 5 qe),if_neg (n1 6 qe),if_neg (n1 7 qe),if_neg (n1 8 qe),if_pos hk,Bool.and_eq_true]at hu
  exact J9 hu.2.2
 have qa:Sy.Spec Tryz.prog 254 [B8 l.addr l.bits] [] (Ab (B0 l.addr l.bits)) []:=by
  have:=h.w.ok.addr
  obtain ⟨m,hm1⟩:∃ m:Nat,l.addr=m:=⟨l.addr.toNat,by omega⟩
  rw[hm1];exact Yx m l.bits j_ j_
 have hwo:Ah l=[(⟨#[105,114,98]⟩:ByteArray),l.dev,Al l.vlan,l.name,B0 l.addr l.bits]:=by
  simp only[Ah,hk]
  rfl
 rw[hwo]
 rw[hr]at q0
 have f1:(l.kind == 1)=false:=by rw[hk];rfl
 have f2:(l.kind == 2)=false:=by rw[hk];rfl
 have f3:(l.kind == 3)=false:=by rw[hk];rfl
 have f4:(l.kind == 4)=false:=by rw[hk];rfl
 have f5:(l.kind == 5)=false:=by rw[hk];rfl
 have f6:(l.kind == 6)=false:=by rw[hk];rfl
 have f7:(l.kind == 7)=false:=by rw[hk];rfl
 have f8:(l.kind == 8)=false:=by rw[hk];rfl
 have f9:(l.kind == 9)=true:=by rw[hk];rfl
 generalize Al l.vlan=vv at *
 generalize Al l.num=nn at *
 generalize B0 l.addr l.bits=pp at *
 have qo:=Ds [Ab (⟨#[105,114,98]⟩:ByteArray),Ab l.dev,Ab vv,Ab l.name,Ab pp]
 refine T ?_
 refine C q0 F246 ?_
 refine C qv F247 ?_
 refine C qn F247 ?_
 refine C qa F254 ?_
 refine Xe (Ae [(0,106)] q_ F248 qo q_ W q_ V) ?_
 refine C7 106 Ab [(⟨#[105,114,98]⟩:ByteArray),l.dev,vv,l.name,pp] q_ q_ ?_
 refine A5 106 q_ ?_
 refine T ?_
 exact D
theorem W5 (l:LineM) (h:LineX l) (hr:A7 l=true) (hk:l.kind=2):Sy.Spec Tryz.prog 194 [Ac l] [] (.sl 1 Ab (Ah l)) []:=cT F194 Tryz.ntmps194 fun F hF=>by
 have q0:=De l h.w
 have qv:=Bi l.vlan h.vlan
 have qn:=Bi l.num h.num
 have qp:=Abp l h
 have hwo:Ah l=Hk l:=by
  simp only[Ah,hk]
  rfl
 rw[hwo]
 rw[hr]at q0
 have f1:(l.kind == 1)=false:=by rw[hk];rfl
 have f2:(l.kind == 2)=true:=by rw[hk];rfl
 generalize Hk l=ws at *
 refine T ?_
 refine C q0 F246 ?_
 refine C qv F247 ?_
 refine C qn F247 ?_
 refine C qp F250 ?_
 exact D
theorem Tl {l:LineM} (hr:A7 l=true):1≤l.kind∧l.kind≤9:=by
 rw[A7,Bool.and_eq_true]at hr
 have hu:=hr.1
 refine Classical.byContradiction fun hk=>?_
 have n1:¬ l.kind=1:=by omega
 have n2:¬ l.kind=2:=by omega
 have n3:¬ l.kind=3:=by omega
 have n4:¬ l.kind=4:=by omega
 have n5:¬ l.kind=5:=by omega
 have n6:¬ l.kind=6:=by omega
 have n7:¬ l.kind=7:=by omega
 have n8:¬ l.kind=8:=by omega
 have n9:¬ l.kind=9:=by omega
 simp only[Aq,if_neg n1,if_neg n2,if_neg n3,if_neg n4,if_neg n5,if_neg n6,if_neg n7,if_neg n8,if_neg n9]at hu
 cases hu
def Do (l:LineM):List ByteArray:=if A7 l=true then Ah l else []
theorem Yy (l:LineM) (h:LineX l):Sy.Spec Tryz.prog 194 [Ac l] [] (.sl 1 Ab (Do l)) []:=by
 cases hr:A7 l with
 | true =>
  rw[Do,if_pos hr]
  have hk:=Tl hr
  rcases (by omega:l.kind=1∨l.kind=2∨l.kind=3∨l.kind=4∨l.kind=5∨l.kind=6∨l.kind=7∨l.kind=8∨l.kind=9) with h9 | h9 | h9 | h9 | h9 | h9 | h9 | h9 | h9
  ·exact W6 l h hr h9
  ·exact W5 l h hr h9
  ·exact W4 l h hr h9
  ·exact Wz l h hr h9
  ·exact Wy l h hr h9
  ·exact Wx l h hr h9
  ·exact Ww l h hr h9
  ·exact Wv l h hr h9
  ·exact Wu l h hr h9
 | false =>
  rw[Do,if_neg (by rw[hr];simp)]
  have q0:=De l h.w
  rw[hr]at q0
  refine Hd Γ hm 100 F194 Tryz.ntmps194 q_ fun F hF=>by
   refine T ?_
   refine C q0 F246 ?_
   refine Bm 2 1 Ab q_ ?_
   refine T ?_
   exact D
end Go.Sy.YtgblchnfjbkipaaGreatDoor
namespace Go.Sy.YtgblchnfjbkipaaGreatDoor
open Go.Proofs
attribute [local irreducible] Go.Sy.G Go.Sy.DR
set_option maxRecDepth 20000
set_option maxHeartbeats 4000000
structure Hop where
 (kind port domain addr:Int)
instance:Inhabited Hop:=⟨⟨0,0,0,0⟩⟩
def domOK (n:Net) (d:Int):Prop:=(0≤d∧d<n.domains.length)∧Ael n=true
instance (n:Net) (d:Int):Decidable (domOK n d):=inferInstanceAs (Decidable (_∧_))
structure Lead where
 (to domain addr:Int)
instance:Inhabited Lead:=⟨⟨0,0,0⟩⟩
structure Fnd where
 (domain kind:Int) (hop:Hop) (ahead:Int)
instance:Inhabited Fnd:=⟨⟨0,0,default,0⟩⟩
end Go.Sy.YtgblchnfjbkipaaGreatDoor
namespace Go.Sy.YtgblchnfjbkipaaGreatDoor
open Go.Proofs
attribute [local irreducible] Go.Sy.G Go.Sy.DR
set_option maxRecDepth 20000
set_option maxHeartbeats 8000000
theorem Afe (a:Nat):Be a=Al (octN a 0:Nat)++⟨#[46]⟩++Al (octN a 1:Nat)++⟨#[46]⟩++Al (octN a 2:Nat)++⟨#[46]⟩++Al (octN a 3:Nat):=by
 have e:(⟨#[46]⟩:ByteArray)=mkT [46]:=rfl
 rw[Be,Int.toNat_natCast,C4,C4,C4,C4,e]
 simp only[D4]
 simp[Iu]
theorem Ac0 (n:Nat) (h:n<1000000000000000000):IntKind.i64.wrap (n:Int)=n:=by rw[IntKind.wrap_i64];omega
theorem Afp (n k:Nat) (h:n<1000000000000000000):IntKind.i64.wrap ((n:Int).tdiv k)=((n / k:Nat):Int):=by
 rw[Int.tdiv_eq_ediv_of_nonneg j_,← Int.natCast_ediv]
 exact Ac0 _ (Nat.lt_of_le_of_lt (Nat.div_le_self _ _) h)
theorem Afo (n k:Nat):(n:Int).tmod k=((n % k:Nat):Int):=by
 rw[Int.tmod_eq_emod_of_nonneg j_];omega
theorem Dx {n:Nat} (h:n<1000000000000000000):(Al n).size≤19:=Aei ⟨by omega,by omega⟩
theorem Jl (a:Nat) (ha:a<4294967296):Sy.Spec Tryz.prog 316 [A0 a] [] (Ab (Be a)) []:=cT F316 Tryz.ntmps316 fun F hF=>by
 have d0:=Afp a 16777216 j_
 have d1:=Afp a 65536 j_
 have d2:=Afp a 256 j_
 have m1:=Afo (a / 65536) 256
 have m2:=Afo (a / 256) 256
 have m3:=Afo a 256
 have o0:a / 16777216=octN a 0:=by unfold octN;omega
 have o1:a / 65536 % 256=octN a 1:=by unfold octN;omega
 have o2:a / 256 % 256=octN a 2:=by unfold octN;omega
 have o3:a % 256=octN a 3:=by unfold octN;omega
 have b:∀ j,octN a j<256:=fun j=>by unfold octN;omega
 have q0:=Hj (octN a 0) (by have:=b 0;omega)
 have q1:=Hj (octN a 1) (by have:=b 1;omega)
 have q2:=Hj (octN a 2) (by have:=b 2;omega)
 have q3:=Hj (octN a 3) (by have:=b 3;omega)
 have s0:=Dx (n:=octN a 0) (by have:=b 0;omega)
 have s1:=Dx (n:=octN a 1) (by have:=b 1;omega)
 have s2:=Dx (n:=octN a 2) (by have:=b 2;omega)
 have s3:=Dx (n:=octN a 3) (by have:=b 3;omega)
 rw[o0]at d0
 rw[o1]at m1
 rw[o2]at m2
 rw[o3]at m3
 rw[Afe a]
 generalize hz0:octN a 0=z0 at *
 generalize hz1:octN a 1=z1 at *
 generalize hz2:octN a 2=z2 at *
 generalize hz3:octN a 3=z3 at *
 generalize Al (z0:Nat)=t0 at *
 generalize Al (z1:Nat)=t1 at *
 generalize Al (z2:Nat)=t2 at *
 generalize Al (z3:Nat)=t3 at *
 ((conv=>whnf);repeat((first|refine aF ?_|refine aT ?_);(first|refine rG Γ hm ?_|refine rD Γ hm y_ ?_);conv=>whnf))
 rw[Ac0 a j_]
 refine⟨by decide,?_⟩
 ((conv=>whnf);repeat((first|refine aF ?_|refine aT ?_);(first|refine rG Γ hm ?_|refine rD Γ hm y_ ?_);conv=>whnf))
 have d0':IntKind.i64.wrap ((a:Int).tdiv 16777216)=((z0:Nat):Int):=d0
 have d1':IntKind.i64.wrap ((a:Int).tdiv 65536)=((a / 65536:Nat):Int):=d1
 have d2':IntKind.i64.wrap ((a:Int).tdiv 256)=((a / 256:Nat):Int):=d2
 have m1':((a / 65536:Nat):Int).tmod 256=((z1:Nat):Int):=m1
 have m2':((a / 256:Nat):Int).tmod 256=((z2:Nat):Int):=m2
 have m3':(a:Int).tmod 256=((z3:Nat):Int):=m3
 rw[d0']
 refine c0 q0 F358 ?_
 ((first|refine rG Γ hm ?_|refine rD Γ hm y_ ?_);(conv=>whnf);repeat((first|refine aF ?_|refine aT ?_);(first|refine rG Γ hm ?_|refine rD Γ hm y_ ?_);conv=>whnf))
 refine⟨by show _+1≤_;omega,?_⟩
 ((conv=>whnf);repeat((first|refine aF ?_|refine aT ?_);(first|refine rG Γ hm ?_|refine rD Γ hm y_ ?_);conv=>whnf))
 refine⟨by decide,?_⟩
 ((conv=>whnf);repeat((first|refine aF ?_|refine aT ?_);(first|refine rG Γ hm ?_|refine rD Γ hm y_ ?_);conv=>whnf))
 rw[d1']
 refine⟨by decide,?_⟩
 ((conv=>whnf);repeat((first|refine aF ?_|refine aT ?_);(first|refine rG Γ hm ?_|refine rD Γ hm y_ ?_);conv=>whnf))
 rw[m1']
 refine c0 q1 F358 ?_
 ((first|refine rG Γ hm ?_|refine rD Γ hm y_ ?_);(conv=>whnf);repeat((first|refine aF ?_|refine aT ?_);(first|refine rG Γ hm ?_|refine rD Γ hm y_ ?_);conv=>whnf))
 have e1:(t0++⟨#[46]⟩:ByteArray).size=t0.size+1:=Ke _ _
 have e2:(t0++⟨#[46]⟩++t1:ByteArray).size=t0.size+1+t1.size:=by rw[Ke,e1]
 have e3:(t0++⟨#[46]⟩++t1++⟨#[46]⟩:ByteArray).size=t0.size+1+t1.size+1:=by rw[Ke,e2];rfl
 have e4:(t0++⟨#[46]⟩++t1++⟨#[46]⟩++t2:ByteArray).size=t0.size+1+t1.size+1+t2.size:=by rw[Ke,e3]
 have e5:(t0++⟨#[46]⟩++t1++⟨#[46]⟩++t2++⟨#[46]⟩:ByteArray).size=t0.size+1+t1.size+1+t2.size+1:=by rw[Ke,e4];rfl
 refine⟨by omega,?_⟩
 ((conv=>whnf);repeat((first|refine aF ?_|refine aT ?_);(first|refine rG Γ hm ?_|refine rD Γ hm y_ ?_);conv=>whnf))
 refine⟨by show _+1≤_;omega,?_⟩
 ((conv=>whnf);repeat((first|refine aF ?_|refine aT ?_);(first|refine rG Γ hm ?_|refine rD Γ hm y_ ?_);conv=>whnf))
 refine⟨by decide,?_⟩
 ((conv=>whnf);repeat((first|refine aF ?_|refine aT ?_);(first|refine rG Γ hm ?_|refine rD Γ hm y_ ?_);conv=>whnf))
 rw[d2']
 refine⟨by decide,?_⟩
 ((conv=>whnf);repeat((first|refine aF ?_|refine aT ?_);(first|refine rG Γ hm ?_|refine rD Γ hm y_ ?_);conv=>whnf))
 rw[m2']
 refine c0 q2 F358 ?_
 ((first|refine rG Γ hm ?_|refine rD Γ hm y_ ?_);(conv=>whnf);repeat((first|refine aF ?_|refine aT ?_);(first|refine rG Γ hm ?_|refine rD Γ hm y_ ?_);conv=>whnf))
 refine⟨by omega,?_⟩
 ((conv=>whnf);repeat((first|refine aF ?_|refine aT ?_);(first|refine rG Γ hm ?_|refine rD Γ hm y_ ?_);conv=>whnf))
 refine⟨by show _+1≤_;omega,?_⟩
 ((conv=>whnf);repeat((first|refine aF ?_|refine aT ?_);(first|refine rG Γ hm ?_|refine rD Γ hm y_ ?_);conv=>whnf))
 refine⟨by decide,?_⟩
 ((conv=>whnf);repeat((first|refine aF ?_|refine aT ?_);(first|refine rG Γ hm ?_|refine rD Γ hm y_ ?_);conv=>whnf))
 rw[m3']
 refine c0 q3 F358 ?_
 ((first|refine rG Γ hm ?_|refine rD Γ hm y_ ?_);(conv=>whnf);repeat((first|refine aF ?_|refine aT ?_);(first|refine rG Γ hm ?_|refine rD Γ hm y_ ?_);conv=>whnf))
 refine⟨by omega,?_⟩
 ((conv=>whnf);repeat((first|refine aF ?_|refine aT ?_);(first|refine rG Γ hm ?_|refine rD Γ hm y_ ?_);conv=>whnf))
 exact dN
end Go.Sy.YtgblchnfjbkipaaGreatDoor
