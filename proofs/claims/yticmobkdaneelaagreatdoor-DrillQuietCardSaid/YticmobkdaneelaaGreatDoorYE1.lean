/- Parts of a proof. -/
import Derived.WalkKit
set_option linter.all false
set_option linter.unusedVariables false
set_option linter.unusedSimpArgs false
set_option linter.deprecated false
namespace Go
abbrev zD:=@if_neg
abbrev zE:=@Bool.and_eq_true
abbrev zG:=@if_pos
abbrev zH:=@congrArg
abbrev zI:=@List.getElem_mem
abbrev zJ:=@decide_eq_true_eq
abbrev zK:=@of_decide_eq_true
abbrev zL:=@decide_eq_false
abbrev zO:=@decide_eq_true
abbrev zQ:=@of_decide_eq_false
abbrev zR:=@beq_eq_false_iff_ne
abbrev zT:=@List.getElem?_eq_getElem
abbrev zU:=@Int.toNat_natCast
abbrev zW:=@List.length_append
abbrev zX:=@decide_eq_false_iff_not
abbrev zY:=@absurd
abbrev zZ:=@List.eq_nil_of_length_eq_zero
abbrev yA:=@List.length_take
abbrev yB:=@List.mem_singleton
abbrev yC:=@List.length_singleton
abbrev yD:=@List.take_succ_eq_append_getElem
abbrev yE:=@Bool.false_and
abbrev yF:=@Bool.true_and
abbrev yG:=@Nat.le_refl
abbrev yH:=@List.mem_cons
abbrev yI:=@List.mem_append
abbrev yJ:=@beq_iff_eq
abbrev yK:=@Nat.eq_of_beq_eq_true
abbrev yL:=@List.length_cons
abbrev yM:=@Bool.or_eq_true
abbrev yN:=@List.take_length
abbrev yO:=@List.length_drop
abbrev yP:=@List.drop_eq_getElem_cons
abbrev yQ:=@Bool.and_eq_false_iff
abbrev yR:=@List.length_set
abbrev yS:=@List.mem_map
abbrev yT:=@List.getElem_append_left
abbrev yU:=@Bool.not_eq_true'
abbrev yV:=@Nat.lt_of_lt_of_le
abbrev yW:=@Bool.not_eq_eq_eq_not
abbrev yX:=@Nat.mul_le_mul_right
abbrev yY:=@List.mem_iff_getElem
abbrev yZ:=@List.all_eq_true
abbrev xA:=@List.mem_range
abbrev xB:=@Int.eq_ofNat_of_zero_le
abbrev xC:=@List.append_nil
abbrev xD:=@Int.toNat_of_nonneg
abbrev xF:=@List.length_map
abbrev xG:=@bne_iff_ne
abbrev xH:=@Nat.mod_eq_of_lt
abbrev xI:=@Nat.add_mul
abbrev xJ:=@List.append_assoc
abbrev xK:=@List.take_of_length_le
abbrev xM:=@List.length_nil
abbrev xN:=@List.length_pos_iff
abbrev xO:=@List.foldl_append
abbrev xP:=@List.getElem_append_right
abbrev xQ:=@Nat.two_pow_add_eq_or_of_lt
abbrev xR:=@List.getElem?_append_left
abbrev xS:=@List.cons_append
abbrev xU:=@Int.le_refl
abbrev xV:=@List.map_cons
abbrev xW:=@Int.fdiv_eq_ediv_of_nonneg
abbrev xX:=@List.not_mem_nil
abbrev xY:=@Bool.or_eq_false_iff
abbrev xZ:=@Nat.le_of_ble_eq_true
abbrev wA:=@List.getElem_take
abbrev wB:=@Bool.not_eq_false'
abbrev wC:=@List.nil_append
abbrev wD:=@List.getElem_of_mem
abbrev wE:=@Nat.zero_add
abbrev wF:=@List.findIdx?_eq_some_iff_getElem
abbrev wG:=@List.getElem?_append_right
abbrev wH:=@List.getD_eq_getElem?_getD
abbrev wJ:=@Bool.not_false
abbrev wK:=@List.any_eq_true
abbrev wL:=@Nat.one_mul
abbrev wM:=@List.any_eq_false
abbrev wN:=@Bool.eq_iff_iff
abbrev wO:=@Nat.le_trans
abbrev wP:=@List.getElem?_eq_none
abbrev wQ:=@List.mem_of_mem_take
abbrev wR:=@Bool.and_false
abbrev wS:=@List.set_getElem_self
abbrev wT:=@Array.length_toList
abbrev wU:=@List.map_append
abbrev wV:=@List.range_succ
abbrev wW:=@List.length_eq_zero_iff
abbrev wX:=@Array.getElem?_eq_some_iff
abbrev wY:=@Nat.pow_le_pow_right
abbrev wZ:=@Nat.one_le_two_pow
abbrev vA:=@Nat.zero_le
abbrev vB:=@Nat.mul_comm
abbrev vC:=@Array.getD_eq_getD_getElem?
abbrev vD:=@Bool.true_or
abbrev vE:=@List.mem_filterMap
abbrev vF:=@List.foldl_cons
abbrev vG:=@List.map_nil
abbrev vH:=@List.pairwise_iff_getElem
abbrev vI:=@List.flatMap_cons
abbrev vJ:=@List.take_add_one
abbrev vK:=@Array.getElem?_toList
abbrev vM:=@Nat.lt_or_ge
abbrev vN:=@List.getElem?_take
abbrev vO:=@List.pairwise_cons
abbrev vP:=@Int.natCast_nonneg
abbrev vQ:=@List.getElem_set
abbrev vR:=@List.filter_cons_of_pos
abbrev vS:=@Nat.add_assoc
abbrev vT:=@List.getElem_drop
abbrev vU:=@Int.tdiv_eq_ediv_of_nonneg
abbrev vV:=@List.getElem?_set_self
abbrev vW:=@List.getElem?_range
abbrev vX:=@Nat.div_add_mod
abbrev vY:=@Array.getElem?_eq_getElem
abbrev vZ:=@or_false
abbrev uA:=@Bool.cond_eq_ite
abbrev uB:=@Nat.eq_zero_or_pos
abbrev uC:=@not_or
abbrev uD:=@List.set_cons_zero
abbrev uE:=@Nat.and_two_pow_sub_one_eq_mod
abbrev uF:=@List.drop_length
abbrev uG:=@Bool.and_true
abbrev uH:=@Bool.false_or
abbrev uI:=@List.mem_of_mem_eraseIdx
abbrev uJ:=@List.take_append_of_le_length
abbrev uK:=@List.getElem?_map
abbrev uL:=@List.filter_cons_of_neg
abbrev uM:=@Option.map_some
abbrev uN:=@List.dropLast_concat_getLast
abbrev uO:=@Array.getElem?_eq_none
abbrev uP:=@Nat.div_div_eq_div_mul
abbrev uQ:=@List.drop_eq_nil_of_le
abbrev uR:=@Int.tmod_eq_emod_of_nonneg
abbrev uS:=@List.getElem?_toArray
abbrev uT:=@List.length_filter_le
abbrev uU:=@List.length_replicate
abbrev uV:=@List.getElem_set_self
abbrev uW:=@List.mem_or_eq_of_mem_set
abbrev uX:=@Int.natCast_pow
abbrev uY:=@List.size_toArray
abbrev uZ:=@Nat.le_succ
abbrev tA:=@List.length_dropLast
abbrev tB:=@List.length_filterMap_le
abbrev tC:=@Bool.not_true
abbrev tD:=@List.set_eq_of_length_le
abbrev tE:=@List.mk_mem_zipIdx_iff_getElem?
abbrev tF:=@List.map_congr_left
abbrev tG:=@List.getElem?_cons_zero
abbrev tH:=@List.ext_getElem
abbrev tI:=@List.foldl_nil
abbrev tJ:=@Nat.add_comm
abbrev tK:=@Bool.false_ne_true
abbrev tL:=@Nat.beq_refl
abbrev tM:=@List.set_cons_succ
abbrev tN:=@Nat.pow_succ
abbrev tO:=@List.getElem_cons_succ
abbrev tP:=@List.getElem_cons_zero
abbrev tQ:=@Nat.sub_self
abbrev tR:=@List.mem_filter
abbrev tS:=@List.mem_append_right
abbrev tT:=@List.set_append_right
abbrev tU:=@List.length_range
abbrev tV:=@List.getElem?_set
abbrev tW:=@Nat.mod_lt
abbrev tX:=@List.pairwise_append
abbrev tY:=@Array.replicate_succ
abbrev tZ:=@Array.replicate_zero
end Go
namespace Go.Sy
def E{α : Sort _}{a : α} : a = a := rfl
def Y : True := trivial
def q_{p:Prop}(h:p:=by omega):p:=h
def z_{α:Sort _}{a b:α}(h:a=b:=by kernel_rfl):a=b:=h
def j_{p:Prop}(h:p:=by decide):p:=h
def y_{p:Prop}(h:p:=by simp):p:=h
inductive SV:Type 1
 |top
 |val (v:Value)
 |agg (l:List SV)
 |tup (l:List SV)
 |sl (sz:Nat) {α:Type} (e:α→SV) (l:List α)
 |ref (sz:Nat) (x:SV) (off:Nat)
 |ptr (k:Nat) (off:Nat)
 |rpt (k:Nat) (sz i off:Nat)
 |osl (k:Nat)
 |ifc (t:TypeId) (x:SV)
 |clo (fn:Fn) (first cap:List SV)
inductive Ent
 |new
 |dead
 |blk (b:Nat)
 |row (b len cap:Nat)
 |nil
def Ent.block?:Ent→Option Nat
 | .blk b=>some b
 | .row b _ _=>some b
 |_=>none
structure Ka where
 ent:Nat→Ent
 M:Nat→Prop
instance:CoeFun Ka (λ_=>Nat→Ent):=⟨Ka.ent⟩
def Own(κ:Ka)(b:Nat):Prop:=(∃k,(κ k).block? = some b)∨κ.M b
def Ones(cs:List Value):Prop:=∀c∈cs,c.oneCell'=true
def LaidAt(w:World)(b off sz:Nat)(u:Value):Prop:=u.cells.size=sz∧Ones u.cells.toList∧∀j,j<sz→w.cell? ⟨b,off+j,none⟩=u.cells[j]?
mutual
def RdD(M:Nat→Prop)(w:World):SV→Value→Prop
 | .top,_=>True
 | .val u,v=>v=u
 | .agg l,v=>∃cs:List Value,v=.agg cs.toArray∧Ones cs∧RdDL M w l cs
 | .tup l,v=>∃cs:List Value,v=.tuple cs.toArray∧RdDL M w l cs
 | .sl sz e l,v=>(l=[]∧∃a cap,v=.slice a 0 cap) ∨
   ∃b off cap,v=.slice (some ⟨b,off,none⟩) l.length cap∧l.length≤cap∧¬M b∧b<w.heap.size∧∀i (h:i<l.length),∃u,RdD M w (e l[i]) u∧LaidAt w b (off+i*sz) sz u
 | .ref sz x off,v=>∃b o u,v=.pointer (some ⟨b,o+off,none⟩)∧¬M b∧b<w.heap.size∧RdD M w x u∧LaidAt w b o sz u
 | .ptr _ _,_=>False
 | .rpt _ _ _ _,_=>False
 | .osl _,_=>False
 | .ifc t x,v=>∃u,v=.iface t u∧RdD M w x u
 | .clo fn first cap,v=>∃fs cs:List Value,v=.func fn fs.toArray cs.toArray∧RdDL M w first fs∧RdDL M w cap cs
def RdDL(M:Nat→Prop)(w:World):List SV→List Value→Prop
 |[],vs=>vs=[]
 |x::l,vs=>∃v r,vs=v::r∧RdD M w x v∧RdDL M w l r
end
mutual
def Rd(κ:Ka)(w:World):SV→Value→Prop
 | .top,_=>True
 | .val u,v=>v=u
 | .agg l,v=>∃cs:List Value,v=.agg cs.toArray∧Ones cs∧RdL κ w l cs
 | .tup l,v=>∃cs:List Value,v=.tuple cs.toArray∧RdL κ w l cs
 | .sl sz e l,v=>RdD (Own κ) w (.sl sz e l) v
 | .ref sz x off,v=>RdD (Own κ) w (.ref sz x off) v
 | .ptr k off,v=>match κ k with
  | .dead=>v.oneCell'=true
  | .blk b=>v=.pointer (some ⟨b,off,none⟩)
  |_=>False
 | .rpt k sz i off,v=>match κ k with
  | .dead=>v.oneCell'=true
  | .row b _ _=>v=.pointer (some ⟨b,i*sz+off,none⟩)
  |_=>False
 | .osl k,v=>match κ k with
  | .dead=>v.oneCell'=true
  | .row b len cap=>v=.slice (some ⟨b,0,none⟩) len cap
  | .nil=>v=.slice none 0 0
  |_=>False
 | .ifc t x,v=>∃u,v=.iface t u∧Rd κ w x u
 | .clo fn first cap,v=>∃fs cs:List Value,v=.func fn fs.toArray cs.toArray∧RdL κ w first fs∧RdL κ w cap cs
def RdL(κ:Ka)(w:World):List SV→List Value→Prop
 |[],vs=>vs=[]
 |x::l,vs=>∃v r,vs=v::r∧Rd κ w x v∧RdL κ w l r
end
structure Keeps(M M':Nat→Prop)(w w':World):Prop where
 size:w.heap.size≤w'.heap.size
 blk:∀b,b<w.heap.size→¬M b→w'.heap[b]? = w.heap[b]?
 out:∀b,b<w.heap.size→¬M b→¬M' b
theorem LaidAt.keep{w w':World}{b off sz:Nat}{u:Value}(h:LaidAt w b off sz u)(hb:w'.heap[b]? = w.heap[b]?):LaidAt w' b off sz u :=
 ⟨h.1,h.2.1,λj hj=>(World.cell?_of_block (w:=w) (a:=⟨b,off+j,none⟩) hb).trans (h.2.2 j hj)⟩
mutual
theorem RdD.keep{M M':Nat→Prop}{w w':World}(k:Keeps M M' w w'):∀(x:SV) (v:Value),RdD M w x v→RdD M' w' x v
 | .top,_,_=>by simp[RdD]
 | .val u,v,h=>by simpa [RdD] using h
 | .agg l,v,h=>by
  simp only[RdD]at h⊢;obtain ⟨cs,h1,h0,h2⟩:=h;exact⟨cs,h1,h0,RdDL.keep k l cs h2⟩
 | .tup l,v,h=>by
  simp only[RdD]at h⊢;obtain ⟨cs,h1,h2⟩:=h;exact⟨cs,h1,RdDL.keep k l cs h2⟩
 | .sl sz e l,v,h=>by
  simp only[RdD]at h⊢;rcases h with h|⟨b,off,cap,h1,h0,h2,h3,h4⟩
  ·exact .inl h
  ·refine .inr ⟨b,off,cap,h1,h0,k.out b h3 h2,yV h3 k.size,λi hi=>?_⟩;obtain ⟨u,h5,h6⟩:=h4 i hi;exact⟨u,RdD.keep k (e l[i]) u h5,h6.keep (k.blk b h3 h2)⟩
 | .ref sz x off,v,h=>by
  simp only[RdD]at h⊢;obtain ⟨b,o,u,h1,h2,h3,h4,h5⟩:=h;exact⟨b,o,u,h1,k.out b h3 h2,yV h3 k.size,RdD.keep k x u h4,h5.keep (k.blk b h3 h2)⟩
 | .ptr _ _,_,h=>by simp[RdD]at h
 | .rpt _ _ _ _,_,h=>by simp[RdD]at h
 | .osl _,_,h=>by simp[RdD]at h
 | .ifc t x,v,h=>by
  simp only[RdD]at h⊢;obtain ⟨u,h1,h2⟩:=h;exact⟨u,h1,RdD.keep k x u h2⟩
 | .clo fn first cap,v,h=>by
  simp only[RdD]at h⊢;obtain ⟨fs,cs,h1,h2,h3⟩:=h;exact⟨fs,cs,h1,RdDL.keep k first fs h2,RdDL.keep k cap cs h3⟩
theorem RdDL.keep{M M':Nat→Prop}{w w':World}(k:Keeps M M' w w'):∀(l:List SV) (vs:List Value),RdDL M w l vs→RdDL M' w' l vs
 |[],_,h=>by simpa [RdDL] using h
 |x::l,vs,h=>by
  simp only[RdDL]at h⊢;obtain ⟨v,r,h1,h2,h3⟩:=h;exact⟨v,r,h1,RdD.keep k x v h2,RdDL.keep k l r h3⟩
end
mutual
theorem Rd.of_data{κ:Ka}{w:World}:∀(x:SV) (v:Value),RdD (Own κ) w x v→Rd κ w x v
 | .top,_,_=>by simp[Rd]
 | .val u,v,h=>by simpa [RdD,Rd] using h
 | .agg l,v,h=>by
  simp only[RdD,Rd]at h⊢;obtain ⟨cs,h1,h0,h2⟩:=h;exact⟨cs,h1,h0,RdL.of_data l cs h2⟩
 | .tup l,v,h=>by
  simp only[RdD,Rd]at h⊢;obtain ⟨cs,h1,h2⟩:=h;exact⟨cs,h1,RdL.of_data l cs h2⟩
 | .sl sz e l,v,h=>by simpa only [Rd] using h
 | .ref sz x off,v,h=>by simpa only [Rd] using h
 | .ptr _ _,_,h=>by simp[RdD]at h
 | .rpt _ _ _ _,_,h=>by simp[RdD]at h
 | .osl _,_,h=>by simp[RdD]at h
 | .ifc t x,v,h=>by
  simp only[RdD,Rd]at h⊢;obtain ⟨u,h1,h2⟩:=h;exact⟨u,h1,Rd.of_data x u h2⟩
 | .clo fn first cap,v,h=>by
  simp only[RdD,Rd]at h⊢;obtain ⟨fs,cs,h1,h2,h3⟩:=h;exact⟨fs,cs,h1,RdL.of_data first fs h2,RdL.of_data cap cs h3⟩
theorem RdL.of_data{κ:Ka}{w:World}:∀(l:List SV) (vs:List Value),RdDL (Own κ) w l vs→RdL κ w l vs
 |[],_,h=>by simpa [RdDL,RdL] using h
 |x::l,vs,h=>by
  simp only[RdDL,RdL]at h⊢;obtain ⟨v,r,h1,h2,h3⟩:=h;exact⟨v,r,h1,Rd.of_data x v h2,RdL.of_data l r h3⟩
end
structure Inv(κ:Ka)(w:World):Prop where
 inj:∀i j b,(κ i).block? = some b→(κ j).block? = some b→i=j
 bnd:∀k b,(κ k).block? = some b→b<w.heap.size
 apart:∀k b,(κ k).block? = some b→¬κ.M b
 mbnd:∀b,κ.M b→b<w.heap.size
structure Step(K:Nat→Prop)(κ:Ka)(w:World)(κ':Ka)(w':World):Prop where
 size:w.heap.size≤w'.heap.size
 os:w'.os=w.os
 tape:w'.tape=w.tape
 output:w'.output=w.output
 M:κ'.M=κ.M
 mkeep:∀b,κ.M b→w'.heap[b]? = w.heap[b]?
 blk:∀b,b<w.heap.size→¬Own κ b→w'.heap[b]? = w.heap[b]?
 own:∀k b,¬K k→(κ k).block? = some b→w'.heap[b]? = w.heap[b]?
 ent:∀k,¬K k→κ' k=κ k
 mv:∀k,K k→κ k=.new∨κ' k=κ k∨κ' k=.dead
 fresh:∀b,Own κ' b→Own κ b∨w.heap.size≤b
theorem Step.refl(K:Nat→Prop)(κ:Ka)(w:World):Step K κ w κ w :=
 ⟨yG _,rfl,rfl,rfl,rfl,λ_ _=>rfl,λ_ _ _=>rfl,λ_ _ _ _=>rfl,λ_ _=>rfl,λ_ _=>.inr (.inl rfl),λ_ h=>.inl h⟩
theorem Step.ent_any{K:Nat→Prop}{κ κ':Ka}{w w':World}(s:Step K κ w κ' w')(k:Nat):κ k=.new∨κ' k=κ k∨κ' k=.dead:=by
 by_cases h:K k
 ·exact s.mv k h
 ·exact .inr (.inl (s.ent k h))
theorem Step.keeps{K:Nat→Prop}{κ κ':Ka}{w w':World}(s:Step K κ w κ' w'):Keeps (Own κ) (Own κ') w w' :=
 ⟨s.size,s.blk,λb hb h h'=>(s.fresh b h').elim h (λh2=>Nat.lt_irrefl _ (yV hb h2))⟩
theorem Step.weaken{K K':Nat→Prop}{κ κ':Ka}{w w':World}(s:Step K κ w κ' w')(h:∀k,K k→K' k):Step K' κ w κ' w' :=
 ⟨s.size,s.os,s.tape,s.output,s.M,s.mkeep,s.blk,λk b hk=>s.own k b (λh'=>hk (h k h')),λk hk=>s.ent k (λh'=>hk (h k h')),λk _=>s.ent_any k,s.fresh⟩
theorem Step.trans{K:Nat→Prop}{κ₁ κ₂ κ₃:Ka}{w₁ w₂ w₃:World}(s:Step K κ₁ w₁ κ₂ w₂)(t:Step K κ₂ w₂ κ₃ w₃):Step K κ₁ w₁ κ₃ w₃ where
 size:=wO s.size t.size
 os:=t.os.trans s.os
 tape:=t.tape.trans s.tape
 output:=t.output.trans s.output
 M:=t.M.trans s.M
 mkeep b hb:=(t.mkeep b (by rw[s.M];exact hb)).trans (s.mkeep b hb)
 blk b hb h:=by
  rw[t.blk b (yV hb s.size) (s.keeps.out b hb h),s.blk b hb h]
 own k b hk hb:=by
  rw[t.own k b hk (by rw[s.ent k hk];exact hb),s.own k b hk hb]
 ent k hk:=(t.ent k hk).trans (s.ent k hk)
 mv k _:=by
  rcases s.ent_any k with h|h|h
  ·exact .inl h
  ·rcases t.ent_any k with h'|h'|h'
   ·exact .inl (h▸h')
   ·exact .inr (.inl (h'.trans h))
   ·exact .inr (.inr h')
  ·rcases t.ent_any k with h'|h'|h'
   ·rw[h]at h';cases h'
   ·exact .inr (.inr (h'.trans h))
   ·exact .inr (.inr h')
 fresh b h:=by
  rcases t.fresh b h with h|h
  ·exact s.fresh b h
  ·exact .inr (wO s.size h)
mutual
theorem Rd.step{K:Nat→Prop}{κ κ':Ka}{w w':World}(s:Step K κ w κ' w'):∀(x:SV) (v:Value),Rd κ w x v→Rd κ' w' x v
 | .top,_,_=>by simp[Rd]
 | .val u,v,h=>by simpa [Rd] using h
 | .agg l,v,h=>by
  simp only[Rd]at h⊢;obtain ⟨cs,h1,h0,h2⟩:=h;exact⟨cs,h1,h0,RdL.step s l cs h2⟩
 | .tup l,v,h=>by
  simp only[Rd]at h⊢;obtain ⟨cs,h1,h2⟩:=h;exact⟨cs,h1,RdL.step s l cs h2⟩
 | .sl sz e l,v,h=>by
  simp only[Rd]at h⊢;exact RdD.keep s.keeps _ _ h
 | .ref sz x off,v,h=>by
  simp only[Rd]at h⊢;exact RdD.keep s.keeps _ _ h
 | .ptr k off,v,h=>by
  simp only[Rd]at h⊢;rcases s.ent_any k with e|e|e
  ·rw[e]at h;exact h.elim
  ·rw[e];exact h
  ·rw[e];show v.oneCell'=true;cases hk:κ k<;>simp only[hk]at h<;>first|exact h.elim|exact h|(subst h;rfl)
 | .rpt k sz i off,v,h=>by
  simp only[Rd]at h⊢;rcases s.ent_any k with e|e|e
  ·rw[e]at h;exact h.elim
  ·rw[e];exact h
  ·rw[e];show v.oneCell'=true;cases hk:κ k<;>simp only[hk]at h<;>first|exact h.elim|exact h|(subst h;rfl)
 | .osl k,v,h=>by
  simp only[Rd]at h⊢;rcases s.ent_any k with e|e|e
  ·rw[e]at h;exact h.elim
  ·rw[e];exact h
  ·rw[e];show v.oneCell'=true;cases hk:κ k<;>simp only[hk]at h<;>first|exact h.elim|exact h|(subst h;rfl)
 | .ifc t x,v,h=>by
  simp only[Rd]at h⊢;obtain ⟨u,h1,h2⟩:=h;exact⟨u,h1,Rd.step s x u h2⟩
 | .clo fn first cap,v,h=>by
  simp only[Rd]at h⊢;obtain ⟨fs,cs,h1,h2,h3⟩:=h;exact⟨fs,cs,h1,RdL.step s first fs h2,RdL.step s cap cs h3⟩
theorem RdL.step{K:Nat→Prop}{κ κ':Ka}{w w':World}(s:Step K κ w κ' w'):∀(l:List SV) (vs:List Value),RdL κ w l vs→RdL κ' w' l vs
 |[],_,h=>by simpa [RdL] using h
 |x::l,vs,h=>by
  simp only[RdL]at h⊢;obtain ⟨v,r,h1,h2,h3⟩:=h;exact⟨v,r,h1,Rd.step s x v h2,RdL.step s l r h3⟩
end
inductive Ob:Type 1
 |fresh
 |non
 |box (l:List SV)
 |row (sz:Nat) {α:Type} (e:α→SV) (l:List α)
 |lit (sz:Nat) (svs:List SV)
 |glob (sz:Nat) (x:SV) (g:Nat)
 |pin (b n cap sz:Nat) {α:Type} (e:α→SV) (l:List α)
 |dat (v:Value) (sz:Nat) {α:Type} (e:α→SV) (l:List α)
 |rown (sz:Nat) {α:Type} (e:α→SV) (l:List α) (i:Nat) (cl:List SV)
 |tbox (T:TypeId) (l:List SV)
 |trow (T:TypeId) (l:List UInt8)
def NoFr(fr:Nat×Nat)(n:Nat):Prop:=fr.1=fr.2∨n≤fr.1
def If{α:Type 1}:List α→Nat→Option α
 |[],_=>none
 |x::_,0=>some x
 |_::l,n+1=>If l n
def RowAt(κ:Ka)(w:World)(k sz n:Nat)(f:Nat→SV→Prop):Prop :=
 ∃b cap cs T fr,κ k=.row b n cap∧w.heap[b]? = some (.cells (List.toArray cs) T fr)∧NoFr fr cs.length∧cap*sz≤cs.length∧n≤cap ∧
  ∀i x,f i x→i<n∧∃u:Value,RdD (Own κ) w x u∧u.cells.size=sz∧Ones u.cells.toList∧∀j,j<sz→cs[i*sz+j]? = u.cells[j]?
def RowN(κ:Ka)(w:World)(k sz n:Nat)(f:Nat→SV→Prop)(i:Nat)(cl:List SV):Prop :=
 ∃b cap cs T fr,κ k=.row b n cap∧w.heap[b]? = some (.cells (List.toArray cs) T fr)∧NoFr fr cs.length∧cap*sz≤cs.length∧n≤cap ∧
  (∀j x,j≠i→f j x→j<n∧∃u:Value,RdD (Own κ) w x u∧u.cells.size=sz∧Ones u.cells.toList∧∀m,m<sz→cs[j*sz+m]? = u.cells[m]?) ∧
  i<n∧∃us:List Value,us.length=sz∧Ones us∧RdL κ w cl us∧∀m,m<sz→cs[i*sz+m]? = us[m]?
def rowF{α:Type}(e:α→SV)(l:List α)(i:Nat)(x:SV):Prop:=∃h:i<l.length,x=e l[i]
def Ahm(svs:List SV)(i:Nat)(x:SV):Prop:=If svs i=some x
def RowT(κ:Ka)(w:World)(k:Nat)(T:TypeId)(l:List UInt8):Prop :=
 ∃b cap cs fr,κ k=.row b l.length cap∧w.heap[b]? = some (.cells (List.toArray cs) T fr)∧NoFr fr cs.length∧cap≤cs.length∧l.length≤cap∧∀i (h:i<l.length),cs[i]? = some (.int .u8 l[i].toNat)
def ObOK(κ:Ka)(w:World)(k:Nat):Ob→Prop
 | .fresh=>κ k=.new
 | .non=>True
 | .box l=>∃b cs T fr,κ k=.blk b∧w.heap[b]? = some (.cells (List.toArray cs) T fr)∧NoFr fr cs.length∧Ones cs∧RdL κ w l cs
 | .row sz e l=>(κ k=.nil∧l=[])∨RowAt κ w k sz l.length (rowF e l)
 | .lit sz svs=>RowAt κ w k sz svs.length (Ahm svs)
 | .glob sz x g=>Rd κ w (.ref sz x 0) (.pointer (some ⟨g,0,none⟩))
 | .pin b n cap sz e l=>κ k=.row b n cap∧RowAt κ w k sz n (rowF e l)
 | .dat v sz e l=>Rd κ w (.sl sz e l) v
 | .rown sz e l i cl=>RowN κ w k sz l.length (rowF e l) i cl
 | .tbox T l=>∃b cs fr,κ k=.blk b∧w.heap[b]? = some (.cells (List.toArray cs) T fr)∧NoFr fr cs.length∧Ones cs∧RdL κ w l cs
 | .trow T l=>(κ k=.nil∧l=[])∨(l≠[]∧RowT κ w k T l)
theorem RowAt.step{K:Nat→Prop}{κ κ':Ka}{w w':World}(s:Step K κ w κ' w'){k sz n:Nat}{f:Nat→SV→Prop}(hk:¬K k)(h:RowAt κ w k sz n f):RowAt κ' w' k sz n f:=by
 obtain ⟨b,cap,cs,T,fr,h1,h2,h3,h4,h5,h6⟩:=h;refine⟨b,cap,cs,T,fr,(s.ent k hk).trans h1,(s.own k b hk (by rw[h1];rfl)).trans h2,h3,h4,h5,λi x hi=>?_⟩;obtain ⟨h0,u,h7,h8⟩:=h6 i x hi;exact⟨h0,u,RdD.keep s.keeps _ _ h7,h8⟩
theorem RowN.step{K:Nat→Prop}{κ κ':Ka}{w w':World}(s:Step K κ w κ' w'){k sz n:Nat}{f:Nat→SV→Prop}{i:Nat}{cl:List SV}(hk:¬K k)(h:RowN κ w k sz n f i cl):RowN κ' w' k sz n f i cl:=by
 obtain ⟨b,cap,cs,T,fr,h1,h2,h3,h4,h5,h6,h7,us,u1,u2,u3,u4⟩:=h;refine⟨b,cap,cs,T,fr,(s.ent k hk).trans h1,(s.own k b hk (by rw[h1];rfl)).trans h2,h3,h4,h5,λj x hj hi=>?_,h7,us,u1,u2,RdL.step s cl us u3,u4⟩;obtain ⟨h0,u,h7,h8⟩:=h6 j x hj hi;exact⟨h0,u,RdD.keep s.keeps _ _ h7,h8⟩
theorem ObOK.step{K:Nat→Prop}{κ κ':Ka}{w w':World}(s:Step K κ w κ' w'){k:Nat}(hk:¬K k):∀(o:Ob),ObOK κ w k o→ObOK κ' w' k o
 | .fresh,h=>(s.ent k hk).trans h
 | .non,_=>trivial
 | .box l,h=>by
  obtain ⟨b,cs,T,fr,h1,h2,h3,h0,h4⟩:=h;exact⟨b,cs,T,fr,(s.ent k hk).trans h1,(s.own k b hk (by rw[h1];rfl)).trans h2,h3,h0,RdL.step s l cs h4⟩
 | .row sz e l,h=>h.imp (λ⟨h1,h2⟩=>⟨(s.ent k hk).trans h1,h2⟩) (RowAt.step s hk)
 | .lit sz svs,h=>RowAt.step s hk h
 | .glob sz x g,h=>Rd.step s _ _ h
 | .pin b n cap sz e l,h=>⟨(s.ent k hk).trans h.1,RowAt.step s hk h.2⟩
 | .dat v sz e l,h=>Rd.step s _ _ h
 | .rown sz e l i cl,h=>RowN.step s hk h
 | .tbox T l,h=>by
  obtain ⟨b,cs,fr,h1,h2,h3,h0,h4⟩:=h;exact⟨b,cs,fr,(s.ent k hk).trans h1,(s.own k b hk (by rw[h1];rfl)).trans h2,h3,h0,RdL.step s l cs h4⟩
 | .trow T l,h=>h.imp (λh=>⟨(s.ent k hk).trans h.1,h.2⟩) (λ⟨h0,b,cap,cs,fr,h1,h2,h3⟩=>⟨h0,b,cap,cs,fr,(s.ent k hk).trans h1,(s.own k b hk (by rw[h1];rfl)).trans h2,h3⟩)
structure Fr where
 w0:World
 k0:Ka
 ds:List Deferred
structure Ctx(F:Fr)(κ:Ka)(w:World):Prop where
 size:F.w0.heap.size≤w.heap.size
 os:w.os=F.w0.os
 tape:w.tape=F.w0.tape
 output:w.output=F.w0.output
 M:κ.M=F.k0.M
 old:∀b,b<F.w0.heap.size→(∀k,(F.k0 k).block? ≠ some b)→w.heap[b]? = F.w0.heap[b]?
 own:∀k b,(κ k).block? = some b→F.w0.heap.size≤b∨∃j,(F.k0 j).block? = some b
 nam:∀k,F.k0 k≠.new→κ k=F.k0 k∨κ k=.dead
theorem Ctx.refl(κ:Ka)(w:World):Ctx ⟨w,κ,[]⟩ κ w :=
 ⟨yG _,rfl,rfl,rfl,rfl,λ_ _ _=>rfl,λk _ h=>.inr ⟨k,h⟩,λ_ _=>.inl rfl⟩
theorem Ctx.step{F:Fr}{K:Nat→Prop}{κ κ':Ka}{w w':World}(c:Ctx F κ w)(hi:Inv κ' w')(s:Step K κ w κ' w'):Ctx F κ' w' where
 size:=wO c.size s.size
 os:=s.os.trans c.os
 tape:=s.tape.trans c.tape
 output:=s.output.trans c.output
 M:=s.M.trans c.M
 old b hb h:=by
  by_cases hm:κ.M b
  ·rw[s.mkeep b hm,c.old b hb h]
  ·rw[s.blk b (yV hb c.size) ?_,c.old b hb h];rintro (⟨k,hk⟩|hk)
   ·rcases c.own k b hk with h2|⟨j,h2⟩
    ·exact Nat.lt_irrefl _ (yV hb h2)
    ·exact h j h2
   ·exact hm hk
 own k b h:=by
  rcases s.fresh b (.inl ⟨k,h⟩) with (⟨j,h1⟩|h1)|h1
  ·exact c.own j b h1
  ·exact zY (by rw[s.M];exact h1) (hi.apart k b h)
  ·exact .inl (wO c.size h1)
 nam k hk:=by
  rcases s.ent_any k with h|h|h
  ·rcases c.nam k hk with h'|h'
   ·exact zY (h'.symm.trans h) hk
   ·rw[h]at h';cases h'
  ·rw[h];exact c.nam k hk
  ·exact .inr h
structure SS:Type 1 where
 σ:Nat→SV
 h:Nat→Ob
structure St(F:Fr)(n:Nat)(s:SS)(κ:Ka)(a:Act)(w:World):Prop where
 defers:a.defers=F.ds
 size:a.tmps.size=n
 inv:Inv κ w
 ctx:Ctx F κ w
 slot:∀i,Rd κ w (s.σ i) (a.tmps.getD i undef)
 obj:∀k,ObOK κ w k (s.h k)
inductive TK
 |bool|int (k:IntKind)|string
 |slice (e:TypeId) (esz ebytes:Nat) (ez:List Value)
 |struct (fs:List (Nat×Nat))
 |array (e len esz:Nat)
 |ptr|iface|func|other
structure TI where
 k:TK
 size:Nat
 zero:List Value
def TI.agg(i:TI):Bool:=match i.k with| .struct _=>true| .array _ _ _=>true|_=>false
def H2(P:Program):List Field→List (Nat×Nat)→Prop
 |[],[]=>True
 |f::fs,(o,n)::r=>f.offset=o∧(P.info? f.type).map (·.size)=some n∧H2 P fs r
 |_,_=>False
def TK.ok(P:Program):TypeDesc→TK→Prop
 |d,.bool=>d=.bool
 |d,.int k=>d=.int k
 |d,.string=>d=.string
 |d,.slice e esz eb ez=>d=.slice e∧∃i z,P.info? e=some i∧i.size=esz∧i.bytes=eb∧i.zero=some z∧z.cells.toList=ez
 |d,.struct fs=>∃a,d=.struct a∧H2 P a.toList fs
 |d,.array e len esz=>d=.array len e∧∃i,P.info? e=some i∧i.size=esz
 |d,.ptr=>∃e,d=.pointer e
 |d,.iface=>∃m,d=.interface m
 |d,.func=>∃a b c,d=.func a b c
 |_,.other=>False
def TI.ok(P:Program)(t:TypeId)(i:TI):Prop :=
 ∃d info z,P.underlying t=some d∧TK.ok P d i.k∧P.info? t=some info∧info.size=i.size∧info.zero=some z∧z.cells.toList=i.zero
structure Ty(P:Program) where
 get:TypeId→Option TI
 ok:∀t i,get t=some i→i.ok P t
def upd{β:Type 1}(f:Nat→β)(d:Nat)(v:β):Nat→β:=λi=>bif Nat.beq i d then v else f i
def B1{β:Type 1}(f:Nat→β)(d:Nat)(v:β):upd f d v d=v:=by simp[upd]
def Cp{β:Type 1}(f:Nat→β){d i:Nat}(v:β)(h:i≠d):upd f d v i=f i:=by
 have:Nat.beq i d=false:=by
  cases hb:Nat.beq i d with
  |false=>rfl
  |true=>exact zY (yK hb) h
 simp[upd,this]
def ev(s:SS):Operand→SV
 | .tmp t=>s.σ t
 | .const v=>.val v
 | .global g=>.val (.pointer (some ⟨g,0,none⟩))
 | .func f=>.clo (.func f) [] []
structure Up:Type 1 where
 v:SV
 rd:List Nat
 objs:List (Nat×Ob)
def Up.ws(U:Up):List Nat:=U.objs.map (·.1)
def Good(P:Program)(o:Oper)(s:SS)(U:Up):Prop :=
 ∀(κ:Ka) (a:Act) (w:World),Inv κ w→(∀x∈o.op.operands,Rd κ w (ev s x) (a.eval x))→(∀k,k∈U.rd∨k∈U.ws→ObOK κ w k (s.h k)) →
  ∀(N:Act→World→Prop) (Q:Exit→Act→World→Prop),
   (∀v κ' w',Step (·∈U.ws) κ w κ' w'→Inv κ' w'→Rd κ' w' U.v v→(∀x∈U.objs,ObOK κ' w' x.1 x.2)→N (a.put o.dst v) w')→o.wp P a w N Q
theorem Good.pure{P:Program}{o:Oper}{s:SS}{x:SV}{rd:List Nat}(h:∀(κ:Ka) (a:Act) (w:World),Inv κ w→(∀x∈o.op.operands,Rd κ w (ev s x) (a.eval x))→(∀k,k∈rd→ObOK κ w k (s.h k))→∃v,(execOp a.eval o).run P w=.ok (.value v) w∧Rd κ w x v):Good P o s ⟨x,rd,[]⟩:=by
 intro κ a w hi hr ho N Q hN;obtain ⟨v,h1,h2⟩:=h κ a w hi hr (λk hk=>ho k (.inl hk));simp only[Oper.wp,h1,Oper.upon];exact hN v κ w (Step.refl _ κ w) hi h2 (λx hx=>by cases hx)
def Ajf{P:Program}{o:Oper}{s:SS}{x:Operand}(h:o.op=.move x∨o.op=.assign x):Good P o s ⟨ev s x,[],[]⟩ :=
 Good.pure λκ a w _ hr _=>by
  refine⟨a.eval x,?_,hr x ?_⟩
  ·rcases h with h|h<;>simp[execOp,h]
  ·rcases h with h|h<;>simp[h,Op.operands]
theorem Rd.val{κ:Ka}{w:World}{u v:Value}(h:Rd κ w (.val u) v):v=u:=by simpa [Rd] using h
def Aje{P:Program}{o:Oper}{s:SS}{c x y:Operand}{b:Bool}(h:o.op=.pick c x y)(hc:ev s c=.val (.bool b)):Good P o s ⟨if b then ev s x else ev s y,[],[]⟩ :=
 Good.pure λκ a w _ hr _=>by
  have h1:=hr c (by simp[h,Op.operands]);rw[hc]at h1;refine⟨if b then a.eval x else a.eval y,?_,?_⟩
  ·simp[execOp,h,h1.val,asBool]
  ·cases b
   ·exact hr y (by simp[h,Op.operands])
   ·exact hr x (by simp[h,Op.operands])
def A3d{P:Program}{o:Oper}{s:SS}{op:BinOp}{t yt:TypeId}{x y:Operand}{k:IntKind}{m n:Int}{u:Value}(h:o.op=.binOp op t x y yt)(hx:ev s x=.val (.int k m))(hy:ev s y=.val (.int k n))(hr:∀w,(binOp op t (.int k m) (.int k n)).run P w=.ok u w):Good P o s ⟨.val u,[],[]⟩ :=
 Good.pure λκ a w _ ie _=>by
  have h1:=ie x (by simp[h,Op.operands]);have h2:=ie y (by simp[h,Op.operands]);rw[hx]at h1;rw[hy]at h2;refine⟨u,?_,by simp[Rd]⟩;simp[execOp,h,h1.val,h2.val,eqGuard_at_int,hr]
def Ec(κ:Ka)(d:Nat)(e:Ent):Ka:=⟨λi=>if i=d then e else κ i,κ.M⟩
def Az(κ:Ka)(d:Nat)(e:Ent):Ec κ d e d=e:=by simp[Ec]
def B8(κ:Ka){d i:Nat}(e:Ent)(h:i≠d):Ec κ d e i=κ i:=by simp[Ec,h]
structure Grew(w w':World):Prop where
 os:w'.os=w.os
 tape:w'.tape=w.tape
 output:w'.output=w.output
 size:w.heap.size≤w'.heap.size
 blk:∀b,b<w.heap.size→w'.heap[b]? = w.heap[b]?
theorem Grew.refl(w:World):Grew w w:=⟨rfl,rfl,rfl,yG _,λ_ _=>rfl⟩
theorem Grew.alloc(w:World)(o:Obj):Grew w (w.alloc o):=⟨rfl,rfl,rfl,by simp,λb hb=>RowKit.Below.heap_alloc w o b hb⟩
theorem Grew.drew(w:World):Grew w w.drew:=⟨rfl,rfl,rfl,yG _,λ_ _=>rfl⟩
theorem Grew.trans{a b c:World}(h:Grew a b)(k:Grew b c):Grew a c :=
 ⟨k.os.trans h.os,k.tape.trans h.tape,k.output.trans h.output,wO h.size k.size,λi hi=>(k.blk i (yV hi h.size)).trans (h.blk i hi)⟩
def J9{κ:Ka}{w w':World}{d:Nat}{e:Ent}(hi:Inv κ w)(hd:κ d=.new)(g:Grew w w')(he:∀b,e.block? = some b→w.heap.size≤b∧b<w'.heap.size):Step (·=d) κ w (Ec κ d e) w'∧Inv (Ec κ d e) w':=by
 have key:∀k b,((Ec κ d e) k).block? = some b→(k=d∧e.block? = some b)∨(k≠d∧(κ k).block? = some b):=by
  intro k b h;by_cases hk:k=d
  ·subst hk;rw[Az]at h;exact .inl ⟨rfl,h⟩
  ·rw[B8 κ e hk]at h;exact .inr ⟨hk,h⟩
 refine⟨⟨g.size,g.os,g.tape,g.output,E,λb hb=>g.blk b (hi.mbnd b hb),λb hb _=>g.blk b hb,λk b _ hb=>g.blk b (hi.bnd k b hb),λk hk=>B8 κ e hk,λk hk=>.inl (by rw[hk];exact hd),?_⟩,⟨?_,?_,?_,λb hb=>yV (hi.mbnd b hb) g.size⟩⟩
 ·rintro b (⟨k,hk⟩|hk)
  ·rcases key k b hk with ⟨_,h⟩|⟨_,h⟩
   ·exact .inr (he b h).1
   ·exact .inl (.inl ⟨k,h⟩)
  ·exact .inl (.inr hk)
 ·intro i j b h1 h2;rcases key i b h1 with ⟨n1,g1⟩|⟨n1,g1⟩<;>rcases key j b h2 with ⟨n2,g2⟩|⟨n2,g2⟩
  ·exact n1.trans n2.symm
  ·have:=(he b g1).1;have:=hi.bnd j b g2;omega
  ·have:=(he b g2).1;have:=hi.bnd i b g1;omega
  ·exact hi.inj i j b g1 g2
 ·intro k b h;rcases key k b h with ⟨_,h⟩|⟨_,h⟩
  ·exact(he b h).2
  ·exact yV (hi.bnd k b h) g.size
 ·intro k b h hm;rcases key k b h with ⟨_,h⟩|⟨_,h⟩
  ·have:=(he b h).1;have:=hi.mbnd b hm;omega
  ·exact hi.apart k b h hm
def Sd{κ:Ka}{w w':World}{k b:Nat}(hi:Inv κ w)(hk:(κ k).block? = some b)(wg:w'.os=w.os)(ht:w'.tape=w.tape)(ho:w'.output=w.output)(hs:w'.heap.size=w.heap.size)(hb:∀i,i≠b→w'.heap[i]? = w.heap[i]?):Step (·=k) κ w κ w'∧Inv κ w':=by
 refine⟨⟨by omega,wg,ht,ho,E,λi hm=>hb i (λe=>hi.apart k b hk (e▸hm)),λi _ hn=>hb i (λe=>hn (.inl ⟨k,e▸hk⟩)),λj i hj pv=>hb i (λe=>hj (hi.inj j k b (e▸pv) hk)),λ_ _=>rfl,λ_ _=>.inr (.inl E),λ_ h=>.inl h⟩,⟨hi.inj,λj i h=>?_,hi.apart,λi h=>?_⟩⟩
 ·rw[hs];exact hi.bnd j i h
 ·rw[hs];exact hi.mbnd i h
def Zs{P:Program}{o:Oper}{s:SS}{d:Nat}{x:SV}{ob:Ob}{rd:List Nat}(hd:s.h d=.fresh)(h:∀ (κ:Ka) (a:Act) (w:World),Inv κ w→(∀ x∈o.op.operands,Rd κ w (ev s x) (a.eval x))→(∀ k,k∈rd→ObOK κ w k (s.h k))→κ d=.new →
   ∃v w' e,(execOp a.eval o).run P w=.ok (.value v) w'∧Grew w w'∧(∀b,e.block? = some b→w.heap.size≤b∧b<w'.heap.size) ∧
    (Step (·=d) κ w (Ec κ d e) w'→Rd (Ec κ d e) w' x v∧ObOK (Ec κ d e) w' d ob)):Good P o s ⟨x,rd,[(d,ob)]⟩:=by
 intro κ a w hi hr ho N Q hN;have a6:κ d=.new:=by have:=ho d (.inr (by simp[Up.ws]));rwa [hd]at this
 obtain ⟨v,w',e,h1,h2,h3,h4⟩:=h κ a w hi hr (λk hk=>ho k (.inl hk)) a6;have cn:=J9 hi a6 h2 h3;obtain ⟨h5,h6⟩:=h4 cn.1;simp only[Oper.wp,h1,Oper.upon];exact hN v _ w' (cn.1.weaken (by simp[Up.ws])) cn.2 h5 (λy hy=>by simp only[yB]at hy;subst hy;exact h6)
def cellsOf:SV→List SV
 | .agg l=>l
 |x=>[x]
def SV.one:SV→Bool
 | .val v=>v.oneCell'
 | .top=>false
 | .agg _=>false
 | .tup _=>false
 |_=>true
theorem Rd.one{κ:Ka}{w:World}:∀{x:SV} {v:Value},Rd κ w x v→x.one=true→v.oneCell'=true
 | .val u,v,h,h1=>by rw[h.val];exact h1
 | .sl sz e l,v,h,_=>by
  simp only[Rd,RdD]at h;rcases h with ⟨_,a,c,rfl⟩|⟨b,off,cap,rfl,_⟩<;>rfl
 | .ref sz x off,v,h,_=>by
  simp only[Rd,RdD]at h;obtain ⟨b,o,u,rfl,_⟩:=h;rfl
 | .ptr k off,v,h,_=>by
  simp only[Rd]at h;cases hk:κ k<;>simp only[hk]at h<;>first|exact h.elim|exact h|(subst h;rfl)
 | .rpt k sz i off,v,h,_=>by
  simp only[Rd]at h;cases hk:κ k<;>simp only[hk]at h<;>first|exact h.elim|exact h|(subst h;rfl)
 | .osl k,v,h,_=>by
  simp only[Rd]at h;cases hk:κ k<;>simp only[hk]at h<;>first|exact h.elim|exact h|(subst h;rfl)
 | .ifc t x,v,h,_=>by
  simp only[Rd]at h;obtain ⟨u,rfl,_⟩:=h;rfl
 | .clo fn first cap,v,h,_=>by
  simp only[Rd]at h;obtain ⟨u,u',rfl,_⟩:=h;rfl
def SV.boxed:SV→Bool
 | .agg _=>true
 |x=>x.one
theorem Value.cells_one{v:Value}(h:v.oneCell'=true):v.cells=#[v]:=by
 cases v<;>simp_all[Value.oneCell',Value.cells]
theorem Rd.cells{κ:Ka}{w:World}{x:SV}{v:Value}(h:Rd κ w x v)(hb:x.boxed=true):Ones v.cells.toList∧RdL κ w (cellsOf x) v.cells.toList:=by
 have plain:x.one=true→Ones v.cells.toList∧RdL κ w [x] v.cells.toList:=λh1=>by
  have h2:=h.one h1;rw[Value.cells_one h2];refine⟨λc hc=>by simp at hc;subst hc;exact h2,?_⟩;simp only[RdL];exact⟨v,[],E,h,E⟩
 cases x with
 |agg l=>
  simp only[Rd]at h;obtain ⟨cs,rfl,h1,h2⟩:=h;exact⟨by simpa [Value.cells] using h1,by simpa [Value.cells,cellsOf] using h2⟩
 |top=>exact plain hb
 |val v=>exact plain hb
 |tup l=>simp[SV.boxed,SV.one]at hb
 |sl sz e l=>exact plain hb
 |ref sz x off=>exact plain hb
 |ptr k off=>exact plain hb
 |rpt k sz i off=>exact plain hb
 |osl k=>exact plain hb
 |ifc t x=>exact plain hb
 |clo fn first cap=>exact plain hb
theorem NoFr.zero(n:Nat):NoFr (0,0) n:=.inl rfl
def Aph{P:Program}{o:Oper}{s:SS}{t:TypeId}{x:Operand}{d:Nat}(h:o.op=.box t x)(hd:s.h d=.fresh)(hb:(ev s x).boxed=true):Good P o s ⟨.ptr d 0,[],[(d,.box (cellsOf (ev s x)))]⟩ :=
 Zs hd λκ a w hi hr _ hn=>by
  have h1:=hr x (by simp[h,Op.operands]);have h2:=h1.cells hb;refine⟨.pointer (some ⟨w.heap.size,0,none⟩),w.alloc (.cells (a.eval x).cells t),.blk w.heap.size,?_,Grew.alloc w _,?_,?_⟩
  ·simp[execOp,h,Instr.box,newVar,newRow]
  ·intro b hb;simp only[Ent.block?,Option.some.injEq]at hb;subst hb;simp
  ·intro st;refine⟨by simp[Rd,Az],w.heap.size,(a.eval x).cells.toList,t,(0,0),Az _ _ _,?_,NoFr.zero _,h2.1,RdL.step st _ _ h2.2⟩;rw[heap_alloc_new]
def Aah{κ:Ka}{w:World}:∀l:List Value,RdL κ w (l.map .val) l
 |[]=>by simp[RdL]
 |v::l=>by simp only[xV,RdL];exact⟨v,l,rfl,by simp[Rd],Aah l⟩
def Ace(l:List Value):Bool:=l.all (·.oneCell')
def Uu{l:List Value}(h:Ace l=true):Ones l:=by simpa [Ace,Ones] using h
def Atn{P:Program}(Γ:Ty P){o:Oper}{s:SS}{t:TypeId}{i:TI}{d:Nat}(h:o.op=.alloc t)(hd:s.h d=.fresh)(ht:Γ.get t=some i)(h1:Ace i.zero=true):Good P o s ⟨.ptr d 0,[],[(d,.box (i.zero.map .val))]⟩ :=
 Zs hd λκ a w hi hr _ hn=>by
  obtain ⟨dd,info,z,k1,k2,k3,k4,k5,k6⟩:=Γ.ok t i ht;refine⟨.pointer (some ⟨w.heap.size,0,none⟩),w.alloc (.cells z.cells t),.blk w.heap.size,?_,Grew.alloc w _,?_,?_⟩
  ·simp[execOp,h,Instr.alloc,newVar,newRow,zeroValue,typeInfo,k3,k5]
  ·intro b hb;simp only[Ent.block?,Option.some.injEq]at hb;subst hb;simp
  ·intro st;refine⟨by simp[Rd,Az],w.heap.size,i.zero,t,(0,0),Az _ _ _,?_,NoFr.zero _,Uu h1,Aah _⟩;rw[heap_alloc_new,←k6]
def Aaj(κ:Ka)(w:World)(b o:Nat)(l:List SV):Prop:=∃cs:List Value,RdL κ w l cs∧Ones cs∧∀j,j<cs.length→w.cell? ⟨b,o+j,none⟩=cs[j]?
theorem RdL.length{κ:Ka}{w:World}:∀{l:List SV} {cs:List Value},RdL κ w l cs→cs.length=l.length
 |[],cs,h=>by simp only[RdL]at h;subst h;rfl
 |x::l,cs,h=>by
  simp only[RdL]at h;obtain ⟨v,r,rfl,_,h⟩:=h;simp[h.length]
theorem RdL.drop{κ:Ka}{w:World}:∀(n:Nat) {l:List SV} {cs:List Value},RdL κ w l cs→RdL κ w (l.drop n) (cs.drop n)
 |0,l,cs,h=>by simpa using h
 |n+1,[],cs,h=>by simp only[RdL]at h;subst h;simp[RdL]
 |n+1,x::l,cs,h=>by
  simp only[RdL]at h;obtain ⟨v,r,rfl,_,h⟩:=h;simpa using h.drop n
theorem RdL.take{κ:Ka}{w:World}:∀(n:Nat) {l:List SV} {cs:List Value},RdL κ w l cs→RdL κ w (l.take n) (cs.take n)
 |0,l,cs,h=>by simp[RdL]
 |n+1,[],cs,h=>by simp only[RdL]at h;subst h;simp[RdL]
 |n+1,x::l,cs,h=>by
  simp only[RdL]at h;obtain ⟨v,r,rfl,h1,h⟩:=h;simp only[List.take_succ_cons,RdL];exact⟨v,_,E,h1,h.take n⟩
theorem RdL.append{κ:Ka}{w:World}:∀{l m:List SV} {cs ds:List Value},RdL κ w l cs→RdL κ w m ds→RdL κ w (l++m) (cs++ds)
 |[],m,cs,ds,h,h'=>by simp only[RdL]at h;subst h;simpa using h'
 |x::l,m,cs,ds,h,h'=>by
  simp only[RdL]at h;obtain ⟨v,r,rfl,h1,h⟩:=h;simp only[xS,RdL];exact⟨v,_,E,h1,h.append h'⟩
theorem RdL.get{κ:Ka}{w:World}:∀{n:Nat} {l:List SV} {cs:List Value} {x:SV},RdL κ w l cs→If l n=some x→∃v,cs[n]? = some v∧Rd κ w x v
 |n,[],cs,x,h,hg=>by cases n<;>simp[If]at hg
 |0,y::l,cs,x,h,hg=>by
  simp only[RdL]at h;obtain ⟨v,r,rfl,h1,h⟩:=h;simp only[If,Option.some.injEq]at hg;subst hg;exact⟨v,by simp,h1⟩
 |n+1,y::l,cs,x,h,hg=>by
  simp only[RdL]at h;obtain ⟨v,r,rfl,h1,h⟩:=h;obtain ⟨u,h2,h3⟩:=h.get (n:=n) hg;exact⟨u,by simpa using h2,h3⟩
theorem Ones.drop{cs:List Value}(h:Ones cs)(n:Nat):Ones (cs.drop n):=λc hc=>h c (List.mem_of_mem_drop hc)
theorem Ones.take{cs:List Value}(h:Ones cs)(n:Nat):Ones (cs.take n):=λc hc=>h c (wQ hc)
theorem Ones.append{cs ds:List Value}(h:Ones cs)(h':Ones ds):Ones (cs++ds):=λc hc=>by
 rcases yI.1 hc with hc|hc
 ·exact h c hc
 ·exact h' c hc
def Aw8{P:Program}(Γ:Ty P){t:TypeId}{i:TI}(ht:Γ.get t=some i)(w:World)(hk:i.k matches .bool| .int _| .string| .slice .. | .struct _| .array .. | .ptr| .iface| .func):(isAgg t).run P w=.ok i.agg w:=by
 obtain ⟨d,info,z,k1,k2,k3,k4,k5,k6⟩:=Γ.ok t i ht;obtain ⟨k,n,zz⟩:=i;cases k<;>simp only[TK.ok]at k2<;>first
  |(subst k2;simp[isAgg,run_underlying k1,TI.agg];done)
  |(obtain ⟨a,rfl,_⟩:=k2;simp[isAgg,run_underlying k1,TI.agg];done)
  |(obtain ⟨rfl,_⟩:=k2;simp[isAgg,run_underlying k1,TI.agg];done)
  |(obtain ⟨a,rfl⟩:=k2;simp[isAgg,run_underlying k1,TI.agg];done)
  |(obtain ⟨a,b,c,rfl⟩:=k2;simp[isAgg,run_underlying k1,TI.agg];done)
  |simp at hk
theorem TK.plain{P:Program}{d:TypeDesc}:∀{k:TK},TK.ok P d k→(k matches .bool| .int _| .string| .slice .. | .struct _| .array .. | .ptr| .iface| .func)
 | .bool,_=>rfl| .int _,_=>rfl| .string,_=>rfl| .slice ..,_=>rfl| .struct _,_=>rfl| .array ..,_=>rfl| .ptr,_=>rfl| .iface,_=>rfl| .func,_=>rfl
 | .other,h=>by simp[TK.ok]at h
def Am5{P:Program}(Γ:Ty P){κ:Ka}{w:World}{t:TypeId}{i:TI}(ht:Γ.get t=some i){b o off:Nat}{l:List SV}(hc:Aaj κ w b o l):(i.agg=true→off+i.size≤l.length→∃v,(loadVar t ⟨b,o+off,none⟩).run P w=.ok v w∧Rd κ w (.agg ((l.drop off).take i.size)) v) ∧
  (i.agg=false→∀x,If l off=some x→∃v,(loadVar t ⟨b,o+off,none⟩).run P w=.ok v w∧Rd κ w x v):=by
 obtain ⟨cs,h1,h2,h3⟩:=hc;obtain ⟨d,info,z,k1,k2,k3,k4,k5,k6⟩:=Γ.ok t i ht;have ss:=Aw8 Γ ht w (TK.plain k2);constructor
 ·intro ha hl;have hlen:=h1.length;have su:=run_loadCells_list (P:=P) w ⟨b,o+off,none⟩ ((cs.drop off).take i.size) (λ j v hj=>by
   rw[vN]at hj;split at hj
   ·rw[List.getElem?_drop]at hj;have ab:off+j<cs.length:=by
     rcases vM (off+j) cs.length with h|h
     ·exact h
     ·rw[wP h]at hj;cases hj
    rw[Addr.add_lit,vS,h3 _ ab];exact hj
   ·cases hj)
  have hn:((cs.drop off).take i.size).length=i.size:=by simp;omega
  rw[hn]at su;refine⟨.agg ((cs.drop off).take i.size).toArray,?_,?_⟩
  ·simp[loadVar,ss,ha,sizeOf,typeInfo,k3,k4,su]
  ·simp only[Rd];exact⟨_,E,(h2.drop off).take _,(h1.drop off).take _⟩
 ·intro ha x hx;obtain ⟨v,h4,h5⟩:=h1.get hx;have ab:off<cs.length:=by
   rcases vM off cs.length with h|h
   ·exact h
   ·rw[wP h]at h4;cases h4
  exact⟨v,by simp[loadVar,ss,ha,h3 off ab,h4],h5⟩
def M0(i:TI)(l:List SV)(off:Nat):Option SV :=
 match i.agg with
 |true=>bif Nat.ble (off+i.size) l.length then some (.agg ((l.drop off).take i.size)) else none
 |false=>If l off
def Ms{P:Program}(Γ:Ty P){κ:Ka}{w:World}{t:TypeId}{i:TI}(ht:Γ.get t=some i){b o off:Nat}{l:List SV}(hc:Aaj κ w b o l){x:SV}(hx:M0 i l off=some x):∃v,(loadVar t ⟨b,o+off,none⟩).run P w=.ok v w∧Rd κ w x v:=by
 obtain ⟨h1,h2⟩:=Am5 (off:=off) Γ ht hc;unfold M0 at hx;cases ha:i.agg with
 |false=>rw[ha]at hx;exact h2 ha x hx
 |true=>
  rw[ha]at hx;simp only[uA]at hx;split at hx
  ·rename_i hb;simp only[Option.some.injEq]at hx;subst hx;exact h1 ha (xZ hb)
  ·cases hx
theorem ObOK.cellsAt{κ:Ka}{w:World}{k:Nat}{l:List SV}(h:ObOK κ w k (.box l)):∃b,κ k=.blk b∧Aaj κ w b 0 l:=by
 obtain ⟨b,cs,T,fr,h1,h2,h3,h4,h5⟩:=h;refine⟨b,h1,cs,h5,h4,λj hj=>?_⟩;rw[wE,cell_of_row w b j cs.toArray T fr h2];simp
theorem RdD.toRd{κ:Ka}{w:World}{x:SV}{v:Value}(h:RdD (Own κ) w x v):Rd κ w x v:=Rd.of_data x v h
theorem LaidAt.cellsAt{κ:Ka}{w:World}{b o sz:Nat}{x:SV}{u:Value}(h:LaidAt w b o sz u)(hr:Rd κ w x u)(hb:x.boxed=true):Aaj κ w b o (cellsOf x):=by
 obtain ⟨h1,h2,h3⟩:=h;refine⟨u.cells.toList,(hr.cells hb).2,h2,λj hj=>?_⟩;rw[h3 j (by simpa [h1] using hj)];simp
def Ahw{P:Program}(Γ:Ty P){o:Oper}{s:SS}{t:TypeId}{i:TI}{x:Operand}{k off:Nat}{l:List SV}{y:SV}(h:o.op=.load t x)(hx:ev s x=.ptr k off)(ht:Γ.get t=some i)(hk:s.h k=.box l)(hy:M0 i l off=some y):Good P o s ⟨y,[k],[]⟩ :=
 Good.pure λκ a w _ hr ho=>by
  have h1:=hr x (by simp[h,Op.operands]);have h2:=ho k y_;rw[hk]at h2;obtain ⟨b,h3,h4⟩:=h2.cellsAt;rw[hx]at h1;simp only[Rd,h3]at h1;obtain ⟨v,h5,h6⟩:=Ms Γ ht h4 hy;rw[wE]at h5;exact⟨v,by simp[execOp,h,h1,Instr.loadAt,Instr.sureAddr,h5],h6⟩
def Ahv{P:Program}(Γ:Ty P){o:Oper}{s:SS}{t:TypeId}{i:TI}{x:Operand}{sz off:Nat}{z y:SV}(h:o.op=.load t x)(hx:ev s x=.ref sz z off)(ht:Γ.get t=some i)(hz:z.boxed=true)(hy:M0 i (cellsOf z) off=some y):Good P o s ⟨y,[],[]⟩ :=
 Good.pure λκ a w _ hr _=>by
  have h1:=hr x (by simp[h,Op.operands]);rw[hx]at h1;simp only[Rd,RdD]at h1;obtain ⟨b,oo,u,h2,h3,h4,h5,h6⟩:=h1;obtain ⟨v,h7,h8⟩:=Ms Γ ht (h6.cellsAt h5.toRd hz) hy;exact⟨v,by simp[execOp,h,h2,Instr.loadAt,Instr.sureAddr,h7],h8⟩
theorem RowAt.cellsAt{κ:Ka}{w:World}{k sz n:Nat}{f:Nat→SV→Prop}(h:RowAt κ w k sz n f){i:Nat}{x:SV}(hx:f i x)(hb:x.boxed=true):∃b cap,κ k=.row b n cap∧Aaj κ w b (i*sz) (cellsOf x):=by
 obtain ⟨b,cap,cs,T,fr,h1,h2,h3,h4,h5,h6⟩:=h;obtain ⟨h0,u,h7,h8,h9,mi⟩:=h6 i x hx;refine⟨b,cap,h1,u.cells.toList,(h7.toRd.cells hb).2,h9,λj hj=>?_⟩;rw[cell_of_row w b _ cs.toArray T fr h2,uS,mi j (by simpa [h8] using hj)];simp
def Xb{P:Program}(Γ:Ty P){o:Oper}{s:SS}{t:TypeId}{ti:TI}{x:Operand}{k sz i off n:Nat}{f:Nat→SV→Prop}{z y:SV}(h:o.op=.load t x)(hx:ev s x=.rpt k sz i off)(ht:Γ.get t=some ti)(hk:∀κ w,ObOK κ w k (s.h k)→RowAt κ w k sz n f)(hf:f i z)(hz:z.boxed=true)(hy:M0 ti (cellsOf z) off=some y):Good P o s ⟨y,[k],[]⟩ :=
 Good.pure λκ a w _ hr ho=>by
  have h1:=hr x (by simp[h,Op.operands]);have h2:=hk κ w (ho k y_);obtain ⟨b,cap,h3,h4⟩:=h2.cellsAt hf hz;rw[hx]at h1;simp only[Rd,h3]at h1;obtain ⟨v,h5,h6⟩:=Ms Γ ht h4 hy;exact⟨v,by simp[execOp,h,h1,Instr.loadAt,Instr.sureAddr,h5],h6⟩
theorem ObOK.rowAt{κ:Ka}{w:World}{k sz:Nat}{α:Type}{e:α→SV}{l:List α}(h:ObOK κ w k (.row sz e l))(hl:l≠[]):RowAt κ w k sz l.length (rowF e l) :=
 h.resolve_left (λh=>hl h.2)
def setAt{α:Type 1}:List α→Nat→List α→List α
 |l,_,[]=>l
 |[],_,_=>[]
 |_::l,0,v::vs=>v::setAt l 0 vs
 |x::l,n+1,v::vs=>x::setAt l n (v::vs)
def setV:List Value→Nat→List Value→List Value
 |l,_,[]=>l
 |[],_,_=>[]
 |_::l,0,v::vs=>v::setV l 0 vs
 |x::l,n+1,v::vs=>x::setV l n (v::vs)
def Oj:∀(vs l:List Value) (n:Nat),n+vs.length≤l.length→setV l n vs=l.take n++vs++l.drop (n+vs.length)
 |[],l,n,_=>by cases l<;>simp[setV]
 |v::vs,[],n,h=>by simp at h
 |v::vs,x::l,0,h=>by
  have:=Oj vs l 0 (by simp at h⊢;omega);simp only[setV,this];simp[tJ]
 |v::vs,x::l,n+1,h=>by
  have:=Oj (v::vs) l n (by simp at h⊢;omega);simp only[setV,this];simp[vS,tJ 1];rw[show n+(vs.length+2)=(n+(vs.length+1))+1 from by omega,List.drop_succ_cons]
theorem RdL.setAt{κ:Ka}{w:World}:∀{ys l:List SV} {vs cs:List Value} (n:Nat),RdL κ w l cs→RdL κ w ys vs→RdL κ w (setAt l n ys) (setV cs n vs)
 |[],l,vs,cs,n,h,h'=>by
  simp only[RdL]at h';subst h';cases l<;>cases cs<;>simpa [Sy.setAt,setV] using h
 |y::ys,[],vs,cs,n,h,h'=>by
  simp only[RdL]at h h';obtain ⟨v,r,rfl,_,_⟩:=h';subst h;simp[Sy.setAt,setV,RdL]
 |y::ys,x::l,vs,cs,0,h,h'=>by
  simp only[RdL]at h h';obtain ⟨v,r,rfl,h1,h2⟩:=h';obtain ⟨u,q,rfl,h3,h4⟩:=h;simp only[Sy.setAt,setV,RdL];exact⟨v,_,E,h1,RdL.setAt 0 h4 h2⟩
 |y::ys,x::l,vs,cs,n+1,h,h'=>by
  have h'':=h';simp only[RdL]at h h';obtain ⟨v,r,rfl,h1,h2⟩:=h';obtain ⟨u,q,rfl,h3,h4⟩:=h;simp only[Sy.setAt,setV,RdL];exact⟨u,_,E,h3,RdL.setAt n h4 h''⟩
theorem Ones.setV:∀{vs cs:List Value} (n:Nat),Ones cs→Ones vs→Ones (setV cs n vs)
 |[],cs,n,h,_=>by cases cs<;>simpa [Sy.setV] using h
 |v::vs,[],n,h,h'=>by simpa [Sy.setV] using h
 |v::vs,x::l,0,h,h'=>by
  intro c hc;simp only[Sy.setV,yH]at hc;rcases hc with rfl|hc
  ·exact h' _ y_
  ·exact Ones.setV 0 (λc hc=>h c (by simp[hc])) (λc hc=>h' c (by simp[hc])) c hc
 |v::vs,x::l,n+1,h,h'=>by
  intro c hc;simp only[Sy.setV,yH]at hc;rcases hc with rfl|hc
  ·exact h _ y_
  ·exact Ones.setV n (λc hc=>h c (by simp[hc])) h' c hc
def Cg:∀(vs cs:List Value) (n:Nat),(setV cs n vs).length=cs.length
 |[],cs,n=>by cases cs<;>simp[setV]
 |v::vs,[],n=>by simp[setV]
 |v::vs,x::l,0=>by simp[setV,Cg vs l 0]
 |v::vs,x::l,n+1=>by simp[setV,Cg (v::vs) l n]
def De(P:Program)(g o:Nat)(t:TypeId)(fz:Nat×Nat):∀(vs:List Value) (i:Nat) (cur:List Value) (w:World),w.heap[g]? = some (.cells cur.toArray t fz)→NoFr fz cur.length →
  o+i+vs.length≤cur.length→Ones vs →
  ∃w',(storeCells ⟨g,o,none⟩ vs i).run P w=.ok () w'∧w'.heap[g]? = some (.cells (setV cur (o+i) vs).toArray t fz)∧w'.os=w.os∧w'.tape=w.tape∧w'.output=w.output∧w'.heap.size=w.heap.size∧∀j,j≠g→w'.heap[j]? = w.heap[j]?
 |[],i,cur,w,hg,_,_,_=>⟨w,by simp[storeCells],by cases cur<;>simpa [setV] using hg,rfl,rfl,rfl,rfl,λ_ _=>rfl⟩
 |v::rest,i,cur,w,hg,wc,hl,h1=>by
  have hi:o+i<cur.length:=by simp at hl;omega
  have mj:(⟨g,o,none⟩:Addr).add i=⟨g,o+i,none⟩:=by unfold Addr.add;split<;>simp_all
  have fm:w.cell? ⟨g,o+i,none⟩=some cur[o+i]:=by simp[World.cell?,hg,hi]
  have zl:w.frozen? ⟨g,o+i,none⟩=false:=by
   obtain ⟨lo,hi'⟩:=fz;simp only[World.frozen?,hg];rcases wc with h|h
   ·simp only at h;subst h;simp
   ·simp only at h;simp;omega
  have cn:(store ((⟨g,o,none⟩:Addr).add i) v).run P w=.ok () (w.setCell ⟨g,o+i,none⟩ v):=by
   rw[mj,run_store P w _ v _ (h1 v y_),fm];simp[zl]
  have lq:(w.setCell ⟨g,o+i,none⟩ v).heap[g]? = some (.cells (cur.set (o+i) v).toArray t fz):=by
   simp only[World.setCell,Array.getElem?_modify,if_true,hg,uM];simp
  obtain ⟨w',e1,e2,e3,e4,e5,e6,e7⟩:=De P g o t fz rest (i+1) (cur.set (o+i) v) (w.setCell ⟨g,o+i,none⟩ v) lq (by simpa using wc) (by simp at hl⊢;omega) (λx hx=>h1 x (by simp[hx]));refine⟨w',?_,?_,e3,e4,e5,by simpa using e6,λj hj=>(e7 j hj).trans (RowKit.Below.heap_setCell _ _ _ _ hj)⟩
  ·simp only[storeCells,Sem.run_bind,cn,Result.andThen_ok,e1]
  ·rw[e2];congr 3;rw[Oj rest _ _ (by simp at hl⊢;omega),Oj (v::rest) cur _ (by simp at hl⊢;omega)];have:=list_seg_step cur (o+i) v rest (by simp at hl⊢;omega);simpa [vS] using this
def Y0{P:Program}{w:World}{t:TypeId}{info:TypeInfo}(hi:P.info? t=some info){v:Value}{b o:Nat}{T:TypeId}{fz:Nat×Nat}{cur:List Value}(hg:w.heap[b]? = some (.cells cur.toArray T fz))(wc:NoFr fz cur.length)(hn:v.cells.size=info.size)(hl:o+v.cells.size≤cur.length)(h1:Ones v.cells.toList):∃w',(storeVar t ⟨b,o,none⟩ v).run P w=.ok () w'∧w'.heap[b]? = some (.cells (setV cur o v.cells.toList).toArray T fz)∧w'.os=w.os∧w'.tape=w.tape∧w'.output=w.output∧w'.heap.size=w.heap.size∧∀j,j≠b→w'.heap[j]? = w.heap[j]?:=by
 obtain ⟨w',e1,e2,e3⟩:=De P b o T fz v.cells.toList 0 cur w hg wc (by simpa using hl) h1;refine⟨w',?_,by simpa using e2,e3⟩;simp[storeVar,sizeOf,typeInfo,hi,hn,e1]
mutual
def SV.data:SV→Bool
 | .top=>true
 | .val _=>true
 | .agg l=>Q5 l
 | .tup l=>Q5 l
 | .sl _ _ _=>true
 | .ref _ _ _=>true
 | .ifc _ x=>x.data
 | .clo _ f l=>Q5 f&&Q5 l
 |_=>false
def Q5:List SV→Bool
 |[]=>true
 |x::l=>x.data&&Q5 l
end
mutual
theorem Rd.data{κ:Ka}{w:World}:∀(x:SV) (v:Value),x.data=true→Rd κ w x v→RdD (Own κ) w x v
 | .top,_,_,_=>by simp[RdD]
 | .val u,v,_,h=>by simpa [RdD,Rd] using h
 | .agg l,v,hd,h=>by
  simp only[RdD,Rd,SV.data]at h hd⊢;obtain ⟨cs,h1,h0,h2⟩:=h;exact⟨cs,h1,h0,RdL.data l cs hd h2⟩
 | .tup l,v,hd,h=>by
  simp only[RdD,Rd,SV.data]at h hd⊢;obtain ⟨cs,h1,h2⟩:=h;exact⟨cs,h1,RdL.data l cs hd h2⟩
 | .sl sz e l,v,_,h=>by simpa only [Rd] using h
 | .ref sz x off,v,_,h=>by simpa only [Rd] using h
 | .ptr _ _,_,hd,_=>by simp[SV.data]at hd
 | .rpt _ _ _ _,_,hd,_=>by simp[SV.data]at hd
 | .osl _,_,hd,_=>by simp[SV.data]at hd
 | .ifc t x,v,hd,h=>by
  simp only[RdD,Rd,SV.data]at h hd⊢;obtain ⟨u,h1,h2⟩:=h;exact⟨u,h1,Rd.data x u hd h2⟩
 | .clo fn first cap,v,hd,h=>by
  simp only[RdD,Rd,SV.data,zE]at h hd⊢;obtain ⟨fs,cs,h1,h2,h3⟩:=h;exact⟨fs,cs,h1,RdL.data first fs hd.1 h2,RdL.data cap cs hd.2 h3⟩
theorem RdL.data{κ:Ka}{w:World}:∀(l:List SV) (vs:List Value),Q5 l=true→RdL κ w l vs→RdDL (Own κ) w l vs
 |[],_,_,h=>by simpa [RdDL,RdL] using h
 |x::l,vs,hd,h=>by
  simp only[RdDL,RdL,Q5,zE]at h hd⊢;obtain ⟨v,r,h1,h2,h3⟩:=h;exact⟨v,r,h1,Rd.data x v hd.1 h2,RdL.data l r hd.2 h3⟩
end
theorem Rd.of_cells{κ:Ka}{w:World}{x:SV}{cs:List Value}(hb:x.boxed=true)(h1:Ones cs)(h:RdL κ w (cellsOf x) cs):∃u:Value,Rd κ w x u∧u.cells.toList=cs:=by
 have plain:RdL κ w [x] cs→∃u:Value,Rd κ w x u∧u.cells.toList=cs:=λh=>by
  simp only[RdL]at h;obtain ⟨v,r,rfl,h2,rfl⟩:=h;exact⟨v,h2,by rw[Value.cells_one (h1 v y_)]⟩
 cases x with
 |agg l=>exact⟨.agg cs.toArray,by simp only[Rd];exact⟨cs,rfl,h1,h⟩,by simp[Value.cells]⟩
 |_=>exact plain h
def Mp(l vs:List Value)(n j:Nat)(h:n+vs.length≤l.length):(setV l n vs)[j]? = if n≤j∧j<n+vs.length then vs[j-n]? else l[j]?:=by
 rw[Oj vs l n h];by_cases h1:j<n
 ·rw[zD q_,xJ,xR (by simp;omega),vN,zG h1]
 ·by_cases h2:j<n+vs.length
  ·rw[zG q_,xR (by simp;omega),wG (by simp;omega)];congr 1;simp;omega
  ·rw[zD q_,wG (by simp;omega),List.getElem?_drop];congr 1;simp;omega
def U7{P:Program}(Γ:Ty P){o:Oper}{s:SS}{t:TypeId}{i:TI}{x y:Operand}{k off:Nat}{l:List SV}(h:o.op=.store t x y)(hx:ev s x=.ptr k off)(ht:Γ.get t=some i)(hk:s.h k=.box l)(hb:(ev s y).boxed=true)(hn:(cellsOf (ev s y)).length=i.size)(hl:off+i.size≤l.length):Good P o s ⟨.val undef,[],[(k,.box (setAt l off (cellsOf (ev s y))))]⟩:=by
 intro κ a w hi hr ho N Q hN;have h1:=hr x (by simp[h,Op.operands]);have h2:=hr y (by simp[h,Op.operands]);have h3:=ho k (.inr (by simp[Up.ws]));rw[hk]at h3;obtain ⟨b,cs,T,fr,e1,e2,e3,e4,e5⟩:=h3;rw[hx]at h1;simp only[Rd,e1]at h1;obtain ⟨h4,h5⟩:=h2.cells hb;obtain ⟨d,info,z,k1,k2,k3,k4,k5,k6⟩:=Γ.ok t i ht;have bg:(a.eval y).cells.size=i.size:=by rw[←hn,←h5.length];simp
 obtain ⟨w',f1,f2,f3,f4,f5,f6,f7⟩:=Y0 (P:=P) (t:=t) k3 (v:=a.eval y) (o:=off) e2 e3 (by rw[bg,k4]) (by rw[bg,e5.length];exact hl) h4;obtain ⟨st,inv⟩:=Sd hi (k:=k) (b:=b) (by rw[e1];rfl) f3 f4 f5 f6 f7;have au:(execOp a.eval o).run P w=.ok .skip w':=by simp[execOp,h,h1,Instr.storeAt,Instr.sureAddr,f1]
 simp only[Oper.wp,au,Oper.upon];refine hN undef κ w' (st.weaken (by simp[Up.ws])) inv (by simp[Rd]) (λp hp=>?_);simp only[yB]at hp;subst hp;refine⟨b,_,T,fr,e1,f2,by rw[Cg];exact e3,e4.setV _ h4,(RdL.step st _ _ e5).setAt _ (RdL.step st _ _ h5)⟩
theorem RowAt.write{κ:Ka}{w:World}{k sz n:Nat}{f:Nat→SV→Prop}(h:RowAt κ w k sz n f)(hi:Inv κ w){i off:Nat}{x z:SV}{vs:List Value}(hx:f i x)(wi:x.boxed=true){ys:List SV}(hys:RdL κ w ys vs)(h1:Ones vs)(wj:off+ys.length≤sz)(hz:cellsOf z=setAt (cellsOf x) off ys)(wk:z.boxed=true)(wm:z.data=true){P:Program}{t:TypeId}{info:TypeInfo}(ht:P.info? t=some info)(eo:info.size=vs.length){v:Value}(hv:v.cells.toList=vs):∃b cap w',κ k=.row b n cap∧(storeVar t ⟨b,i*sz+off,none⟩ v).run P w=.ok () w'∧Step (·=k) κ w κ w'∧Inv κ w' ∧
   RowAt κ w' k sz n (λj y=>(j≠i∧f j y)∨(j=i∧y=z)):=by
 obtain ⟨b,cap,cs,T,fr,e1,e2,e3,e4,e5,e6⟩:=h;obtain ⟨h0,u,g1,g2,g3,g4⟩:=e6 i x hx;have hlen:=hys.length;have az:i*sz+sz≤cap*sz:=by
  have:(i+1)*sz≤cap*sz:=yX sz q_;rw[xI,wL]at this;exact this
 have jv:v.cells.size=vs.length:=by rw[←hv];simp
 obtain ⟨w',f1,f2,f3,f4,f5,f6,f7⟩:=Y0 (P:=P) (t:=t) ht (v:=v) (o:=i*sz+off) e2 e3 (by rw[jv,eo]) (by rw[jv];omega) (by rw[hv];exact h1);rw[hv]at f2;obtain ⟨st,inv⟩:=Sd hi (k:=k) (b:=b) (by rw[e1];rfl) f3 f4 f5 f6 f7;refine⟨b,cap,w',e1,f1,st,inv,b,cap,_,T,fr,e1,f2,by rw[Cg];exact e3,by rw[Cg];exact e4,e5,?_⟩;have a7:=Mp cs vs (i*sz+off);rintro j y (⟨hj,hy⟩|⟨rfl,rfl⟩)
 ·obtain ⟨q0,q,q1,q2,q3,q4⟩:=e6 j y hy;refine⟨q0,q,RdD.keep st.keeps _ _ q1,q2,q3,λm hm=>?_⟩;rw[a7 _ q_,zD,q4 m hm];rintro ⟨a1,a2⟩;rcases Nat.lt_or_gt_of_ne hj with ab|yw
  ·have:(j+1)*sz≤i*sz:=yX sz q_;rw[xI,wL]at this;omega
  ·have:(i+1)*sz≤j*sz:=yX sz q_;rw[xI,wL]at this;omega
 ·obtain ⟨c1,c2⟩:=g1.toRd.cells wi;have c3:RdL κ w (cellsOf y) (setV u.cells.toList off vs):=by rw[hz];exact c2.setAt _ hys
  have c4:=c1.setV (vs:=vs) off h1;obtain ⟨u',d1,d2⟩:=Rd.of_cells wk c4 c3;have d3:u'.cells.size=sz:=by
   have:u'.cells.toList.length=(setV u.cells.toList off vs).length:=by rw[d2]
   rw[Cg]at this;simpa [g2] using this
  refine⟨h0,u',RdD.keep st.keeps _ _ (Rd.data _ _ wm d1),d3,by rw[d2];exact c4,λm hm=>?_⟩;rw[a7 _ q_,←vK,d2,Mp _ _ _ _ (by simp[g2];omega)];by_cases de:off≤m∧m<off+vs.length
  ·rw[zG q_,zG de];congr 1;omega
  ·rw[zD q_,zD de,g4 m hm];simp
def U6{P:Program}(Γ:Ty P){o:Oper}{s:SS}{t:TypeId}{ti:TI}{x y:Operand}{k sz i off:Nat}{α:Type}{e:α→SV}{l:List α}(h:o.op=.store t x y)(hx:ev s x=.rpt k sz i off)(ht:Γ.get t=some ti)(hk:s.h k=.row sz e l)(hb:(ev s y).boxed=true)(hn:(cellsOf (ev s y)).length=ti.size)(wj:off+ti.size≤sz)(hi:i<l.length){z:α}(hz:cellsOf (e z)=setAt (cellsOf (e l[i])) off (cellsOf (ev s y)))(wi:(e l[i]).boxed=true)(wk:(e z).boxed=true)(wm:(e z).data=true):Good P o s ⟨.val undef,[],[(k,.row sz e (l.set i z))]⟩:=by
 intro κ a w hinv hr ho N Q hN;have h1:=hr x (by simp[h,Op.operands]);have h2:=hr y (by simp[h,Op.operands]);have h3:=ho k (.inr (by simp[Up.ws]));rw[hk]at h3;have ag:l≠[]:=by intro he;subst he;simp at hi
 have h4:=h3.rowAt ag;obtain ⟨c1,c2⟩:=h2.cells hb;obtain ⟨d,info,zz,k1,k2,k3,k4,k5,k6⟩:=Γ.ok t ti ht;obtain ⟨b,cap,w',f1,f2,f3,f4,f5⟩:=h4.write hinv (i:=i) (off:=off) (z:=e z) ⟨hi,rfl⟩ wi c2 c1 (by rw[hn];exact wj) hz wk wm (P:=P) (t:=t) k3 (by rw[k4,←hn,←c2.length]) rfl;rw[hx]at h1;simp only[Rd,f1]at h1;have au:(execOp a.eval o).run P w=.ok .skip w':=by simp[execOp,h,h1,Instr.storeAt,Instr.sureAddr,f2]
 simp only[Oper.wp,au,Oper.upon];refine hN undef κ w' (f3.weaken (by simp[Up.ws])) f4 (by simp[Rd]) (λp hp=>?_);simp only[yB]at hp;subst hp;refine .inr ?_;obtain ⟨b,cap,cs,T,fr,q1,q2,q3,q4,q5,q6⟩:=f5;refine⟨b,cap,cs,T,fr,by simpa using q1,q2,q3,q4,by simpa using q5,λj v hv=>?_⟩;obtain ⟨hj,rfl⟩:=hv;have vc:j<l.length:=by simpa using hj
 have:=q6 j (e (l.set i z)[j]) (by
  by_cases pv:j=i
  ·subst pv;right;simp
  ·left;refine⟨pv,vc,?_⟩;rw[List.getElem_set_ne q_])
 simpa using this
end Go.Sy
