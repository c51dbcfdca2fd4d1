/- Parts of a proof. -/
import Derived.WalkKit
set_option linter.all false
namespace Go
abbrev zD:=@if_neg
abbrev zE:=@if_pos
abbrev zG:=@Bool.and_eq_true
abbrev zH:=@congrArg
abbrev zI:=@List.getElem_mem
abbrev zJ:=@decide_eq_true_eq
abbrev zK:=@decide_eq_false
abbrev zL:=@decide_eq_true
abbrev zO:=@of_decide_eq_true
abbrev zQ:=@List.length_append
abbrev zR:=@List.getElem?_eq_getElem
abbrev zT:=@of_decide_eq_false
abbrev zU:=@beq_eq_false_iff_ne
abbrev zW:=@List.length_singleton
abbrev zX:=@List.mem_singleton
abbrev zY:=@List.length_take
abbrev zZ:=@Int.toNat_natCast
abbrev yA:=@absurd
abbrev yB:=@decide_eq_false_iff_not
abbrev yC:=@List.eq_nil_of_length_eq_zero
abbrev yD:=@List.take_succ_eq_append_getElem
abbrev yE:=@Nat.le_refl
abbrev yF:=@Bool.false_and
abbrev yG:=@Bool.true_and
abbrev yH:=@List.mem_append
abbrev yI:=@List.mem_cons
abbrev yJ:=@beq_iff_eq
abbrev yK:=@Nat.eq_of_beq_eq_true
abbrev yL:=@List.drop_eq_getElem_cons
abbrev yM:=@List.length_cons
abbrev yN:=@List.take_length
abbrev yO:=@Bool.or_eq_true
abbrev yP:=@List.length_drop
abbrev yQ:=@List.length_set
abbrev yR:=@Int.toNat_of_nonneg
abbrev yS:=@List.mem_map
abbrev yT:=@List.all_eq_true
abbrev yU:=@Bool.not_eq_true'
abbrev yV:=@List.mem_range
abbrev yW:=@List.length_map
abbrev yX:=@Bool.and_eq_false_iff
abbrev yY:=@List.mem_iff_getElem
abbrev yZ:=@List.getElem_append_left
abbrev xA:=@Nat.lt_of_lt_of_le
abbrev xB:=@Nat.mul_le_mul_right
abbrev xC:=@bne_iff_ne
abbrev xD:=@List.append_nil
abbrev xF:=@List.append_assoc
abbrev xG:=@List.length_nil
abbrev xH:=@List.not_mem_nil
abbrev xI:=@List.take_of_length_le
abbrev xJ:=@Nat.mod_eq_of_lt
abbrev xK:=@Nat.add_mul
abbrev xM:=@Bool.not_eq_eq_eq_not
abbrev xN:=@Nat.zero_le
abbrev xO:=@Int.eq_ofNat_of_zero_le
abbrev xP:=@List.foldl_append
abbrev xQ:=@List.getElem_append_right
abbrev xR:=@Nat.two_pow_add_eq_or_of_lt
abbrev xS:=@List.length_pos_iff
abbrev xU:=@List.length_replicate
abbrev xV:=@List.map_cons
abbrev xW:=@List.getElem?_append_left
abbrev xX:=@Bool.or_eq_false_iff
abbrev xY:=@List.any_eq_true
abbrev xZ:=@Int.le_refl
abbrev wA:=@List.mem_filterMap
abbrev wB:=@List.cons_append
abbrev wC:=@Nat.le_of_ble_eq_true
abbrev wD:=@List.getElem_take
abbrev wE:=@List.any_eq_false
abbrev wF:=@Nat.zero_add
abbrev wG:=@List.findIdx?_eq_some_iff_getElem
abbrev wH:=@List.getElem?_append_right
abbrev wJ:=@List.getD_eq_getElem?_getD
abbrev wK:=@List.getElem?_eq_none
abbrev wL:=@List.nil_append
abbrev wM:=@List.pairwise_iff_getElem
abbrev wN:=@List.getElem_of_mem
abbrev wO:=@Nat.one_mul
abbrev wP:=@Bool.eq_iff_iff
abbrev wQ:=@Int.fdiv_eq_ediv_of_nonneg
abbrev wR:=@Bool.and_false
abbrev wS:=@Bool.not_false
abbrev wT:=@Nat.le_trans
abbrev wU:=@List.drop_length
abbrev wV:=@List.mem_of_mem_take
abbrev wW:=@Bool.not_eq_false'
abbrev wX:=@List.mem_append_right
abbrev wY:=@Array.length_toList
abbrev wZ:=@List.map_append
abbrev vA:=@List.length_eq_zero_iff
abbrev vB:=@List.filter_cons_of_pos
abbrev vC:=@Array.getElem?_eq_some_iff
abbrev vD:=@List.take_append_of_le_length
abbrev vE:=@Nat.pow_le_pow_right
abbrev vF:=@Nat.one_le_two_pow
abbrev vG:=@Int.natCast_nonneg
abbrev vH:=@List.range_succ
abbrev vI:=@List.getElem_map
abbrev vJ:=@or_false
abbrev vK:=@Nat.mul_comm
abbrev vM:=@Array.getD_eq_getD_getElem?
abbrev vN:=@Bool.true_or
abbrev vO:=@List.nodup_iff_pairwise_ne
abbrev vP:=@List.foldl_cons
abbrev vQ:=@Bool.false_or
abbrev vR:=@List.getElem_set
abbrev vS:=@List.drop_eq_nil_of_le
abbrev vT:=@List.getElem?_set_self
abbrev vU:=@List.getElem?_map
abbrev vV:=@List.flatMap_cons
abbrev vW:=@List.getElem_drop
abbrev vX:=@List.take_add_one
abbrev vY:=@Array.getElem?_toList
abbrev vZ:=@Nat.lt_or_ge
abbrev uA:=@List.map_nil
abbrev uB:=@List.mem_filter
abbrev uC:=@List.dropLast_concat_getLast
abbrev uD:=@List.getElem?_take
abbrev uE:=@List.pairwise_cons
abbrev uF:=@not_or
abbrev uG:=@Nat.add_assoc
abbrev uH:=@Bool.and_true
abbrev uI:=@List.getElem_cons_succ
abbrev uJ:=@Int.tdiv_eq_ediv_of_nonneg
abbrev uK:=@List.getElem?_range
abbrev uL:=@Option.map_some
abbrev uM:=@Nat.div_add_mod
abbrev uN:=@Array.getElem?_eq_getElem
abbrev uO:=@List.set_getElem_self
abbrev uP:=@Bool.cond_eq_ite
abbrev uQ:=@Nat.eq_zero_or_pos
abbrev uR:=@Bool.false_eq_true
abbrev uS:=@Nat.and_two_pow_sub_one_eq_mod
abbrev uT:=@List.mem_of_mem_eraseIdx
abbrev uU:=@List.mem_append_left
abbrev uV:=@List.getElem?_replicate
abbrev uW:=@List.filter_cons_of_neg
abbrev uX:=@Array.getElem?_eq_none
abbrev uY:=@List.set_cons_zero
abbrev uZ:=@List.getElem?_toArray
abbrev tA:=@List.getElem_set_self
abbrev tB:=@List.mem_or_eq_of_mem_set
abbrev tC:=@Int.natCast_pow
abbrev tD:=@List.size_toArray
abbrev tE:=@List.getElem?_set
abbrev tF:=@Nat.le_succ
abbrev tG:=@List.length_dropLast
abbrev tH:=@Bool.or_true
abbrev tI:=@List.length_filterMap_le
abbrev tJ:=@List.set_eq_of_length_le
abbrev tK:=@List.mk_mem_zipIdx_iff_getElem?
abbrev tL:=@List.map_congr_left
abbrev tM:=@List.replicate_succ
abbrev tN:=@List.getElem?_cons_zero
abbrev tO:=@List.ext_getElem
abbrev tP:=@List.foldl_nil
abbrev tQ:=@Nat.add_comm
abbrev tR:=@List.getElem_replicate
abbrev tS:=@Bool.false_ne_true
abbrev tT:=@Nat.beq_refl
abbrev tU:=@Nat.div_div_eq_div_mul
abbrev tV:=@Nat.pow_succ
abbrev tW:=@List.getElem_cons_zero
abbrev tX:=@Nat.sub_self
abbrev tY:=@List.length_filter_le
abbrev tZ:=@List.set_append_right
def kU{P:Prop}(h:P:=by
 refine⟨?_,?_,rfl,rfl⟩
 .repeat (first|exact trivial|exact rfl|refine⟨rfl,rfl,?_⟩)
 .repeat (first | exact trivial | refine⟨.inl rfl,rfl,?_⟩ | refine⟨.inr rfl,rfl,?_⟩)):P:=h
def kA{P:Prop}(h:P:=by repeat (first|exact trivial|exact rfl|refine⟨rfl,?_⟩)):P:=h
def kB{P:Prop}(h:P:=by repeat (first|exact trivial|refine⟨.inl rfl,?_⟩|refine⟨.inr rfl,?_⟩)):P:=h
def kO{P:Prop}(h:P:=by simp;omega):P:=h
def kE{k:Sort _}(a:k):∃x,a=x:=⟨a,rfl⟩
def kS{P Q:Prop}(h:P)(e:P->Q:=by intro h;simpa using h):Q:=e h
end Go
namespace Go.Sy
def E{k : Sort _}{a : k} : a = a := rfl
def Y : True := trivial
def q_{p:Prop}(h:p:=by omega):p:=h
def z_{k:Sort _}{a b:k}(h:a=b:=by kernel_rfl):a=b:=h
def j_{p:Prop}(h:p:=by decide):p:=h
def y_{p:Prop}(h:p:=by simp):p:=h
inductive SV:Type 1
 |top
 |val (v:Value)
 |agg (l:List SV)
 |tup (l:List SV)
 |sl (sz:Nat) {α:Type} (e:α->SV) (l:List α)
 |ref (sz:Nat) (x:SV) (off:Nat)
 |ptr (k:Nat) (off:Nat)
 |rpt (k:Nat) (sz i off:Nat)
 |osl (k:Nat)
 |ifc (t:TypeId) (x:SV)
 |clo (fn:Fn) (first cap:List SV)
abbrev svN:SV:=.val (.slice none 0 0)
inductive Ent
 |new
 |dead
 |blk (b:Nat)
 |row (b len cap:Nat)
 |nil
def Ent.block?:Ent->Option Nat
 | .blk b=>some b
 | .row b _ _=>some b
 |_=>none
structure Ka where
 ent:Nat->Ent
 M:Nat->Prop
instance:CoeFun Ka (λ_=>Nat->Ent):=⟨Ka.ent⟩
def Own(a:Ka)(b:Nat):Prop:=(∃k,(a k).block? = some b)\/a.M b
def Ones(cs:List Value):Prop:=∀c∈cs,c.oneCell'=true
def LaidAt(w:World)(b off sz:Nat)(u:Value):Prop:=u.cells.size=sz/\Ones u.cells.toList/\∀j,j<sz->w.cell? ⟨b,off+j,none⟩=u.cells[j]?
mutual
def RdD(M:Nat->Prop)(w:World):SV->Value->Prop
 | .top,_=>True
 | .val u,v=>v=u
 | .agg l,v=>∃cs:List Value,v=.agg cs.toArray/\Ones cs/\RdDL M w l cs
 | .tup l,v=>∃cs:List Value,v=.tuple cs.toArray/\RdDL M w l cs
 | .sl sz e l,v=>(l=[]/\∃a cap,v=.slice a 0 cap) \/
   ∃b off cap,v=.slice (some ⟨b,off,none⟩) l.length cap/\l.length<=cap/\¬M b/\b<w.heap.size/\∀i (h:i<l.length),∃u,RdD M w (e l[i]) u/\LaidAt w b (off+i*sz) sz u
 | .ref sz x off,v=>∃b o u,v=.pointer (some ⟨b,o+off,none⟩)/\¬M b/\b<w.heap.size/\RdD M w x u/\LaidAt w b o sz u
 | .ptr _ _,_=>False
 | .rpt _ _ _ _,_=>False
 | .osl _,_=>False
 | .ifc t x,v=>∃u,v=.iface t u/\RdD M w x u
 | .clo fn first cap,v=>∃fs cs:List Value,v=.func fn fs.toArray cs.toArray/\RdDL M w first fs/\RdDL M w cap cs
def RdDL(M:Nat->Prop)(w:World):List SV->List Value->Prop
 |[],vs=>vs=[]
 |x::l,vs=>∃v r,vs=v::r/\RdD M w x v/\RdDL M w l r
end
mutual
def Rd(a:Ka)(w:World):SV->Value->Prop
 | .top,_=>True
 | .val u,v=>v=u
 | .agg l,v=>∃cs:List Value,v=.agg cs.toArray/\Ones cs/\RdL a w l cs
 | .tup l,v=>∃cs:List Value,v=.tuple cs.toArray/\RdL a w l cs
 | .sl sz e l,v=>RdD (Own a) w (.sl sz e l) v
 | .ref sz x off,v=>RdD (Own a) w (.ref sz x off) v
 | .ptr k off,v=>match a k with
  | .dead=>v.oneCell'=true
  | .blk b=>v=.pointer (some ⟨b,off,none⟩)
  |_=>False
 | .rpt k sz i off,v=>match a k with
  | .dead=>v.oneCell'=true
  | .row b _ _=>v=.pointer (some ⟨b,i*sz+off,none⟩)
  |_=>False
 | .osl k,v=>match a k with
  | .dead=>v.oneCell'=true
  | .row b len cap=>v=.slice (some ⟨b,0,none⟩) len cap
  | .nil=>v=.slice none 0 0
  |_=>False
 | .ifc t x,v=>∃u,v=.iface t u/\Rd a w x u
 | .clo fn first cap,v=>∃fs cs:List Value,v=.func fn fs.toArray cs.toArray/\RdL a w first fs/\RdL a w cap cs
def RdL(k:Ka)(w:World):List SV->List Value->Prop
 |[],vs=>vs=[]
 |x::l,vs=>∃v r,vs=v::r/\Rd k w x v/\RdL k w l r
end
structure Keeps(M M':Nat->Prop)(w w':World):Prop where
 size:w.heap.size<=w'.heap.size
 blk:∀b,b<w.heap.size->¬M b->w'.heap[b]? = w.heap[b]?
 out:∀b,b<w.heap.size->¬M b->¬M' b
theorem LaidAt.keep{w w':World}{b off sz:Nat}{u:Value}(h:LaidAt w b off sz u)(hb:w'.heap[b]? = w.heap[b]?):LaidAt w' b off sz u :=
 ⟨h.1,h.2.1,λj hj=>(World.cell?_of_block (w:=w) (a:=⟨b,off+j,none⟩) hb).trans (h.2.2 j hj)⟩
mutual
theorem RdD.keep{M M':Nat->Prop}{w w':World}(k:Keeps M M' w w'):∀(x:SV) (v:Value),RdD M w x v->RdD M' w' x v
 | .top,_,_=>by simp[RdD]
 | .val u,v,h=>by simpa [RdD] using h
 | .agg l,v,h=>by
  simp only[RdD]at h|-;obtain ⟨cs,h1,h0,h2⟩:=h;exact⟨cs,h1,h0,RdDL.keep k l cs h2⟩
 | .tup l,v,h=>by
  simp only[RdD]at h|-;obtain ⟨cs,h1,h2⟩:=h;exact⟨cs,h1,RdDL.keep k l cs h2⟩
 | .sl sz e l,v,h=>by
  simp only[RdD]at h|-;rcases h with h|⟨b,off,cap,h1,h0,h2,h3,h4⟩
  .exact .inl h
  .refine .inr ⟨b,off,cap,h1,h0,k.out b h3 h2,xA h3 k.size,λi hi=>?_⟩;obtain ⟨u,h5,h6⟩:=h4 i hi;exact⟨u,RdD.keep k (e l[i]) u h5,h6.keep (k.blk b h3 h2)⟩
 | .ref sz x off,v,h=>by
  simp only[RdD]at h|-;obtain ⟨b,o,u,h1,h2,h3,h4,h5⟩:=h;exact⟨b,o,u,h1,k.out b h3 h2,xA h3 k.size,RdD.keep k x u h4,h5.keep (k.blk b h3 h2)⟩
 | .ptr _ _,_,h=>by simp[RdD]at h
 | .rpt _ _ _ _,_,h=>by simp[RdD]at h
 | .osl _,_,h=>by simp[RdD]at h
 | .ifc t x,v,h=>by
  simp only[RdD]at h|-;obtain ⟨u,h1,h2⟩:=h;exact⟨u,h1,RdD.keep k x u h2⟩
 | .clo fn first cap,v,h=>by
  simp only[RdD]at h|-;obtain ⟨fs,cs,h1,h2,h3⟩:=h;exact⟨fs,cs,h1,RdDL.keep k first fs h2,RdDL.keep k cap cs h3⟩
theorem RdDL.keep{M M':Nat->Prop}{w w':World}(k:Keeps M M' w w'):∀(l:List SV) (vs:List Value),RdDL M w l vs->RdDL M' w' l vs
 |[],_,h=>by simpa [RdDL] using h
 |x::l,vs,h=>by
  simp only[RdDL]at h|-;obtain ⟨v,r,h1,h2,h3⟩:=h;exact⟨v,r,h1,RdD.keep k x v h2,RdDL.keep k l r h3⟩
end
mutual
theorem Rd.of_data{k:Ka}{w:World}:∀(x:SV) (v:Value),RdD (Own k) w x v->Rd k w x v
 | .top,_,_=>by simp[Rd]
 | .val u,v,h=>by simpa [RdD,Rd] using h
 | .agg l,v,h=>by
  simp only[RdD,Rd]at h|-;obtain ⟨cs,h1,h0,h2⟩:=h;exact⟨cs,h1,h0,RdL.of_data l cs h2⟩
 | .tup l,v,h=>by
  simp only[RdD,Rd]at h|-;obtain ⟨cs,h1,h2⟩:=h;exact⟨cs,h1,RdL.of_data l cs h2⟩
 | .sl sz e l,v,h=>by simpa only [Rd] using h
 | .ref sz x off,v,h=>by simpa only [Rd] using h
 | .ptr _ _,_,h=>by simp[RdD]at h
 | .rpt _ _ _ _,_,h=>by simp[RdD]at h
 | .osl _,_,h=>by simp[RdD]at h
 | .ifc t x,v,h=>by
  simp only[RdD,Rd]at h|-;obtain ⟨u,h1,h2⟩:=h;exact⟨u,h1,Rd.of_data x u h2⟩
 | .clo fn first cap,v,h=>by
  simp only[RdD,Rd]at h|-;obtain ⟨fs,cs,h1,h2,h3⟩:=h;exact⟨fs,cs,h1,RdL.of_data first fs h2,RdL.of_data cap cs h3⟩
theorem RdL.of_data{k:Ka}{w:World}:∀(l:List SV) (vs:List Value),RdDL (Own k) w l vs->RdL k w l vs
 |[],_,h=>by simpa [RdDL,RdL] using h
 |x::l,vs,h=>by
  simp only[RdDL,RdL]at h|-;obtain ⟨v,r,h1,h2,h3⟩:=h;exact⟨v,r,h1,Rd.of_data x v h2,RdL.of_data l r h3⟩
end
structure Inv(κ:Ka)(w:World):Prop where
 inj:∀i j b,(κ i).block? = some b->(κ j).block? = some b->i=j
 bnd:∀k b,(κ k).block? = some b->b<w.heap.size
 apart:∀k b,(κ k).block? = some b->¬κ.M b
 mbnd:∀b,κ.M b->b<w.heap.size
structure Step(K:Nat->Prop)(κ:Ka)(w:World)(κ':Ka)(w':World):Prop where
 size:w.heap.size<=w'.heap.size
 os:w'.os=w.os
 tape:w'.tape=w.tape
 output:w'.output=w.output
 M:κ'.M=κ.M
 mkeep:∀b,κ.M b->w'.heap[b]? = w.heap[b]?
 blk:∀b,b<w.heap.size->¬Own κ b->w'.heap[b]? = w.heap[b]?
 own:∀k b,¬K k->(κ k).block? = some b->w'.heap[b]? = w.heap[b]?
 ent:∀k,¬K k->κ' k=κ k
 mv:∀k,K k->κ k=.new\/κ' k=κ k\/κ' k=.dead
 fresh:∀b,Own κ' b->Own κ b\/w.heap.size<=b
theorem Step.refl(K:Nat->Prop)(k:Ka)(w:World):Step K k w k w :=
 ⟨yE _,rfl,rfl,rfl,rfl,λ_ _=>rfl,λ_ _ _=>rfl,λ_ _ _ _=>rfl,λ_ _=>rfl,λ_ _=>.inr (.inl rfl),λ_ h=>.inl h⟩
theorem Step.ent_any{K:Nat->Prop}{a a':Ka}{w w':World}(s:Step K a w a' w')(k:Nat):a k=.new\/a' k=a k\/a' k=.dead:=by
 by_cases h:K k
 .exact s.mv k h
 .exact .inr (.inl (s.ent k h))
theorem Step.keeps{K:Nat->Prop}{k k':Ka}{w w':World}(s:Step K k w k' w'):Keeps (Own k) (Own k') w w' :=
 ⟨s.size,s.blk,λb hb h h'=>(s.fresh b h').elim h (λh2=>Nat.lt_irrefl _ (xA hb h2))⟩
theorem Step.weaken{K K':Nat->Prop}{a a':Ka}{w w':World}(s:Step K a w a' w')(h:∀k,K k->K' k):Step K' a w a' w' :=
 ⟨s.size,s.os,s.tape,s.output,s.M,s.mkeep,s.blk,λk b hk=>s.own k b (λh'=>hk (h k h')),λk hk=>s.ent k (λh'=>hk (h k h')),λk _=>s.ent_any k,s.fresh⟩
theorem Step.trans{K:Nat->Prop}{k₁ k₂ k₃:Ka}{w₁ w₂ w₃:World}(s:Step K k₁ w₁ k₂ w₂)(t:Step K k₂ w₂ k₃ w₃):Step K k₁ w₁ k₃ w₃ where
 size:=wT s.size t.size
 os:=t.os.trans s.os
 tape:=t.tape.trans s.tape
 output:=t.output.trans s.output
 M:=t.M.trans s.M
 mkeep b hb:=(t.mkeep b (by rw[s.M];exact hb)).trans (s.mkeep b hb)
 blk b hb h:=by
  rw[t.blk b (xA hb s.size) (s.keeps.out b hb h),s.blk b hb h]
 own k b hk hb:=by
  rw[t.own k b hk (by rw[s.ent k hk];exact hb),s.own k b hk hb]
 ent k hk:=(t.ent k hk).trans (s.ent k hk)
 mv k _:=by
  rcases s.ent_any k with h|h|h
  .exact .inl h
  .rcases t.ent_any k with h'|h'|h'
   .exact .inl (h▸h')
   .exact .inr (.inl (h'.trans h))
   .exact .inr (.inr h')
  .rcases t.ent_any k with h'|h'|h'
   .rw[h]at h';cases h'
   .exact .inr (.inr (h'.trans h))
   .exact .inr (.inr h')
 fresh b h:=by
  rcases t.fresh b h with h|h
  .exact s.fresh b h
  .exact .inr (wT s.size h)
mutual
theorem Rd.step{K:Nat->Prop}{a a':Ka}{w w':World}(s:Step K a w a' w'):∀(x:SV) (v:Value),Rd a w x v->Rd a' w' x v
 | .top,_,_=>by simp[Rd]
 | .val u,v,h=>by simpa [Rd] using h
 | .agg l,v,h=>by
  simp only[Rd]at h|-;obtain ⟨cs,h1,h0,h2⟩:=h;exact⟨cs,h1,h0,RdL.step s l cs h2⟩
 | .tup l,v,h=>by
  simp only[Rd]at h|-;obtain ⟨cs,h1,h2⟩:=h;exact⟨cs,h1,RdL.step s l cs h2⟩
 | .sl sz e l,v,h=>by
  simp only[Rd]at h|-;exact RdD.keep s.keeps _ _ h
 | .ref sz x off,v,h=>by
  simp only[Rd]at h|-;exact RdD.keep s.keeps _ _ h
 | .ptr k off,v,h=>by
  simp only[Rd]at h|-;rcases s.ent_any k with e|e|e
  .rw[e]at h;exact h.elim
  .rw[e];exact h
  .rw[e];show v.oneCell'=true;cases hk:a k<;>simp only[hk]at h<;>first|exact h.elim|exact h|(subst h;rfl)
 | .rpt k sz i off,v,h=>by
  simp only[Rd]at h|-;rcases s.ent_any k with e|e|e
  .rw[e]at h;exact h.elim
  .rw[e];exact h
  .rw[e];show v.oneCell'=true;cases hk:a k<;>simp only[hk]at h<;>first|exact h.elim|exact h|(subst h;rfl)
 | .osl k,v,h=>by
  simp only[Rd]at h|-;rcases s.ent_any k with e|e|e
  .rw[e]at h;exact h.elim
  .rw[e];exact h
  .rw[e];show v.oneCell'=true;cases hk:a k<;>simp only[hk]at h<;>first|exact h.elim|exact h|(subst h;rfl)
 | .ifc t x,v,h=>by
  simp only[Rd]at h|-;obtain ⟨u,h1,h2⟩:=h;exact⟨u,h1,Rd.step s x u h2⟩
 | .clo fn first cap,v,h=>by
  simp only[Rd]at h|-;obtain ⟨fs,cs,h1,h2,h3⟩:=h;exact⟨fs,cs,h1,RdL.step s first fs h2,RdL.step s cap cs h3⟩
theorem RdL.step{K:Nat->Prop}{k k':Ka}{w w':World}(s:Step K k w k' w'):∀(l:List SV) (vs:List Value),RdL k w l vs->RdL k' w' l vs
 |[],_,h=>by simpa [RdL] using h
 |x::l,vs,h=>by
  simp only[RdL]at h|-;obtain ⟨v,r,h1,h2,h3⟩:=h;exact⟨v,r,h1,Rd.step s x v h2,RdL.step s l r h3⟩
end
inductive Ob:Type 1
 |fresh
 |non
 |box (l:List SV)
 |row (sz:Nat) {α:Type} (e:α->SV) (l:List α)
 |lit (sz:Nat) (svs:List SV)
 |glob (sz:Nat) (x:SV) (g:Nat)
 |pin (b n cap sz:Nat) {α:Type} (e:α->SV) (l:List α)
 |dat (v:Value) (sz:Nat) {α:Type} (e:α->SV) (l:List α)
 |rown (sz:Nat) {α:Type} (e:α->SV) (l:List α) (i:Nat) (cl:List SV)
 |tbox (T:TypeId) (l:List SV)
 |trow (T:TypeId) (l:List UInt8)
def NoFr(fr:Nat×Nat)(n:Nat):Prop:=fr.1=fr.2\/n<=fr.1
def Iu{k:Type 1}:List k->Nat->Option k
 |[],_=>none
 |x::_,0=>some x
 |_::l,n+1=>Iu l n
def RowAt(a:Ka)(w:World)(k sz n:Nat)(f:Nat->SV->Prop):Prop :=
 ∃b cap cs T fr,a k=.row b n cap/\w.heap[b]? = some (.cells (List.toArray cs) T fr)/\NoFr fr cs.length/\cap*sz<=cs.length/\n<=cap /\
  ∀i x,f i x->i<n/\∃u:Value,RdD (Own a) w x u/\u.cells.size=sz/\Ones u.cells.toList/\∀j,j<sz->cs[i*sz+j]? = u.cells[j]?
def RowN(a:Ka)(w:World)(k sz n:Nat)(f:Nat->SV->Prop)(i:Nat)(cl:List SV):Prop :=
 ∃b cap cs T fr,a k=.row b n cap/\w.heap[b]? = some (.cells (List.toArray cs) T fr)/\NoFr fr cs.length/\cap*sz<=cs.length/\n<=cap /\
  (∀j x,j≠i->f j x->j<n/\∃u:Value,RdD (Own a) w x u/\u.cells.size=sz/\Ones u.cells.toList/\∀m,m<sz->cs[j*sz+m]? = u.cells[m]?) /\
  i<n/\∃us:List Value,us.length=sz/\Ones us/\RdL a w cl us/\∀m,m<sz->cs[i*sz+m]? = us[m]?
def rowF{k:Type}(e:k->SV)(l:List k)(i:Nat)(x:SV):Prop:=∃h:i<l.length,x=e l[i]
def Aex(svs:List SV)(i:Nat)(x:SV):Prop:=Iu svs i=some x
def RowT(a:Ka)(w:World)(k:Nat)(T:TypeId)(l:List UInt8):Prop :=
 ∃b cap cs fr,a k=.row b l.length cap/\w.heap[b]? = some (.cells (List.toArray cs) T fr)/\NoFr fr cs.length/\cap<=cs.length/\l.length<=cap/\∀i (h:i<l.length),cs[i]? = some (.int .u8 l[i].toNat)
def ObOK(a:Ka)(w:World)(k:Nat):Ob->Prop
 | .fresh=>a k=.new
 | .non=>True
 | .box l=>∃b cs T fr,a k=.blk b/\w.heap[b]? = some (.cells (List.toArray cs) T fr)/\NoFr fr cs.length/\Ones cs/\RdL a w l cs
 | .row sz e l=>(a k=.nil/\l=[])\/RowAt a w k sz l.length (rowF e l)
 | .lit sz svs=>RowAt a w k sz svs.length (Aex svs)
 | .glob sz x g=>Rd a w (.ref sz x 0) (.pointer (some ⟨g,0,none⟩))
 | .pin b n cap sz e l=>a k=.row b n cap/\RowAt a w k sz n (rowF e l)
 | .dat v sz e l=>Rd a w (.sl sz e l) v
 | .rown sz e l i cl=>RowN a w k sz l.length (rowF e l) i cl
 | .tbox T l=>∃b cs fr,a k=.blk b/\w.heap[b]? = some (.cells (List.toArray cs) T fr)/\NoFr fr cs.length/\Ones cs/\RdL a w l cs
 | .trow T l=>(a k=.nil/\l=[])\/(l≠[]/\RowT a w k T l)
theorem RowAt.step{K:Nat->Prop}{a a':Ka}{w w':World}(s:Step K a w a' w'){k sz n:Nat}{f:Nat->SV->Prop}(hk:¬K k)(h:RowAt a w k sz n f):RowAt a' w' k sz n f:=by
 obtain ⟨b,cap,cs,T,fr,h1,h2,h3,h4,h5,h6⟩:=h;refine⟨b,cap,cs,T,fr,(s.ent k hk).trans h1,(s.own k b hk (by rw[h1];rfl)).trans h2,h3,h4,h5,λi x hi=>?_⟩;obtain ⟨h0,u,h7,h8⟩:=h6 i x hi;exact⟨h0,u,RdD.keep s.keeps _ _ h7,h8⟩
theorem RowN.step{K:Nat->Prop}{a a':Ka}{w w':World}(s:Step K a w a' w'){k sz n:Nat}{f:Nat->SV->Prop}{i:Nat}{cl:List SV}(hk:¬K k)(h:RowN a w k sz n f i cl):RowN a' w' k sz n f i cl:=by
 obtain ⟨b,cap,cs,T,fr,h1,h2,h3,h4,h5,h6,h7,us,u1,u2,u3,u4⟩:=h;refine⟨b,cap,cs,T,fr,(s.ent k hk).trans h1,(s.own k b hk (by rw[h1];rfl)).trans h2,h3,h4,h5,λj x hj hi=>?_,h7,us,u1,u2,RdL.step s cl us u3,u4⟩;obtain ⟨h0,u,h7,h8⟩:=h6 j x hj hi;exact⟨h0,u,RdD.keep s.keeps _ _ h7,h8⟩
theorem ObOK.step{K:Nat->Prop}{a a':Ka}{w w':World}(s:Step K a w a' w'){k:Nat}(hk:¬K k):∀(o:Ob),ObOK a w k o->ObOK a' w' k o
 | .fresh,h=>(s.ent k hk).trans h
 | .non,_=>trivial
 | .box l,h=>by
  obtain ⟨b,cs,T,fr,h1,h2,h3,h0,h4⟩:=h;exact⟨b,cs,T,fr,(s.ent k hk).trans h1,(s.own k b hk (by rw[h1];rfl)).trans h2,h3,h0,RdL.step s l cs h4⟩
 | .row sz e l,h=>h.imp (λ⟨h1,h2⟩=>⟨(s.ent k hk).trans h1,h2⟩) (RowAt.step s hk)
 | .lit sz svs,h=>RowAt.step s hk h
 | .glob sz x g,h=>Rd.step s _ _ h
 | .pin b n cap sz e l,h=>⟨(s.ent k hk).trans h.1,RowAt.step s hk h.2⟩
 | .dat v sz e l,h=>Rd.step s _ _ h
 | .rown sz e l i cl,h=>RowN.step s hk h
 | .tbox T l,h=>by
  obtain ⟨b,cs,fr,h1,h2,h3,h0,h4⟩:=h;exact⟨b,cs,fr,(s.ent k hk).trans h1,(s.own k b hk (by rw[h1];rfl)).trans h2,h3,h0,RdL.step s l cs h4⟩
 | .trow T l,h=>h.imp (λh=>⟨(s.ent k hk).trans h.1,h.2⟩) (λ⟨h0,b,cap,cs,fr,h1,h2,h3⟩=>⟨h0,b,cap,cs,fr,(s.ent k hk).trans h1,(s.own k b hk (by rw[h1];rfl)).trans h2,h3⟩)
structure Fr where
 w0:World
 k0:Ka
 ds:List Deferred
structure Ctx(F:Fr)(κ:Ka)(w:World):Prop where
 size:F.w0.heap.size<=w.heap.size
 os:w.os=F.w0.os
 tape:w.tape=F.w0.tape
 output:w.output=F.w0.output
 M:κ.M=F.k0.M
 old:∀b,b<F.w0.heap.size->(∀k,(F.k0 k).block? ≠ some b)->w.heap[b]? = F.w0.heap[b]?
 own:∀k b,(κ k).block? = some b->F.w0.heap.size<=b\/∃j,(F.k0 j).block? = some b
 nam:∀k,F.k0 k≠.new->κ k=F.k0 k\/κ k=.dead
theorem Ctx.refl(a:Ka)(w:World):Ctx ⟨w,a,[]⟩ a w :=
 ⟨yE _,rfl,rfl,rfl,rfl,λ_ _ _=>rfl,λk _ h=>.inr ⟨k,h⟩,λ_ _=>.inl rfl⟩
theorem Ctx.step{F:Fr}{K:Nat->Prop}{a a':Ka}{w w':World}(c:Ctx F a w)(hi:Inv a' w')(s:Step K a w a' w'):Ctx F a' w' where
 size:=wT c.size s.size
 os:=s.os.trans c.os
 tape:=s.tape.trans c.tape
 output:=s.output.trans c.output
 M:=s.M.trans c.M
 old b hb h:=by
  by_cases hm:a.M b
  .rw[s.mkeep b hm,c.old b hb h]
  .rw[s.blk b (xA hb c.size) ?_,c.old b hb h];rintro (⟨k,hk⟩|hk)
   .rcases c.own k b hk with h2|⟨j,h2⟩
    .exact Nat.lt_irrefl _ (xA hb h2)
    .exact h j h2
   .exact hm hk
 own k b h:=by
  rcases s.fresh b (.inl ⟨k,h⟩) with (⟨j,h1⟩|h1)|h1
  .exact c.own j b h1
  .exact yA (by rw[s.M];exact h1) (hi.apart k b h)
  .exact .inl (wT c.size h1)
 nam k hk:=by
  rcases s.ent_any k with h|h|h
  .rcases c.nam k hk with h'|h'
   .exact yA (h'.symm.trans h) hk
   .rw[h]at h';cases h'
  .rw[h];exact c.nam k hk
  .exact .inr h
structure SS:Type 1 where
 σ:Nat->SV
 h:Nat->Ob
structure St(F:Fr)(n:Nat)(s:SS)(κ:Ka)(a:Act)(w:World):Prop where
 defers:a.defers=F.ds
 size:a.tmps.size=n
 inv:Inv κ w
 ctx:Ctx F κ w
 slot:∀i,Rd κ w (s.σ i) (a.tmps.getD i undef)
 obj:∀k,ObOK κ w k (s.h k)
inductive TK
 |bool|int (k:IntKind)|string
 |slice (e:TypeId) (esz ebytes:Nat) (ez:List Value)
 |struct (fs:List (Nat×Nat))
 |array (e len esz:Nat)
 |ptr|iface|func|other
structure TI where
 k:TK
 size:Nat
 zero:List Value
def TI.agg(i:TI):Bool:=match i.k with| .struct _=>true| .array _ _ _=>true|_=>false
def Ij(P:Program):List Field->List (Nat×Nat)->Prop
 |[],[]=>True
 |f::fs,(o,n)::r=>f.offset=o/\(P.info? f.type).map (·.size)=some n/\Ij P fs r
 |_,_=>False
def TK.ok(P:Program):TypeDesc->TK->Prop
 |d,.bool=>d=.bool
 |d,.int k=>d=.int k
 |d,.string=>d=.string
 |d,.slice e esz eb ez=>d=.slice e/\∃i z,P.info? e=some i/\i.size=esz/\i.bytes=eb/\i.zero=some z/\z.cells.toList=ez
 |d,.struct fs=>∃a,d=.struct a/\Ij P a.toList fs
 |d,.array e len esz=>d=.array len e/\∃i,P.info? e=some i/\i.size=esz
 |d,.ptr=>∃e,d=.pointer e
 |d,.iface=>∃m,d=.interface m
 |d,.func=>∃a b c,d=.func a b c
 |_,.other=>False
def TI.ok(P:Program)(t:TypeId)(i:TI):Prop :=
 ∃d info z,P.underlying t=some d/\TK.ok P d i.k/\P.info? t=some info/\info.size=i.size/\info.zero=some z/\z.cells.toList=i.zero
structure Ty(P:Program) where
 get:TypeId->Option TI
 ok:∀t i,get t=some i->i.ok P t
def upd{k:Type 1}(f:Nat->k)(d:Nat)(v:k):Nat->k:=λi=>bif Nat.beq i d then v else f i
def B1{k:Type 1}(f:Nat->k)(d:Nat)(v:k):upd f d v d=v:=by simp[upd]
def Cz{k:Type 1}(f:Nat->k){d i:Nat}(v:k)(h:i≠d):upd f d v i=f i:=by
 have:Nat.beq i d=false:=by
  cases hb:Nat.beq i d with
  |false=>rfl
  |true=>exact yA (yK hb) h
 simp[upd,this]
def ev(s:SS):Operand->SV
 | .tmp t=>s.σ t
 | .const v=>.val v
 | .global g=>.val (.pointer (some ⟨g,0,none⟩))
 | .func f=>.clo (.func f) [] []
structure Up:Type 1 where
 v:SV
 rd:List Nat
 objs:List (Nat×Ob)
def Up.ws(U:Up):List Nat:=U.objs.map (·.1)
def Good(P:Program)(o:Oper)(s:SS)(U:Up):Prop :=
 ∀(b:Ka) (a:Act) (w:World),Inv b w->(∀x∈o.op.operands,Rd b w (ev s x) (a.eval x))->(∀k,k∈U.rd\/k∈U.ws->ObOK b w k (s.h k)) ->
  ∀(N:Act->World->Prop) (Q:Exit->Act->World->Prop),
   (∀v b' w',Step (·∈U.ws) b w b' w'->Inv b' w'->Rd b' w' U.v v->(∀x∈U.objs,ObOK b' w' x.1 x.2)->N (a.put o.dst v) w')->o.wp P a w N Q
theorem Good.pure{P:Program}{o:Oper}{s:SS}{x:SV}{rd:List Nat}(h:∀(b:Ka) (a:Act) (w:World),Inv b w->(∀x∈o.op.operands,Rd b w (ev s x) (a.eval x))->(∀k,k∈rd->ObOK b w k (s.h k))->∃v,(execOp a.eval o).run P w=.ok (.value v) w/\Rd b w x v):Good P o s ⟨x,rd,[]⟩:=by
 intro b a w hi hr ho N Q hN;obtain ⟨v,h1,h2⟩:=h b a w hi hr (λk hk=>ho k (.inl hk));simp only[Oper.wp,h1,Oper.upon];exact hN v b w (Step.refl _ b w) hi h2 (λx hx=>by cases hx)
def Ago{P:Program}{o:Oper}{s:SS}{x:Operand}(h:o.op=.move x\/o.op=.assign x):Good P o s ⟨ev s x,[],[]⟩ :=
 Good.pure λk a w _ hr _=>by
  refine⟨a.eval x,?_,hr x ?_⟩
  .rcases h with h|h<;>simp[execOp,h]
  .rcases h with h|h<;>simp[h,Op.operands]
theorem Rd.val{k:Ka}{w:World}{u v:Value}(h:Rd k w (.val u) v):v=u:=by simpa [Rd] using h
def Agn{P:Program}{o:Oper}{s:SS}{c x y:Operand}{b:Bool}(h:o.op=.pick c x y)(hc:ev s c=.val (.bool b)):Good P o s ⟨if b then ev s x else ev s y,[],[]⟩ :=
 Good.pure λk a w _ hr _=>by
  have h1:=hr c (by simp[h,Op.operands]);rw[hc]at h1;refine⟨if b then a.eval x else a.eval y,?_,?_⟩
  .simp[execOp,h,h1.val,asBool]
  .cases b
   .exact hr y (by simp[h,Op.operands])
   .exact hr x (by simp[h,Op.operands])
def A2c{P:Program}{o:Oper}{s:SS}{op:BinOp}{t yt:TypeId}{x y:Operand}{k:IntKind}{m n:Int}{u:Value}(h:o.op=.binOp op t x y yt)(hx:ev s x=.val (.int k m))(hy:ev s y=.val (.int k n))(hr:∀w,(binOp op t (.int k m) (.int k n)).run P w=.ok u w):Good P o s ⟨.val u,[],[]⟩ :=
 Good.pure λb a w _ jg _=>by
  have h1:=jg x (by simp[h,Op.operands]);have h2:=jg y (by simp[h,Op.operands]);rw[hx]at h1;rw[hy]at h2;refine⟨u,?_,by simp[Rd]⟩;simp[execOp,h,h1.val,h2.val,eqGuard_at_int,hr]
def Em(k:Ka)(d:Nat)(e:Ent):Ka:=⟨λi=>if i=d then e else k i,k.M⟩
def Ay(k:Ka)(d:Nat)(e:Ent):Em k d e d=e:=by simp[Em]
def Cc(k:Ka){d i:Nat}(e:Ent)(h:i≠d):Em k d e i=k i:=by simp[Em,h]
structure Grew(w w':World):Prop where
 os:w'.os=w.os
 tape:w'.tape=w.tape
 output:w'.output=w.output
 size:w.heap.size<=w'.heap.size
 blk:∀b,b<w.heap.size->w'.heap[b]? = w.heap[b]?
theorem Grew.refl(w:World):Grew w w:=⟨rfl,rfl,rfl,yE _,λ_ _=>rfl⟩
theorem Grew.alloc(w:World)(o:Obj):Grew w (w.alloc o):=⟨rfl,rfl,rfl,by simp,λb hb=>RowKit.Below.heap_alloc w o b hb⟩
theorem Grew.drew(w:World):Grew w w.drew:=⟨rfl,rfl,rfl,yE _,λ_ _=>rfl⟩
theorem Grew.trans{a b c:World}(h:Grew a b)(k:Grew b c):Grew a c :=
 ⟨k.os.trans h.os,k.tape.trans h.tape,k.output.trans h.output,wT h.size k.size,λi hi=>(k.blk i (xA hi h.size)).trans (h.blk i hi)⟩
def Ky{a:Ka}{w w':World}{d:Nat}{e:Ent}(hi:Inv a w)(hd:a d=.new)(g:Grew w w')(he:∀b,e.block? = some b->w.heap.size<=b/\b<w'.heap.size):Step (·=d) a w (Em a d e) w'/\Inv (Em a d e) w':=by
 have key:∀k b,((Em a d e) k).block? = some b->(k=d/\e.block? = some b)\/(k≠d/\(a k).block? = some b):=by
  intro k b h;by_cases hk:k=d
  .subst hk;rw[Ay]at h;exact .inl ⟨rfl,h⟩
  .rw[Cc a e hk]at h;exact .inr ⟨hk,h⟩
 refine⟨⟨g.size,g.os,g.tape,g.output,E,λb hb=>g.blk b (hi.mbnd b hb),λb hb _=>g.blk b hb,λk b _ hb=>g.blk b (hi.bnd k b hb),λk hk=>Cc a e hk,λk hk=>.inl (by rw[hk];exact hd),?_⟩,⟨?_,?_,?_,λb hb=>xA (hi.mbnd b hb) g.size⟩⟩
 .rintro b (⟨k,hk⟩|hk)
  .rcases key k b hk with ⟨_,h⟩|⟨_,h⟩
   .exact .inr (he b h).1
   .exact .inl (.inl ⟨k,h⟩)
  .exact .inl (.inr hk)
 .intro i j b h1 h2;rcases key i b h1 with ⟨n1,g1⟩|⟨n1,g1⟩<;>rcases key j b h2 with ⟨n2,g2⟩|⟨n2,g2⟩
  .exact n1.trans n2.symm
  .have:=(he b g1).1;have:=hi.bnd j b g2;omega
  .have:=(he b g2).1;have:=hi.bnd i b g1;omega
  .exact hi.inj i j b g1 g2
 .intro k b h;rcases key k b h with ⟨_,h⟩|⟨_,h⟩
  .exact(he b h).2
  .exact xA (hi.bnd k b h) g.size
 .intro k b h hm;rcases key k b h with ⟨_,h⟩|⟨_,h⟩
  .have:=(he b h).1;have:=hi.mbnd b hm;omega
  .exact hi.apart k b h hm
def Tx{a:Ka}{w w':World}{k b:Nat}(hi:Inv a w)(hk:(a k).block? = some b)(yj:w'.os=w.os)(ht:w'.tape=w.tape)(ho:w'.output=w.output)(hs:w'.heap.size=w.heap.size)(hb:∀i,i≠b->w'.heap[i]? = w.heap[i]?):Step (·=k) a w a w'/\Inv a w':=by
 refine⟨⟨by omega,yj,ht,ho,E,λi hm=>hb i (λe=>hi.apart k b hk (e▸hm)),λi _ hn=>hb i (λe=>hn (.inl ⟨k,e▸hk⟩)),λj i hj pv=>hb i (λe=>hj (hi.inj j k b (e▸pv) hk)),λ_ _=>rfl,λ_ _=>.inr (.inl E),λ_ h=>.inl h⟩,⟨hi.inj,λj i h=>?_,hi.apart,λi h=>?_⟩⟩
 .rw[hs];exact hi.bnd j i h
 .rw[hs];exact hi.mbnd i h
def cS{P:Program}{o:Oper}{s:SS}{d:Nat}{x:SV}{ob:Ob}{rd:List Nat}(hd:s.h d=.fresh)(h:∀ (r:Ka) (a:Act) (w:World),Inv r w->(∀ x∈o.op.operands,Rd r w (ev s x) (a.eval x))->(∀ k,k∈rd->ObOK r w k (s.h k))->r d=.new ->
   ∃v w' e,(execOp a.eval o).run P w=.ok (.value v) w'/\Grew w w'/\(∀b,e.block? = some b->w.heap.size<=b/\b<w'.heap.size) /\
    (Step (·=d) r w (Em r d e) w'->Rd (Em r d e) w' x v/\ObOK (Em r d e) w' d ob)):Good P o s ⟨x,rd,[(d,ob)]⟩:=by
 intro r a w hi hr ho N Q hN;have az:r d=.new:=by have:=ho d (.inr (by simp[Up.ws]));rwa [hd]at this
 obtain ⟨v,w',e,h1,h2,h3,h4⟩:=h r a w hi hr (λk hk=>ho k (.inl hk)) az;have br:=Ky hi az h2 h3;obtain ⟨h5,h6⟩:=h4 br.1;simp only[Oper.wp,h1,Oper.upon];exact hN v _ w' (br.1.weaken (by simp[Up.ws])) br.2 h5 (λy hy=>by simp only[zX]at hy;subst hy;exact h6)
def cellsOf:SV->List SV
 | .agg l=>l
 |x=>[x]
def SV.one:SV->Bool
 | .val v=>v.oneCell'
 | .top=>false
 | .agg _=>false
 | .tup _=>false
 |_=>true
theorem Rd.one{r:Ka}{w:World}:∀{x:SV} {v:Value},Rd r w x v->x.one=true->v.oneCell'=true
 | .val u,v,h,h1=>by rw[h.val];exact h1
 | .sl sz e l,v,h,_=>by
  simp only[Rd,RdD]at h;rcases h with ⟨_,a,c,rfl⟩|⟨b,off,cap,rfl,_⟩<;>rfl
 | .ref sz x off,v,h,_=>by
  simp only[Rd,RdD]at h;obtain ⟨b,o,u,rfl,_⟩:=h;rfl
 | .ptr k off,v,h,_=>by
  simp only[Rd]at h;cases hk:r k<;>simp only[hk]at h<;>first|exact h.elim|exact h|(subst h;rfl)
 | .rpt k sz i off,v,h,_=>by
  simp only[Rd]at h;cases hk:r k<;>simp only[hk]at h<;>first|exact h.elim|exact h|(subst h;rfl)
 | .osl k,v,h,_=>by
  simp only[Rd]at h;cases hk:r k<;>simp only[hk]at h<;>first|exact h.elim|exact h|(subst h;rfl)
 | .ifc t x,v,h,_=>by
  simp only[Rd]at h;obtain ⟨u,rfl,_⟩:=h;rfl
 | .clo fn first cap,v,h,_=>by
  simp only[Rd]at h;obtain ⟨u,u',rfl,_⟩:=h;rfl
def SV.boxed:SV->Bool
 | .agg _=>true
 |x=>x.one
theorem Value.cells_one{v:Value}(h:v.oneCell'=true):v.cells=#[v]:=by
 cases v<;>simp_all[Value.oneCell',Value.cells]
theorem Rd.cells{a:Ka}{w:World}{x:SV}{v:Value}(h:Rd a w x v)(hb:x.boxed=true):Ones v.cells.toList/\RdL a w (cellsOf x) v.cells.toList:=by
 have plain:x.one=true->Ones v.cells.toList/\RdL a w [x] v.cells.toList:=λh1=>by
  have h2:=h.one h1;rw[Value.cells_one h2];refine⟨λc hc=>by simp at hc;subst hc;exact h2,?_⟩;simp only[RdL];exact⟨v,[],E,h,E⟩
 cases x with
 |agg l=>
  simp only[Rd]at h;obtain ⟨cs,rfl,h1,h2⟩:=h;exact⟨by simpa [Value.cells] using h1,by simpa [Value.cells,cellsOf] using h2⟩
 |top=>exact plain hb
 |val v=>exact plain hb
 |tup l=>simp[SV.boxed,SV.one]at hb
 |sl sz e l=>exact plain hb
 |ref sz x off=>exact plain hb
 |ptr k off=>exact plain hb
 |rpt k sz i off=>exact plain hb
 |osl k=>exact plain hb
 |ifc t x=>exact plain hb
 |clo fn first cap=>exact plain hb
theorem NoFr.zero(n:Nat):NoFr (0,0) n:=.inl rfl
def cY{P:Program}{o:Oper}{s:SS}{t:TypeId}{x:Operand}{d:Nat}(h:o.op=.box t x)(hd:s.h d=.fresh)(hb:(ev s x).boxed=true):Good P o s ⟨.ptr d 0,[],[(d,.box (cellsOf (ev s x)))]⟩ :=
 cS hd λk a w hi hr _ hn=>by
  have h1:=hr x (by simp[h,Op.operands]);have h2:=h1.cells hb;refine⟨.pointer (some ⟨w.heap.size,0,none⟩),w.alloc (.cells (a.eval x).cells t),.blk w.heap.size,?_,Grew.alloc w _,?_,?_⟩
  .simp[execOp,h,Instr.box,newVar,newRow]
  .intro b hb;simp only[Ent.block?,Option.some.injEq]at hb;subst hb;simp
  .intro st;refine⟨by simp[Rd,Ay],w.heap.size,(a.eval x).cells.toList,t,(0,0),Ay _ _ _,?_,NoFr.zero _,h2.1,RdL.step st _ _ h2.2⟩;rw[heap_alloc_new]
def eD{k:Ka}{w:World}:∀l:List Value,RdL k w (l.map .val) l
 |[]=>by simp[RdL]
 |v::l=>by simp only[xV,RdL];exact⟨v,l,rfl,by simp[Rd],eD l⟩
def nC(l:List Value):Bool:=l.all (·.oneCell')
def We{l:List Value}(h:nC l=true):Ones l:=by simpa [nC,Ones] using h
def Arp{P:Program}(Γ:Ty P){o:Oper}{s:SS}{t:TypeId}{i:TI}{d:Nat}(h:o.op=.alloc t)(hd:s.h d=.fresh)(ht:Γ.get t=some i)(h1:nC i.zero=true):Good P o s ⟨.ptr d 0,[],[(d,.box (i.zero.map .val))]⟩ :=
 cS hd λk a w hi hr _ hn=>by
  obtain ⟨dd,info,z,k1,k2,k3,k4,k5,k6⟩:=Γ.ok t i ht;refine⟨.pointer (some ⟨w.heap.size,0,none⟩),w.alloc (.cells z.cells t),.blk w.heap.size,?_,Grew.alloc w _,?_,?_⟩
  .simp[execOp,h,Instr.alloc,newVar,newRow,zeroValue,typeInfo,k3,k5]
  .intro b hb;simp only[Ent.block?,Option.some.injEq]at hb;subst hb;simp
  .intro st;refine⟨by simp[Rd,Ay],w.heap.size,i.zero,t,(0,0),Ay _ _ _,?_,NoFr.zero _,We h1,eD _⟩;rw[heap_alloc_new,<-k6]
def eG(k:Ka)(w:World)(b o:Nat)(l:List SV):Prop:=∃cs:List Value,RdL k w l cs/\Ones cs/\∀j,j<cs.length->w.cell? ⟨b,o+j,none⟩=cs[j]?
theorem RdL.length{k:Ka}{w:World}:∀{l:List SV} {cs:List Value},RdL k w l cs->cs.length=l.length
 |[],cs,h=>by simp only[RdL]at h;subst h;rfl
 |x::l,cs,h=>by
  simp only[RdL]at h;obtain ⟨v,r,rfl,_,h⟩:=h;simp[h.length]
theorem RdL.drop{k:Ka}{w:World}:∀(n:Nat) {l:List SV} {cs:List Value},RdL k w l cs->RdL k w (l.drop n) (cs.drop n)
 |0,l,cs,h=>kS h
 |n+1,[],cs,h=>by simp only[RdL]at h;subst h;simp[RdL]
 |n+1,x::l,cs,h=>by
  simp only[RdL]at h;obtain ⟨v,r,rfl,_,h⟩:=h;simpa using h.drop n
theorem RdL.take{k:Ka}{w:World}:∀(n:Nat) {l:List SV} {cs:List Value},RdL k w l cs->RdL k w (l.take n) (cs.take n)
 |0,l,cs,h=>by simp[RdL]
 |n+1,[],cs,h=>by simp only[RdL]at h;subst h;simp[RdL]
 |n+1,x::l,cs,h=>by
  simp only[RdL]at h;obtain ⟨v,r,rfl,h1,h⟩:=h;simp only[List.take_succ_cons,RdL];exact⟨v,_,E,h1,h.take n⟩
theorem RdL.append{k:Ka}{w:World}:∀{l m:List SV} {cs ds:List Value},RdL k w l cs->RdL k w m ds->RdL k w (l++m) (cs++ds)
 |[],m,cs,ds,h,h'=>by simp only[RdL]at h;subst h;simpa using h'
 |x::l,m,cs,ds,h,h'=>by
  simp only[RdL]at h;obtain ⟨v,r,rfl,h1,h⟩:=h;simp only[wB,RdL];exact⟨v,_,E,h1,h.append h'⟩
theorem RdL.get{k:Ka}{w:World}:∀{n:Nat} {l:List SV} {cs:List Value} {x:SV},RdL k w l cs->Iu l n=some x->∃v,cs[n]? = some v/\Rd k w x v
 |n,[],cs,x,h,hg=>by cases n<;>simp[Iu]at hg
 |0,y::l,cs,x,h,hg=>by
  simp only[RdL]at h;obtain ⟨v,r,rfl,h1,h⟩:=h;simp only[Iu,Option.some.injEq]at hg;subst hg;exact⟨v,by simp,h1⟩
 |n+1,y::l,cs,x,h,hg=>by
  simp only[RdL]at h;obtain ⟨v,r,rfl,h1,h⟩:=h;obtain ⟨u,h2,h3⟩:=h.get (n:=n) hg;exact⟨u,kS h2,h3⟩
theorem Ones.drop{cs:List Value}(h:Ones cs)(n:Nat):Ones (cs.drop n):=λc hc=>h c (List.mem_of_mem_drop hc)
theorem Ones.take{cs:List Value}(h:Ones cs)(n:Nat):Ones (cs.take n):=λc hc=>h c (wV hc)
def Avm{P:Program}(Γ:Ty P){t:TypeId}{i:TI}(ht:Γ.get t=some i)(w:World)(hk:i.k matches .bool| .int _| .string| .slice .. | .struct _| .array .. | .ptr| .iface| .func):(isAgg t).run P w=.ok i.agg w:=by
 obtain ⟨d,info,z,k1,k2,k3,k4,k5,k6⟩:=Γ.ok t i ht;obtain ⟨k,n,zz⟩:=i;cases k<;>simp only[TK.ok]at k2<;>first
  |(subst k2;simp[isAgg,run_underlying k1,TI.agg];done)
  |(obtain ⟨a,rfl,_⟩:=k2;simp[isAgg,run_underlying k1,TI.agg];done)
  |(obtain ⟨rfl,_⟩:=k2;simp[isAgg,run_underlying k1,TI.agg];done)
  |(obtain ⟨a,rfl⟩:=k2;simp[isAgg,run_underlying k1,TI.agg];done)
  |(obtain ⟨a,b,c,rfl⟩:=k2;simp[isAgg,run_underlying k1,TI.agg];done)
  |simp at hk
theorem TK.plain{P:Program}{d:TypeDesc}:∀{k:TK},TK.ok P d k->(k matches .bool| .int _| .string| .slice .. | .struct _| .array .. | .ptr| .iface| .func)
 | .bool,_=>rfl| .int _,_=>rfl| .string,_=>rfl| .slice ..,_=>rfl| .struct _,_=>rfl| .array ..,_=>rfl| .ptr,_=>rfl| .iface,_=>rfl| .func,_=>rfl
 | .other,h=>by simp[TK.ok]at h
def Akt{P:Program}(Γ:Ty P){k:Ka}{w:World}{t:TypeId}{i:TI}(ht:Γ.get t=some i){b o off:Nat}{l:List SV}(hc:eG k w b o l):(i.agg=true->off+i.size<=l.length->∃v,(loadVar t ⟨b,o+off,none⟩).run P w=.ok v w/\Rd k w (.agg ((l.drop off).take i.size)) v) /\
  (i.agg=false->∀x,Iu l off=some x->∃v,(loadVar t ⟨b,o+off,none⟩).run P w=.ok v w/\Rd k w x v):=by
 obtain ⟨cs,h1,h2,h3⟩:=hc;obtain ⟨d,info,z,k1,k2,k3,k4,k5,k6⟩:=Γ.ok t i ht;have ug:=Avm Γ ht w (TK.plain k2);constructor
 .intro ha hl;have hlen:=h1.length;have uh:=run_loadCells_list (P:=P) w ⟨b,o+off,none⟩ ((cs.drop off).take i.size) (λ j v hj=>by
   rw[uD]at hj;split at hj
   .rw[List.getElem?_drop]at hj;have ab:off+j<cs.length:=by
     rcases vZ (off+j) cs.length with h|h
     .exact h
     .rw[wK h]at hj;cases hj
    rw[Addr.add_lit,uG,h3 _ ab];exact hj
   .cases hj)
  have hn:((cs.drop off).take i.size).length=i.size:=by simp;omega
  rw[hn]at uh;refine⟨.agg ((cs.drop off).take i.size).toArray,?_,?_⟩
  .simp[loadVar,ug,ha,sizeOf,typeInfo,k3,k4,uh]
  .simp only[Rd];exact⟨_,E,(h2.drop off).take _,(h1.drop off).take _⟩
 .intro ha x hx;obtain ⟨v,h4,h5⟩:=h1.get hx;have ab:off<cs.length:=by
   rcases vZ off cs.length with h|h
   .exact h
   .rw[wK h]at h4;cases h4
  exact⟨v,by simp[loadVar,ug,ha,h3 off ab,h4],h5⟩
def O9(i:TI)(l:List SV)(off:Nat):Option SV :=
 match i.agg with
 |true=>bif Nat.ble (off+i.size) l.length then some (.agg ((l.drop off).take i.size)) else none
 |false=>Iu l off
def Ou{P:Program}(Γ:Ty P){k:Ka}{w:World}{t:TypeId}{i:TI}(ht:Γ.get t=some i){b o off:Nat}{l:List SV}(hc:eG k w b o l){x:SV}(hx:O9 i l off=some x):∃v,(loadVar t ⟨b,o+off,none⟩).run P w=.ok v w/\Rd k w x v:=by
 obtain ⟨h1,h2⟩:=Akt (off:=off) Γ ht hc;unfold O9 at hx;cases ha:i.agg with
 |false=>rw[ha]at hx;exact h2 ha x hx
 |true=>
  rw[ha]at hx;simp only[uP]at hx;split at hx
  .rename_i hb;simp only[Option.some.injEq]at hx;subst hx;exact h1 ha (wC hb)
  .cases hx
theorem ObOK.cellsAt{a:Ka}{w:World}{k:Nat}{l:List SV}(h:ObOK a w k (.box l)):∃b,a k=.blk b/\eG a w b 0 l:=by
 obtain ⟨b,cs,T,fr,h1,h2,h3,h4,h5⟩:=h;refine⟨b,h1,cs,h5,h4,λj hj=>?_⟩;rw[wF,cell_of_row w b j cs.toArray T fr h2];simp
theorem RdD.toRd{k:Ka}{w:World}{x:SV}{v:Value}(h:RdD (Own k) w x v):Rd k w x v:=Rd.of_data x v h
theorem LaidAt.cellsAt{k:Ka}{w:World}{b o sz:Nat}{x:SV}{u:Value}(h:LaidAt w b o sz u)(hr:Rd k w x u)(hb:x.boxed=true):eG k w b o (cellsOf x):=by
 obtain ⟨h1,h2,h3⟩:=h;refine⟨u.cells.toList,(hr.cells hb).2,h2,λj hj=>?_⟩;rw[h3 j (by simpa [h1] using hj)];simp
def Ae7{P:Program}(Γ:Ty P){o:Oper}{s:SS}{t:TypeId}{i:TI}{x:Operand}{k off:Nat}{l:List SV}{y:SV}(h:o.op=.load t x)(hx:ev s x=.ptr k off)(ht:Γ.get t=some i)(hk:s.h k=.box l)(hy:O9 i l off=some y):Good P o s ⟨y,[k],[]⟩ :=
 Good.pure λr a w _ hr ho=>by
  have h1:=hr x (by simp[h,Op.operands]);have h2:=ho k y_;rw[hk]at h2;obtain ⟨b,h3,h4⟩:=h2.cellsAt;rw[hx]at h1;simp only[Rd,h3]at h1;obtain ⟨v,h5,h6⟩:=Ou Γ ht h4 hy;rw[wF]at h5;exact⟨v,by simp[execOp,h,h1,Instr.loadAt,Instr.sureAddr,h5],h6⟩
def Ae6{P:Program}(Γ:Ty P){o:Oper}{s:SS}{t:TypeId}{i:TI}{x:Operand}{sz off:Nat}{z y:SV}(h:o.op=.load t x)(hx:ev s x=.ref sz z off)(ht:Γ.get t=some i)(hz:z.boxed=true)(hy:O9 i (cellsOf z) off=some y):Good P o s ⟨y,[],[]⟩ :=
 Good.pure λk a w _ hr _=>by
  have h1:=hr x (by simp[h,Op.operands]);rw[hx]at h1;simp only[Rd,RdD]at h1;obtain ⟨b,oo,u,h2,h3,h4,h5,h6⟩:=h1;obtain ⟨v,h7,h8⟩:=Ou Γ ht (h6.cellsAt h5.toRd hz) hy;exact⟨v,by simp[execOp,h,h2,Instr.loadAt,Instr.sureAddr,h7],h8⟩
theorem RowAt.cellsAt{a:Ka}{w:World}{k sz n:Nat}{f:Nat->SV->Prop}(h:RowAt a w k sz n f){i:Nat}{x:SV}(hx:f i x)(hb:x.boxed=true):∃b cap,a k=.row b n cap/\eG a w b (i*sz) (cellsOf x):=by
 obtain ⟨b,cap,cs,T,fr,h1,h2,h3,h4,h5,h6⟩:=h;obtain ⟨h0,u,h7,h8,h9,kq⟩:=h6 i x hx;refine⟨b,cap,h1,u.cells.toList,(h7.toRd.cells hb).2,h9,λj hj=>?_⟩;rw[cell_of_row w b _ cs.toArray T fr h2,uZ,kq j (by simpa [h8] using hj)];simp
def Y9{P:Program}(Γ:Ty P){o:Oper}{s:SS}{t:TypeId}{ti:TI}{x:Operand}{k sz i off n:Nat}{f:Nat->SV->Prop}{z y:SV}(h:o.op=.load t x)(hx:ev s x=.rpt k sz i off)(ht:Γ.get t=some ti)(hk:∀r w,ObOK r w k (s.h k)->RowAt r w k sz n f)(hf:f i z)(hz:z.boxed=true)(hy:O9 ti (cellsOf z) off=some y):Good P o s ⟨y,[k],[]⟩ :=
 Good.pure λr a w _ hr ho=>by
  have h1:=hr x (by simp[h,Op.operands]);have h2:=hk r w (ho k y_);obtain ⟨b,cap,h3,h4⟩:=h2.cellsAt hf hz;rw[hx]at h1;simp only[Rd,h3]at h1;obtain ⟨v,h5,h6⟩:=Ou Γ ht h4 hy;exact⟨v,by simp[execOp,h,h1,Instr.loadAt,Instr.sureAddr,h5],h6⟩
theorem ObOK.rowAt{a:Ka}{w:World}{k sz:Nat}{b:Type}{e:b->SV}{l:List b}(h:ObOK a w k (.row sz e l))(hl:l≠[]):RowAt a w k sz l.length (rowF e l) :=
 h.resolve_left (λh=>hl h.2)
def setAt{k:Type 1}:List k->Nat->List k->List k
 |l,_,[]=>l
 |[],_,_=>[]
 |_::l,0,v::vs=>v::setAt l 0 vs
 |x::l,n+1,v::vs=>x::setAt l n (v::vs)
def setV:List Value->Nat->List Value->List Value
 |l,_,[]=>l
 |[],_,_=>[]
 |_::l,0,v::vs=>v::setV l 0 vs
 |x::l,n+1,v::vs=>x::setV l n (v::vs)
def Qx:∀(vs l:List Value) (n:Nat),n+vs.length<=l.length->setV l n vs=l.take n++vs++l.drop (n+vs.length)
 |[],l,n,_=>by cases l<;>simp[setV]
 |v::vs,[],n,h=>by simp at h
 |v::vs,x::l,0,h=>by
  have:=Qx vs l 0 (by simp at h|-;omega);simp only[setV,this];simp[tQ]
 |v::vs,x::l,n+1,h=>by
  have:=Qx (v::vs) l n (by simp at h|-;omega);simp only[setV,this];simp[uG,tQ 1];rw[show n+(vs.length+2)=(n+(vs.length+1))+1 from by omega,List.drop_succ_cons]
theorem RdL.setAt{k:Ka}{w:World}:∀{ys l:List SV} {vs cs:List Value} (n:Nat),RdL k w l cs->RdL k w ys vs->RdL k w (setAt l n ys) (setV cs n vs)
 |[],l,vs,cs,n,h,h'=>by
  simp only[RdL]at h';subst h';cases l<;>cases cs<;>simpa [Sy.setAt,setV] using h
 |y::ys,[],vs,cs,n,h,h'=>by
  simp only[RdL]at h h';obtain ⟨v,r,rfl,_,_⟩:=h';subst h;simp[Sy.setAt,setV,RdL]
 |y::ys,x::l,vs,cs,0,h,h'=>by
  simp only[RdL]at h h';obtain ⟨v,r,rfl,h1,h2⟩:=h';obtain ⟨u,q,rfl,h3,h4⟩:=h;simp only[Sy.setAt,setV,RdL];exact⟨v,_,E,h1,RdL.setAt 0 h4 h2⟩
 |y::ys,x::l,vs,cs,n+1,h,h'=>by
  have h'':=h';simp only[RdL]at h h';obtain ⟨v,r,rfl,h1,h2⟩:=h';obtain ⟨u,q,rfl,h3,h4⟩:=h;simp only[Sy.setAt,setV,RdL];exact⟨u,_,E,h3,RdL.setAt n h4 h''⟩
theorem Ones.setV:∀{vs cs:List Value} (n:Nat),Ones cs->Ones vs->Ones (setV cs n vs)
 |[],cs,n,h,_=>by cases cs<;>simpa [Sy.setV] using h
 |v::vs,[],n,h,h'=>by simpa [Sy.setV] using h
 |v::vs,x::l,0,h,h'=>by
  intro c hc;simp only[Sy.setV,yI]at hc;rcases hc with rfl|hc
  .exact h' _ y_
  .exact Ones.setV 0 (λc hc=>h c (by simp[hc])) (λc hc=>h' c (by simp[hc])) c hc
 |v::vs,x::l,n+1,h,h'=>by
  intro c hc;simp only[Sy.setV,yI]at hc;rcases hc with rfl|hc
  .exact h _ y_
  .exact Ones.setV n (λc hc=>h c (by simp[hc])) h' c hc
def Cm:∀(vs cs:List Value) (n:Nat),(setV cs n vs).length=cs.length
 |[],cs,n=>by cases cs<;>simp[setV]
 |v::vs,[],n=>by simp[setV]
 |v::vs,x::l,0=>by simp[setV,Cm vs l 0]
 |v::vs,x::l,n+1=>by simp[setV,Cm (v::vs) l n]
def Dr(P:Program)(g o:Nat)(t:TypeId)(fz:Nat×Nat):∀(vs:List Value) (i:Nat) (cur:List Value) (w:World),w.heap[g]? = some (.cells cur.toArray t fz)->NoFr fz cur.length ->
  o+i+vs.length<=cur.length->Ones vs ->
  ∃w',(storeCells ⟨g,o,none⟩ vs i).run P w=.ok () w'/\w'.heap[g]? = some (.cells (setV cur (o+i) vs).toArray t fz)/\w'.os=w.os/\w'.tape=w.tape/\w'.output=w.output/\w'.heap.size=w.heap.size/\∀j,j≠g->w'.heap[j]? = w.heap[j]?
 |[],i,cur,w,hg,_,_,_=>⟨w,by simp[storeCells],by cases cur<;>simpa [setV] using hg,rfl,rfl,rfl,rfl,λ_ _=>rfl⟩
 |v::rest,i,cur,w,hg,yi,hl,h1=>by
  have hi:o+i<cur.length:=by simp at hl;omega
  have ot:(⟨g,o,none⟩:Addr).add i=⟨g,o+i,none⟩:=by unfold Addr.add;split<;>simp_all
  have gq:w.cell? ⟨g,o+i,none⟩=some cur[o+i]:=by simp[World.cell?,hg,hi]
  have hfro:w.frozen? ⟨g,o+i,none⟩=false:=by
   obtain ⟨lo,hi'⟩:=fz;simp only[World.frozen?,hg];rcases yi with h|h
   .simp only at h;subst h;simp
   .simp only at h;simp;omega
  have br:(store ((⟨g,o,none⟩:Addr).add i) v).run P w=.ok () (w.setCell ⟨g,o+i,none⟩ v):=by
   rw[ot,run_store P w _ v _ (h1 v y_),gq];simp[hfro]
  have nh:(w.setCell ⟨g,o+i,none⟩ v).heap[g]? = some (.cells (cur.set (o+i) v).toArray t fz):=by
   simp only[World.setCell,Array.getElem?_modify,if_true,hg,uL];simp
  obtain ⟨w',e1,e2,e3,e4,e5,e6,e7⟩:=Dr P g o t fz rest (i+1) (cur.set (o+i) v) (w.setCell ⟨g,o+i,none⟩ v) nh (kS yi) (by simp at hl|-;omega) (λx hx=>h1 x (by simp[hx]));refine⟨w',?_,?_,e3,e4,e5,kS e6,λj hj=>(e7 j hj).trans (RowKit.Below.heap_setCell _ _ _ _ hj)⟩
  .simp only[storeCells,Sem.run_bind,br,Result.andThen_ok,e1]
  .rw[e2];congr 3;rw[Qx rest _ _ (by simp at hl|-;omega),Qx (v::rest) cur _ (by simp at hl|-;omega)];have:=list_seg_step cur (o+i) v rest (by simp at hl|-;omega);simpa [uG] using this
def bG{P:Program}{w:World}{t:TypeId}{info:TypeInfo}(hi:P.info? t=some info){v:Value}{b o:Nat}{T:TypeId}{fz:Nat×Nat}{cur:List Value}(hg:w.heap[b]? = some (.cells cur.toArray T fz))(yi:NoFr fz cur.length)(hn:v.cells.size=info.size)(hl:o+v.cells.size<=cur.length)(h1:Ones v.cells.toList):∃w',(storeVar t ⟨b,o,none⟩ v).run P w=.ok () w'/\w'.heap[b]? = some (.cells (setV cur o v.cells.toList).toArray T fz)/\w'.os=w.os/\w'.tape=w.tape/\w'.output=w.output/\w'.heap.size=w.heap.size/\∀j,j≠b->w'.heap[j]? = w.heap[j]?:=by
 obtain ⟨w',e1,e2,e3⟩:=Dr P b o T fz v.cells.toList 0 cur w hg yi (kS hl) h1;refine⟨w',?_,kS e2,e3⟩;simp[storeVar,sizeOf,typeInfo,hi,hn,e1]
mutual
def SV.data:SV->Bool
 | .top=>true
 | .val _=>true
 | .agg l=>Tm l
 | .tup l=>Tm l
 | .sl _ _ _=>true
 | .ref _ _ _=>true
 | .ifc _ x=>x.data
 | .clo _ f l=>Tm f&&Tm l
 |_=>false
def Tm:List SV->Bool
 |[]=>true
 |x::l=>x.data&&Tm l
end
mutual
theorem Rd.data{k:Ka}{w:World}:∀(x:SV) (v:Value),x.data=true->Rd k w x v->RdD (Own k) w x v
 | .top,_,_,_=>by simp[RdD]
 | .val u,v,_,h=>by simpa [RdD,Rd] using h
 | .agg l,v,hd,h=>by
  simp only[RdD,Rd,SV.data]at h hd|-;obtain ⟨cs,h1,h0,h2⟩:=h;exact⟨cs,h1,h0,RdL.data l cs hd h2⟩
 | .tup l,v,hd,h=>by
  simp only[RdD,Rd,SV.data]at h hd|-;obtain ⟨cs,h1,h2⟩:=h;exact⟨cs,h1,RdL.data l cs hd h2⟩
 | .sl sz e l,v,_,h=>by simpa only [Rd] using h
 | .ref sz x off,v,_,h=>by simpa only [Rd] using h
 | .ptr _ _,_,hd,_=>by simp[SV.data]at hd
 | .rpt _ _ _ _,_,hd,_=>by simp[SV.data]at hd
 | .osl _,_,hd,_=>by simp[SV.data]at hd
 | .ifc t x,v,hd,h=>by
  simp only[RdD,Rd,SV.data]at h hd|-;obtain ⟨u,h1,h2⟩:=h;exact⟨u,h1,Rd.data x u hd h2⟩
 | .clo fn first cap,v,hd,h=>by
  simp only[RdD,Rd,SV.data,zG]at h hd|-;obtain ⟨fs,cs,h1,h2,h3⟩:=h;exact⟨fs,cs,h1,RdL.data first fs hd.1 h2,RdL.data cap cs hd.2 h3⟩
theorem RdL.data{k:Ka}{w:World}:∀(l:List SV) (vs:List Value),Tm l=true->RdL k w l vs->RdDL (Own k) w l vs
 |[],_,_,h=>by simpa [RdDL,RdL] using h
 |x::l,vs,hd,h=>by
  simp only[RdDL,RdL,Tm,zG]at h hd|-;obtain ⟨v,r,h1,h2,h3⟩:=h;exact⟨v,r,h1,Rd.data x v hd.1 h2,RdL.data l r hd.2 h3⟩
end
theorem Rd.of_cells{κ:Ka}{w:World}{x:SV}{cs:List Value}(hb:x.boxed=true)(h1:Ones cs)(h:RdL κ w (cellsOf x) cs):∃u:Value,Rd κ w x u/\u.cells.toList=cs:=by
 have plain:RdL κ w [x] cs->∃u:Value,Rd κ w x u/\u.cells.toList=cs:=λh=>by
  simp only[RdL]at h;obtain ⟨v,r,rfl,h2,rfl⟩:=h;exact⟨v,h2,by rw[Value.cells_one (h1 v y_)]⟩
 cases x with
 |agg l=>exact⟨.agg cs.toArray,by simp only[Rd];exact⟨cs,rfl,h1,h⟩,by simp[Value.cells]⟩
 |_=>exact plain h
def Oq(l vs:List Value)(n j:Nat)(h:n+vs.length<=l.length):(setV l n vs)[j]? = if n<=j/\j<n+vs.length then vs[j-n]? else l[j]?:=by
 rw[Qx vs l n h];by_cases h1:j<n
 .rw[zD q_,xF,xW kO,uD,zE h1]
 .by_cases h2:j<n+vs.length
  .rw[zE q_,xW kO,wH kO];congr 1;simp;omega
  .rw[zD q_,wH kO,List.getElem?_drop];congr 1;simp;omega
def Ws{P:Program}(Γ:Ty P){o:Oper}{s:SS}{t:TypeId}{i:TI}{x y:Operand}{k off:Nat}{l:List SV}(h:o.op=.store t x y)(hx:ev s x=.ptr k off)(ht:Γ.get t=some i)(hk:s.h k=.box l)(hb:(ev s y).boxed=true)(hn:(cellsOf (ev s y)).length=i.size)(hl:off+i.size<=l.length):Good P o s ⟨.val undef,[],[(k,.box (setAt l off (cellsOf (ev s y))))]⟩:=by
 intro r a w hi hr ho N Q hN;have h1:=hr x (by simp[h,Op.operands]);have h2:=hr y (by simp[h,Op.operands]);have h3:=ho k (.inr (by simp[Up.ws]));rw[hk]at h3;obtain ⟨b,cs,T,fr,e1,e2,e3,e4,e5⟩:=h3;rw[hx]at h1;simp only[Rd,e1]at h1;obtain ⟨h4,h5⟩:=h2.cells hb;obtain ⟨d,info,z,k1,k2,k3,k4,k5,k6⟩:=Γ.ok t i ht;have bg:(a.eval y).cells.size=i.size:=by rw[<-hn,<-h5.length];simp
 obtain ⟨w',f1,f2,f3,f4,f5,f6,f7⟩:=bG (P:=P) (t:=t) k3 (v:=a.eval y) (o:=off) e2 e3 (by rw[bg,k4]) (by rw[bg,e5.length];exact hl) h4;obtain ⟨st,inv⟩:=Tx hi (k:=k) (b:=b) (by rw[e1];rfl) f3 f4 f5 f6 f7;have au:(execOp a.eval o).run P w=.ok .skip w':=by simp[execOp,h,h1,Instr.storeAt,Instr.sureAddr,f1]
 simp only[Oper.wp,au,Oper.upon];refine hN undef r w' (st.weaken (by simp[Up.ws])) inv (by simp[Rd]) (λp hp=>?_);simp only[zX]at hp;subst hp;refine⟨b,_,T,fr,e1,f2,by rw[Cm];exact e3,e4.setV _ h4,(RdL.step st _ _ e5).setAt _ (RdL.step st _ _ h5)⟩
theorem RowAt.write{a:Ka}{w:World}{k sz n:Nat}{f:Nat->SV->Prop}(h:RowAt a w k sz n f)(hi:Inv a w){i off:Nat}{x z:SV}{vs:List Value}(hx:f i x)(yk:x.boxed=true){ys:List SV}(hys:RdL a w ys vs)(h1:Ones vs)(yl:off+ys.length<=sz)(hz:cellsOf z=setAt (cellsOf x) off ys)(ym:z.boxed=true)(yn:z.data=true){P:Program}{t:TypeId}{info:TypeInfo}(ht:P.info? t=some info)(ff:info.size=vs.length){v:Value}(hv:v.cells.toList=vs):∃b cap w',a k=.row b n cap/\(storeVar t ⟨b,i*sz+off,none⟩ v).run P w=.ok () w'/\Step (·=k) a w a w'/\Inv a w' /\
   RowAt a w' k sz n (λj y=>(j≠i/\f j y)\/(j=i/\y=z)):=by
 obtain ⟨b,cap,cs,T,fr,e1,e2,e3,e4,e5,e6⟩:=h;obtain ⟨h0,u,g1,g2,g3,g4⟩:=e6 i x hx;have hlen:=hys.length;have a6:i*sz+sz<=cap*sz:=by
  have:(i+1)*sz<=cap*sz:=xB sz q_;rw[xK,wO]at this;exact this
 have jx:v.cells.size=vs.length:=by rw[<-hv];simp
 obtain ⟨w',f1,f2,f3,f4,f5,f6,f7⟩:=bG (P:=P) (t:=t) ht (v:=v) (o:=i*sz+off) e2 e3 (by rw[jx,ff]) (by rw[jx];omega) (by rw[hv];exact h1);rw[hv]at f2;obtain ⟨st,inv⟩:=Tx hi (k:=k) (b:=b) (by rw[e1];rfl) f3 f4 f5 f6 f7;refine⟨b,cap,w',e1,f1,st,inv,b,cap,_,T,fr,e1,f2,by rw[Cm];exact e3,by rw[Cm];exact e4,e5,?_⟩;have bh:=Oq cs vs (i*sz+off);rintro j y (⟨hj,hy⟩|⟨rfl,rfl⟩)
 .obtain ⟨q0,q,q1,q2,q3,q4⟩:=e6 j y hy;refine⟨q0,q,RdD.keep st.keeps _ _ q1,q2,q3,λm hm=>?_⟩;rw[bh _ q_,zD,q4 m hm];rintro ⟨a1,a2⟩;rcases Nat.lt_or_gt_of_ne hj with ab|hgt
  .have:(j+1)*sz<=i*sz:=xB sz q_;rw[xK,wO]at this;omega
  .have:(i+1)*sz<=j*sz:=xB sz q_;rw[xK,wO]at this;omega
 .obtain ⟨c1,c2⟩:=g1.toRd.cells yk;have c3:RdL a w (cellsOf y) (setV u.cells.toList off vs):=by rw[hz];exact c2.setAt _ hys
  have c4:=c1.setV (vs:=vs) off h1;obtain ⟨u',d1,d2⟩:=Rd.of_cells ym c4 c3;have d3:u'.cells.size=sz:=by
   have:u'.cells.toList.length=(setV u.cells.toList off vs).length:=by rw[d2]
   rw[Cm]at this;simpa [g2] using this
  refine⟨h0,u',RdD.keep st.keeps _ _ (Rd.data _ _ yn d1),d3,by rw[d2];exact c4,λm hm=>?_⟩;rw[bh _ q_,<-vY,d2,Oq _ _ _ _ (by simp[g2];omega)];by_cases cd:off<=m/\m<off+vs.length
  .rw[zE q_,zE cd];congr 1;omega
  .rw[zD q_,zD cd,g4 m hm];simp
def Wr{P:Program}(Γ:Ty P){o:Oper}{s:SS}{t:TypeId}{ti:TI}{x y:Operand}{k sz i off:Nat}{m:Type}{e:m->SV}{l:List m}(h:o.op=.store t x y)(hx:ev s x=.rpt k sz i off)(ht:Γ.get t=some ti)(hk:s.h k=.row sz e l)(hb:(ev s y).boxed=true)(hn:(cellsOf (ev s y)).length=ti.size)(yl:off+ti.size<=sz)(hi:i<l.length){z:m}(hz:cellsOf (e z)=setAt (cellsOf (e l[i])) off (cellsOf (ev s y)))(yk:(e l[i]).boxed=true)(ym:(e z).boxed=true)(yn:(e z).data=true):Good P o s ⟨.val undef,[],[(k,.row sz e (l.set i z))]⟩:=by
 intro r a w hinv hr ho N Q hN;have h1:=hr x (by simp[h,Op.operands]);have h2:=hr y (by simp[h,Op.operands]);have h3:=ho k (.inr (by simp[Up.ws]));rw[hk]at h3;have af:l≠[]:=by intro he;subst he;simp at hi
 have h4:=h3.rowAt af;obtain ⟨c1,c2⟩:=h2.cells hb;obtain ⟨d,info,zz,k1,k2,k3,k4,k5,k6⟩:=Γ.ok t ti ht;obtain ⟨b,cap,w',f1,f2,f3,f4,f5⟩:=h4.write hinv (i:=i) (off:=off) (z:=e z) ⟨hi,rfl⟩ yk c2 c1 (by rw[hn];exact yl) hz ym yn (P:=P) (t:=t) k3 (by rw[k4,<-hn,<-c2.length]) rfl;rw[hx]at h1;simp only[Rd,f1]at h1;have au:(execOp a.eval o).run P w=.ok .skip w':=by simp[execOp,h,h1,Instr.storeAt,Instr.sureAddr,f2]
 simp only[Oper.wp,au,Oper.upon];refine hN undef r w' (f3.weaken (by simp[Up.ws])) f4 (by simp[Rd]) (λ p hp=>?_);simp only[zX]at hp;subst hp;refine .inr ?_;obtain ⟨b,cap,cs,T,fr,q1,q2,q3,q4,q5,q6⟩:=f5;refine⟨b,cap,cs,T,fr,kS q1,q2,q3,q4,kS q5,λ j v hv=>?_⟩;obtain ⟨hj,rfl⟩:=hv;have xp:j<l.length:=kS hj;have:=q6 j (e (l.set i z)[j]) (by
  by_cases pv:j=i
  .subst pv;right;simp
  .left;refine⟨pv,xp,?_⟩;rw[List.getElem_set_ne q_])
 simpa using this
def Src(k:Ka)(w:World)(v:Value)(m sz:Nat)(f:Nat->SV->Prop):Prop :=
 (m=0/\(∀i x,¬f i x)/\∃a cap,v=.slice a 0 cap) \/
 ∃b o cap news,v=.slice (some ⟨b,o,none⟩) m cap/\news.length=m*sz/\Ones news/\(∀j u,news[j]? = some u->w.cell? ⟨b,o+j,none⟩=some u) /\
  ∀i x,f i x->i<m/\∃u:Value,RdD (Own k) w x u/\u.cells.size=sz/\Ones u.cells.toList/\∀j,j<sz->news[i*sz+j]? = u.cells[j]?
def Y0{cs:List Value}{n sz:Nat}(hl:n*sz<=cs.length)(h:∀i,i<n->∃u:Value,u.cells.size=sz/\Ones u.cells.toList/\∀j,j<sz->cs[i*sz+j]? = u.cells[j]?):Ones (cs.take (n*sz)):=by
 intro c hc;obtain ⟨j,hj,rfl⟩:=yY.1 hc;have xp:j<n*sz:=by simp at hj;omega
 have bg:0<sz:=by
  rcases uQ sz with h0|h0
  .subst h0;simp at xp
  .exact h0
 have hi:j/sz<n:=(Nat.div_lt_iff_lt_mul bg).2 xp;obtain ⟨u,h1,h2,h3⟩:=h (j/sz) hi;have h4:=h3 (j%sz) (Nat.mod_lt _ bg);rw[Nat.div_add_mod' j sz]at h4;rw[zR q_]at h4;have h5:j%sz<u.cells.toList.length:=by simp[h1];exact Nat.mod_lt _ bg
 rw[<-vY,zR h5]at h4;simp only[Option.some.injEq]at h4;rw[wD,h4];exact h2 _ (zI h5)
theorem RowAt.src{a:Ka}{w:World}{k sz n:Nat}{f:Nat->SV->Prop}(h:RowAt a w k sz n f)(tot:∀i,i<n->∃x,f i x):∃b cap,a k=.row b n cap/\Src a w (.slice (some ⟨b,0,none⟩) n cap) n sz f:=by
 obtain ⟨b,cap,cs,T,fr,e1,e2,e3,e4,e5,e6⟩:=h;have hle:n*sz<=cs.length:=wT (xB sz e5) e4;refine⟨b,cap,e1,.inr ⟨b,0,cap,cs.take (n*sz),E,by simp;omega,?_,?_,?_⟩⟩
 .exact Y0 hle (λ i hi=>by
   obtain ⟨x,hx⟩:=tot i hi;obtain ⟨_,u,_,h2⟩:=e6 i x hx;exact⟨u,h2⟩)
 .intro j u hj;rw[uD]at hj;split at hj
  .rw[wF,cell_of_row w b _ cs.toArray T fr e2];simpa using hj
  .cases hj
 .intro i x hx;obtain ⟨h0,u,h1,h2,h3,h4⟩:=e6 i x hx;refine⟨h0,u,h1,h2,h3,λj hj=>?_⟩;have:(i+1)*sz<=n*sz:=xB sz q_;rw[xK,wO]at this;rw[uD,zE q_,h4 j hj]
theorem Rd.src{k:Ka}{w:World}{sz:Nat}{r:Type}{e:r->SV}{l:List r}{v:Value}(h:Rd k w (.sl sz e l) v):Src k w v l.length sz (rowF e l):=by
 simp only[Rd,RdD]at h;rcases h with ⟨rfl,a,cap,rfl⟩|⟨b,off,cap,rfl,h0,h1,h2,h3⟩
 .exact .inl ⟨rfl,λi x hx=>(by obtain ⟨h,_⟩:=hx;simp at h),a,cap,rfl⟩
 .refine .inr ⟨b,off,cap,(List.range (l.length*sz)).map λj=>(w.cell? ⟨b,off+j,none⟩).getD undef,E,by simp,?_,?_,?_⟩
  .have:=Y0 (cs:=(List.range (l.length * sz)).map λ j=>(w.cell? ⟨b,off+j,none⟩).getD undef) (n:=l.length) (sz:=sz) y_ (λ i hi=>by
    obtain ⟨u,h4,h5,h6,h7⟩:=h3 i hi;refine⟨u,h5,h6,λ j hj=>?_⟩;have:(i+1) * sz<=l.length * sz:=xB sz q_;rw[xK,wO]at this;have h8:=h7 j hj;rw[uG]at h8;rw[vU,uK q_];simp only[uL,h8];rw[uN q_];rfl)
   rw[xI y_]at this;exact this
  .intro j u hj;rw[vU]at hj;have ab:j<l.length*sz:=by
    rcases vZ j (l.length*sz) with h|h
    .exact h
    .rw[wK (kS h)]at hj;cases hj
   rw[uK ab]at hj;simp only[uL,Option.some.injEq]at hj;have bg:0<sz:=by
    rcases uQ sz with h0|h0
    .subst h0;simp at ab
    .exact h0
   have hi:j/sz<l.length:=(Nat.div_lt_iff_lt_mul bg).2 ab;obtain ⟨q,h4,h5,h6,h7⟩:=h3 (j/sz) hi;have h8:=h7 (j%sz) (Nat.mod_lt _ bg);rw[uG,Nat.div_add_mod' j sz,uN (by rw[h5];exact Nat.mod_lt _ bg)]at h8;rw[h8]at hj|-;simpa using hj
  .rintro i x ⟨hi,rfl⟩;obtain ⟨u,h4,h5,h6,h7⟩:=h3 i hi;refine⟨hi,u,h4,h5,h6,λj hj=>?_⟩;have:(i+1)*sz<=l.length*sz:=xB sz q_;rw[xK,wO]at this;have h8:=h7 j hj;rw[uG]at h8;rw[vU,uK q_];simp only[uL,h8];rw[uN q_];rfl
def Ax7(n:Nat)(f g:Nat->SV->Prop)(i:Nat)(x:SV):Prop:=(i<n/\f i x)\/(n<=i/\g (i-n) x)
def Base(a:Ka)(w:World)(v:Value)(n sz:Nat)(f:Nat->SV->Prop):Option Nat->Prop
 |none=>v=.slice none 0 0/\n=0
 |some k=>(a k=.nil/\n=0/\v=.slice none 0 0)\/(RowAt a w k sz n f/\(∀i,i<n->∃x,f i x)/\∃b cap,a k=.row b n cap/\v=.slice (some ⟨b,0,none⟩) n cap)
def Ack(a:Ka):Option Nat->Ka
 |none=>a
 |some k=>Em a k .dead
def Mh{a:Ka}{w:World}(hi:Inv a w)(k:Option Nat):Inv (Ack a k) w:=by
 cases k with
 |none=>exact hi
 |some k=>
  have key:∀j b,((Em a k .dead) j).block? = some b->(a j).block? = some b:=λj b h=>by
   by_cases hj:j=k
   .subst hj;rw[Ay]at h;cases h
   .rwa [Cc a _ hj]at h
  exact⟨λi j b h1 h2=>hi.inj i j b (key i b h1) (key j b h2),λj b h=>hi.bnd j b (key j b h),λj b h=>hi.apart j b (key j b h),hi.mbnd⟩
def Kg{κ:Ka}{w:World}(k:Option Nat):Step (λj=>k=some j) κ w (Ack κ k) w:=by
 cases k with
 |none=>exact Step.refl _ κ w
 |some k=>
  refine⟨yE _,E,E,E,E,λ_ _=>rfl,λ_ _ _=>rfl,λ_ _ _ _=>rfl,λj hj=>Cc κ _ (λe=>hj (by rw[e])),λj hj=>.inr (.inr ?_),?_⟩
  .simp only[Option.some.injEq]at hj;subst hj;exact Ay _ _ _
  .rintro b (⟨j,hj⟩|hj)
   .left;by_cases hjk:j=k
    .subst hjk;simp only[Ack]at hj;rw[Ay]at hj;cases hj
    .simp only[Ack]at hj;rw[Cc κ _ hjk]at hj;exact .inl ⟨j,hj⟩
   .exact .inl (.inr hj)
def Sw{a:Ka}{w w':World}{k d b n n' cap:Nat}(hi:Inv a w)(hk:a k=.row b n cap)(hd:a d=.new)(yj:w'.os=w.os)(ht:w'.tape=w.tape)(ho:w'.output=w.output)(hs:w'.heap.size=w.heap.size)(hb:∀i,i≠b->w'.heap[i]? = w.heap[i]?):Step (λj=>j=k\/j=d) a w (Em (Em a k .dead) d (.row b n' cap)) w'/\Inv (Em (Em a k .dead) d (.row b n' cap)) w':=by
 have ck:k≠d:=λe=>by subst e;rw[hk]at hd;cases hd
 have kh:(a k).block? = some b:=by rw[hk];rfl
 have key:∀j c,((Em (Em a k .dead) d (.row b n' cap)) j).block? = some c->(j=d/\c=b)\/(j≠d/\j≠k/\(a j).block? = some c):=by
  intro j c h;by_cases hj:j=d
  .subst hj;rw[Ay]at h;exact .inl ⟨rfl,by simpa [Ent.block?] using h.symm⟩
  .rw[Cc _ _ hj]at h;by_cases cn:j=k
   .subst cn;rw[Ay]at h;cases h
   .rw[Cc _ _ cn]at h;exact .inr ⟨hj,cn,h⟩
 refine⟨⟨by omega,yj,ht,ho,E,λc hm=>hb c (λe=>hi.apart k b kh (e▸hm)),λc _ hn=>hb c (λe=>hn (.inl ⟨k,e▸kh⟩)),λj c hj hjc=>hb c (λe=>?_),λj hj=>?_,?_,?_⟩,⟨?_,?_,?_,λc h=>?_⟩⟩
 .subst e;exact hj (.inl (hi.inj j k _ hjc kh))
 .rw[Cc _ _ (λe=>hj (.inr e)),Cc _ _ (λe=>hj (.inl e))]
 .rintro j (rfl|rfl)
  .exact .inr (.inr (by rw[Cc _ _ ck,Ay]))
  .exact .inl hd
 .rintro c (⟨j,hj⟩|hj)
  .rcases key j c hj with ⟨_,rfl⟩|⟨_,_,h⟩
   .exact .inl (.inl ⟨k,kh⟩)
   .exact .inl (.inl ⟨j,h⟩)
  .exact .inl (.inr hj)
 .intro i j c h1 h2;rcases key i c h1 with ⟨a1,a2⟩|⟨a1,a2,a3⟩<;>rcases key j c h2 with ⟨b1,b2⟩|⟨b1,b2,b3⟩
  .exact a1.trans b1.symm
  .subst a2;exact yA (hi.inj j k _ b3 kh) b2
  .subst b2;exact yA (hi.inj i k _ a3 kh) a2
  .exact hi.inj i j c a3 b3
 .intro j c h;rw[hs];rcases key j c h with ⟨_,rfl⟩|⟨_,_,h⟩
  .exact hi.bnd k _ kh
  .exact hi.bnd j c h
 .intro j c h;rcases key j c h with ⟨_,rfl⟩|⟨_,_,h⟩
  .exact hi.apart k _ kh
  .exact hi.apart j c h
 .rw[hs];exact hi.mbnd c h
def Y4(z:Array Value)(n:Nat):(Builtin.zeroCells z n).size=n*z.size:=by simp[Builtin.zeroCells]
def An7{P:Program}{r:Ka}{w:World}(hi:Inv r w){t ty e:TypeId}{i:TypeInfo}{z:Value}{sz:Nat}(ht:P.underlying t=some (.slice e))(ff:P.info? e=some i)(hz:i.zero=some z)(bg:i.size=sz)(s7:z.cells.size=sz){v u:Value}{n m:Nat}{f g:Nat->SV->Prop}{k:Option Nat}{d:Nat}(hd:r d=.new)(hb:Base r w v n sz f k)(hs:Src r w u m sz g)(s8:n+m<=9223372036854775807)(da:(n+m)*i.bytes<=140737488355328):∃v' w' r',(Builtin.append_ #[t,t] ty #[v,u]).run P w=.ok v' w'/\Step (λj=>k=some j\/j=d) r w r' w'/\Inv r' w'/\Rd r' w' (.osl d) v' /\
   ((r' d=.nil/\n+m=0)\/RowAt r' w' d sz (n+m) (Ax7 n f g)):=by
 obtain ⟨a,c,news,hu,mc,xq,pw,xr⟩:∃(a:Option Addr) (c:Nat) (news:List Value),u=.slice a m c/\news.length=m*sz/\Ones news/\(∀W:World,(∀p:Addr,p.block<w.heap.size->W.cell? p=w.cell? p)->(Builtin.firstCells sz m u).run P W=.ok news.toArray W) /\
   (∀j x,g j x->j<m/\∃q:Value,RdD (Own r) w x q/\q.cells.size=sz/\Ones q.cells.toList/\∀l,l<sz->news[j*sz+l]? = q.cells[l]?):=by
  rcases hs with ⟨rfl,cw,a,c,rfl⟩|⟨b,o,c,news,rfl,h1,h2,h3,h4⟩
  .refine⟨a,c,[],E,by simp,by simp[Ones],λW _=>?_,λj x h=>yA h (cw j x)⟩;cases a<;>simp[Builtin.firstCells,loadCells,loadCellsFrom]
  .refine⟨some ⟨b,o,none⟩,c,news,E,h1,h2,λ W hW=>?_,λ j x hx=>h4 j x hx⟩;exact run_firstCells_some (P:=P) W sz m ⟨b,o,none⟩ m c news h1 (λ j q hj=>by
    rw[Addr.add_lit];have h5:=h3 j q hj;rw[hW _ (by exact World.block_lt_of_cell? w _ h5),h5])
 subst hu;have iv:∀old,n+m<=grownCap w (n+m) old e:=λold=>grownCap_ge w (n+m) old e
 have ni:∀old,old<n+m->¬(281474976710656<Builtin.nextslicecap (n+m) old*i.bytes):=λold ho=>by have:=growslice_fits ho da;omega
 have jy:∀(db:List Value) (old:Nat) (lq:db.length=n*sz) (hof:∀j x,f j x->j<n->∃q:Value,RdD (Own r) w x q/\q.cells.size=sz/\Ones q.cells.toList/\∀l,l<sz->db[j*sz+l]? = q.cells[l]?),
   let w':=w.drew.alloc (.cells (db.toArray++news.toArray++Builtin.zeroCells z.cells (grownCap w (n+m) old e-(n+m))) e)
   let r':=Em (Ack r k) d (.row w.heap.size (n+m) (grownCap w (n+m) old e))
   Step (λj=>k=some j\/j=d) r w r' w'/\Inv r' w'/\Rd r' w' (.osl d) (.slice (some ⟨w.heap.size,0,none⟩) (n+m) (grownCap w (n+m) old e))/\RowAt r' w' d sz (n+m) (Ax7 n f g):=by
  intro db old lq hof w' r';have s1:=Kg (κ:=r) (w:=w) k;have xu:(Ack r k) d=.new:=by
   cases k with
   |none=>exact hd
   |some k=>
    by_cases ck:d=k
    .exfalso;subst ck;rcases hb with ⟨h,_⟩|⟨_,_,b,cap,h,_⟩<;>rw[hd]at h<;>cases h
    .simp only[Ack];rw[Cc _ _ ck];exact hd
  have g0:Grew w w':=(Grew.drew w).trans (Grew.alloc _ _);have s2:=Ky (Mh hi k) xu (e:=.row w.heap.size (n+m) (grownCap w (n+m) old e)) g0 (λ b hb=>by
   simp only[Ent.block?,Option.some.injEq]at hb;subst hb;exact⟨yE _,by simp[w']⟩)
  have s3:Step (λj=>k=some j\/j=d) r w r' w':=(s1.weaken (λj hj=>.inl hj)).trans (s2.1.weaken (λj hj=>.inr hj));refine⟨s3,s2.2,by simp[Rd,r',Ay],?_⟩;refine⟨w.heap.size,grownCap w (n+m) old e,db++news++(Builtin.zeroCells z.cells (grownCap w (n+m) old e-(n+m))).toList,e,(0,0),Ay _ _ _,?_,NoFr.zero _,?_,iv old,?_⟩
  .have:w'.heap[w.heap.size]? = some (.cells (db.toArray++news.toArray++Builtin.zeroCells z.cells (grownCap w (n+m) old e-(n+m))) e):=heap_alloc_new w.drew _;rw[this];congr 2;apply Array.ext';simp
  .simp only[zQ,lq,mc,wY,Y4,s7];rw[<-xK,<-xK];have:=iv old;rw[show n+m+(grownCap w (n+m) old e-(n+m))=grownCap w (n+m) old e from by omega];exact yE _
  .rintro j x (⟨hj,hx⟩|⟨hj,hx⟩)
   .obtain ⟨q,q1,q2,q3,q4⟩:=hof j x hx hj;refine⟨by omega,q,RdD.keep s3.keeps _ _ q1,q2,q3,λl hl=>?_⟩;have:(j+1)*sz<=n*sz:=xB sz q_;rw[xK,wO]at this;rw[xF,xW q_,q4 l hl]
   .obtain ⟨h0,q,q1,q2,q3,q4⟩:=xr _ x hx;refine⟨by omega,q,RdD.keep s3.keeps _ _ q1,q2,q3,λl hl=>?_⟩;have e1:j*sz=n*sz+(j-n)*sz:=by rw[<-xK];congr 1;omega
    have:(j-n+1)*sz<=m*sz:=xB sz q_;rw[xK,wO]at this;rw[xF,wH q_,xW q_,<-q4 l hl];congr 1;omega
 cases k with
 |none=>
  obtain ⟨rfl,rfl⟩:=hb;by_cases hm:m=0
  .subst hm;have st:=Ky hi hd (e:=.nil) (Grew.refl w) (λb hb=>by cases hb);refine⟨.slice none 0 0,w,Em r d .nil,?_,st.1.weaken (λj hj=>.inr hj),st.2,by simp[Rd,Ay],.inl ⟨Ay _ _ _,E⟩⟩;have hc:=pw w (λ_ _=>rfl);simp[Builtin.append_,run_underlying ht,sizeOf,typeInfo,ff,bg,Builtin.lenOf,hc]
  .obtain ⟨q1,q2,q3,q4⟩:=jy [] 0 y_ (λj x _ hj=>yA hj q_);refine⟨_,_,_,?_,q1,q2,q3,.inr q4⟩;have hc:=pw w.drew (λ_ _=>rfl);have py:=ni 0 q_;have jz:¬(9223372036854775807<(m:Int)):=by omega
   simp only[wF]at py|-;simp[Builtin.append_,run_underlying ht,sizeOf,typeInfo,zeroValue,ff,bg,hz,Builtin.lenOf,hm,jz,py,Question.forced,run_firstCells_none,hc,newRow,grownCap]
 |some k=>
  rcases hb with ⟨hk,rfl,rfl⟩|⟨gx,tot,b,cap,hk,rfl⟩
  .by_cases hm:m=0
   .subst hm;have ck:d≠k:=λe=>by subst e;rw[hd]at hk;cases hk
    have st:=Ky (Mh hi (some k)) (by show Em r k .dead d=.new;rw[Cc _ _ ck];exact hd) (e:=.nil) (Grew.refl w) (λb hb=>by cases hb);refine⟨.slice none 0 0,w,_,?_,((Kg (some k)).weaken (λj hj=>.inl hj)).trans (st.1.weaken (λj hj=>.inr hj)),st.2,by simp[Rd,Ay],.inl ⟨Ay _ _ _,E⟩⟩;have hc:=pw w (λ_ _=>rfl);simp[Builtin.append_,run_underlying ht,sizeOf,typeInfo,ff,bg,Builtin.lenOf,hc]
   .obtain ⟨q1,q2,q3,q4⟩:=jy [] 0 y_ (λj x _ hj=>yA hj q_);refine⟨_,_,_,?_,q1,q2,q3,.inr q4⟩;have hc:=pw w.drew (λ_ _=>rfl);have py:=ni 0 q_;have jz:¬(9223372036854775807<(m:Int)):=by omega
    simp only[wF]at py|-;simp[Builtin.append_,run_underlying ht,sizeOf,typeInfo,zeroValue,ff,bg,hz,Builtin.lenOf,hm,jz,py,Question.forced,run_firstCells_none,hc,newRow,grownCap]
  .obtain ⟨b',d6,kr,iw⟩:=gx.src tot;rw[hk]at kr;cases kr;have yo:=gx;obtain ⟨b',d6,cs,T,fr,e1,e2,e3,e4,e5,e6⟩:=yo;rw[hk]at e1;cases e1;by_cases a7:n+m<=cap
   .have ck:k≠d:=λe=>by subst e;rw[hk]at hd;cases hd
    have kt:(n+m)*sz<=cs.length:=wT (xB sz a7) e4;rw[xK]at kt;obtain ⟨w',f1,f2,f3,f4,f5,f6,f7⟩:=Dr P b (n*sz) T fr news 0 cs w e2 e3 q_ xq;obtain ⟨st,inv⟩:=Sw (n':=n+m) hi hk hd f3 f4 f5 f6 f7;refine⟨.slice (some ⟨b,0,none⟩) (n+m) cap,w',_,?_,st.weaken (λj hj=>hj.imp (λh=>by rw[h]) id),inv,by simp[Rd,Ay],.inr ?_⟩
    .have hc:=pw w (λ_ _=>rfl);simp[Builtin.append_,run_underlying ht,sizeOf,typeInfo,ff,bg,Builtin.lenOf,a7,hc,Addr.add_lit,f1]
    .refine⟨b,cap,_,T,fr,Ay _ _ _,kS f2,by rw[Cm];exact e3,by rw[Cm];exact e4,a7,?_⟩;have bh:=Oq cs news (n*sz);rintro j x (⟨hj,hx⟩|⟨hj,hx⟩)
     .obtain ⟨_,q,q1,q2,q3,q4⟩:=e6 j x hx;refine⟨by omega,q,RdD.keep st.keeps _ _ q1,q2,q3,λl hl=>?_⟩;have:(j+1)*sz<=n*sz:=xB sz q_;rw[xK,wO]at this;rw[bh _ q_,zD q_,q4 l hl]
     .obtain ⟨h0,q,q1,q2,q3,q4⟩:=xr _ x hx;refine⟨by omega,q,RdD.keep st.keeps _ _ q1,q2,q3,λl hl=>?_⟩;have e1:j*sz=n*sz+(j-n)*sz:=by rw[<-xK];congr 1;omega
      have:(j-n+1)*sz<=m*sz:=xB sz q_;rw[xK,wO]at this;rw[bh _ q_,zE q_,<-q4 l hl];congr 1;omega
   .rcases iw with ⟨rfl,cw,a',c',he⟩|⟨b2,o2,c2,db,he,g1,g2,g3,g4⟩
    .obtain ⟨q1,q2,q3,q4⟩:=jy [] cap y_ (λj x _ hj=>yA hj q_);refine⟨_,_,_,?_,q1,q2,q3,.inr q4⟩;have hc:=pw w.drew (λ_ _=>rfl);have py:=ni cap q_;have jz:¬(9223372036854775807<(m:Int)):=by omega
     have vq:¬(m<=cap):=by omega
     have q9:=run_firstCells_some (P:=P) w.drew sz 0 ⟨b,0,none⟩ 0 cap [] y_ (λj v hj=>by simp at hj);simp only[wF]at py|-;simp[Builtin.append_,run_underlying ht,sizeOf,typeInfo,zeroValue,ff,bg,hz,Builtin.lenOf,vq,jz,py,Question.forced,q9,hc,newRow,grownCap]
    .cases he;obtain ⟨q1,q2,q3,q4⟩:=jy db cap g1 (λj x hx hj=>(g4 j x hx).2);refine⟨_,_,_,?_,q1,q2,q3,.inr q4⟩;have hc:=pw w.drew (λ_ _=>rfl);have py:=ni cap q_;have jz:¬(9223372036854775807<(n:Int)+(m:Int)):=by omega
     have q9:=run_firstCells_some (P:=P) w.drew sz n ⟨b,0,none⟩ n cap db g1 (λ j v hj=>by
      have:=g3 j v hj;rw[Addr.add_lit];simpa using this)
     simp[Builtin.append_,run_underlying ht,sizeOf,typeInfo,zeroValue,ff,bg,hz,Builtin.lenOf,a7,jz,py,Question.forced,q9,hc,newRow,grownCap];congr 2;apply Array.ext';simp[xF]
def dE{P:Program}:∀{fs:List Field} {r:List (Nat×Nat)} {f:Nat} {o n:Nat},Ij P fs r->r[f]? = some (o,n)->∃x,fs[f]? = some x/\x.offset=o/\(P.info? x.type).map (·.size)=some n
 |[],[],f,o,n,_,h=>by simp at h
 |[],_::_,f,o,n,h,_=>by simp[Ij]at h
 |_::_,[],f,o,n,h,_=>by simp[Ij]at h
 |x::fs,(o',n')::r,0,o,n,h,h'=>by
  simp only[Ij]at h;simp only[tN,Option.some.injEq,Prod.mk.injEq]at h';exact⟨x,by simp,by rw[h.1];exact h'.1,by rw[h.2.1,h'.2]⟩
 |x::fs,(o',n')::r,f+1,o,n,h,h'=>by
  simp only[Ij]at h;obtain ⟨y,h1,h2⟩:=dE (f:=f) h.2.2 (kS h');exact⟨y,kS h1,h2⟩
def Vu{P:Program}(Γ:Ty P){t:TypeId}{ti:TI}{fs:List (Nat×Nat)}{f o n:Nat}(ht:Γ.get t=some ti)(hk:ti.k=.struct fs)(hf:fs[f]? = some (o,n))(hn:n≠0)(w:World)(b off:Nat):(Instr.fieldAt t (.pointer (some ⟨b,off,none⟩)) f).run P w=.ok (.pointer (some ⟨b,off+o,none⟩)) w:=by
 obtain ⟨d,info,z,k1,k2,k3,k4,k5,k6⟩:=Γ.ok t ti ht;rw[hk]at k2;simp only[TK.ok]at k2;obtain ⟨a,rfl,k2⟩:=k2;obtain ⟨x,h1,h2,h3⟩:=dE k2 hf;obtain ⟨ix,h4,h5⟩:∃ix,P.info? x.type=some ix/\ix.size=n:=by
  cases hh:P.info? x.type with
  |none=>rw[hh]at h3;cases h3
  |some ix=>rw[hh]at h3;exact⟨ix,rfl,kS h3⟩
 have h1':a[f]? = some x:=kS h1;simp[Instr.fieldAt,run_underlying k1,h1',Instr.sureAddr,fieldPlace,sizeOf,typeInfo,h4,h5,hn,Addr.add_lit,h2]
def Lj{P:Program}(Γ:Ty P){o:Oper}{s:SS}{t:TypeId}{ti:TI}{fs:List (Nat × Nat)}{x:Operand}{f fo fn:Nat}(h:o.op=.fieldAddr t x f)(ht:Γ.get t=some ti)(hk:ti.k=.struct fs)(hf:fs[f]? = some (fo,fn))(hn:fn≠0){y:SV}{rd:List Nat}(hy:(∃ k off l,ev s x=.ptr k off/\s.h k=.box l/\rd=[k]/\y=.ptr k (off+fo))\/(∃ sz z off,ev s x=.ref sz z off/\rd=[]/\y=.ref sz z (off+fo)) \/
   (∃ k sz i off,ev s x=.rpt k sz i off/\(∀ r w,ObOK r w k (s.h k)->∃ b n c,r k=.row b n c)/\rd=[k]/\y=.rpt k sz i (off+fo))):Good P o s ⟨y,rd,[]⟩ :=
 Good.pure λr a w _ hr ho=>by
  have h1:=hr x (by simp[h,Op.operands]);rcases hy with ⟨k,off,l,hx,hl,rfl,rfl⟩|⟨sz,z,off,hx,rfl,rfl⟩|⟨k,sz,i,off,hx,hl,rfl,rfl⟩
  .have h2:=ho k y_;rw[hl]at h2;obtain ⟨b,cs,T,fr,e1,_⟩:=h2;rw[hx]at h1;simp only[Rd,e1]at h1;exact⟨.pointer (some ⟨b,off+fo,none⟩),by simp[execOp,h,h1,Vu Γ ht hk hf hn],by simp[Rd,e1]⟩
  .rw[hx]at h1;simp only[Rd,RdD]at h1;obtain ⟨b,oo,u,e1,e2⟩:=h1;refine⟨.pointer (some ⟨b,oo+off+fo,none⟩),by simp[execOp,h,e1,Vu Γ ht hk hf hn],?_⟩;simp only[Rd,RdD];exact⟨b,oo,u,by rw[uG],e2⟩
  .obtain ⟨b,n,c,e1⟩:=hl r w (ho k y_);rw[hx]at h1;simp only[Rd,e1]at h1;exact⟨.pointer (some ⟨b,i*sz+off+fo,none⟩),by simp[execOp,h,h1,Vu Γ ht hk hf hn],by simp[Rd,e1,uG]⟩
def Hd{P:Program}{o:Oper}{s:SS}{x:Operand}{rd:List Nat}(h:o.op=.nilCheck x)(hy:(∃ k off l,ev s x=.ptr k off/\s.h k=.box l/\rd=[k])\/(∃ sz z off,ev s x=.ref sz z off/\rd=[])\/(∃ f first cap,ev s x=.clo (.func f) first cap/\rd=[]) \/
   (∃ k sz i off,ev s x=.rpt k sz i off/\(∀ r w,ObOK r w k (s.h k)->∃ b n c,r k=.row b n c)/\rd=[k])):Good P o s ⟨ev s x,rd,[]⟩ :=
 Good.pure λr a w _ hr ho=>by
  have h1:=hr x (by simp[h,Op.operands]);refine⟨a.eval x,?_,h1⟩;rcases hy with ⟨k,off,l,hx,hl,rfl⟩|⟨sz,z,off,hx,rfl⟩|⟨f,first,cap,hx,rfl⟩|⟨k,sz,i,off,hx,hl,rfl⟩
  .have h2:=ho k y_;rw[hl]at h2;obtain ⟨b,cs,T,fr,e1,_⟩:=h2;rw[hx]at h1;simp only[Rd,e1]at h1;simp[execOp,h,h1]
  .rw[hx]at h1;simp only[Rd,RdD]at h1;obtain ⟨b,oo,u,e1,e2⟩:=h1;simp[execOp,h,e1]
  .rw[hx]at h1;simp only[Rd]at h1;obtain ⟨fs,cs,e1,_⟩:=h1;simp[execOp,h,e1]
  .obtain ⟨b,n,c,e1⟩:=hl r w (ho k y_);rw[hx]at h1;simp only[Rd,e1]at h1;simp[execOp,h,h1]
def Cu{P:Program}(Γ:Ty P){t:TypeId}{ti:TI}{e:TypeId}{sz eb:Nat}{ez:List Value}(ht:Γ.get t=some ti)(hk:ti.k=.slice e sz eb ez):P.underlying t=some (.slice e)/\∃i z,P.info? e=some i/\i.size=sz/\i.bytes=eb/\i.zero=some z/\z.cells.toList=ez:=by
 obtain ⟨d,info,z,k1,k2,k3,k4,k5,k6⟩:=Γ.ok t ti ht;rw[hk]at k2;simp only[TK.ok]at k2;obtain ⟨rfl,k2⟩:=k2;exact⟨k1,k2⟩
def Li{P:Program}(Γ:Ty P){o:Oper}{s:SS}{t:TypeId}{ti:TI}{et:TypeId}{sz eb:Nat}{ez:List Value}{x y:Operand}{ik:IntKind}{n:Int}{m:Type}{e:m->SV}{l:List m}(h:o.op=.indexAddr t x y)(ht:Γ.get t=some ti)(hk:ti.k=.slice et sz eb ez)(hx:ev s x=.sl sz e l)(hy:ev s y=.val (.int ik n))(h0:0<=n)(hn:n.toNat<l.length):Good P o s ⟨.ref sz (e l[n.toNat]) 0,[],[]⟩ :=
 Good.pure λr a w _ hr _=>by
  have h1:=hr x (by simp[h,Op.operands]);have h2:=hr y (by simp[h,Op.operands]);rw[hx]at h1;rw[hy]at h2;obtain ⟨hu,i,z,q1,q2,q3,q4,q5⟩:=Cu Γ ht hk;simp only[Rd,RdD]at h1;rcases h1 with ⟨rfl,_⟩|⟨b,off,cap,e1,e0,e2,e3,e4⟩
  .simp at hn
  .obtain ⟨u,e5,e6⟩:=e4 n.toNat hn;have ab:n<l.length:=by omega
   refine⟨.pointer (some ⟨b,off+n.toNat*sz,none⟩),?_,?_⟩
   .simp[execOp,h,e1,h2.val,Instr.indexAt,run_underlying hu,asIntOf,h0,ab,sizeOf,typeInfo,q1,q2,Addr.add_lit]
   .simp only[Rd,RdD];exact⟨b,off+n.toNat*sz,u,E,e2,e3,e5,e6⟩
def Ob.len:Ob->Option Nat
 | .row _ _ l=>some l.length
 | .lit _ svs=>some svs.length
 | .rown _ _ l _ _=>some l.length
 |_=>none
theorem Ob.len_ok{r:Ka}{w:World}{k n:Nat}:∀{ob:Ob} {v:Value},ob.len=some n->ObOK r w k ob->Rd r w (.osl k) v->∃a cap,v=.slice a n cap/\(n≠0->∃b c,r k=.row b n c/\a=some ⟨b,0,none⟩)
 | .row sz e l,v,hn,h,hv=>by
  simp only[Ob.len,Option.some.injEq]at hn;rcases h with ⟨h1,h2⟩|⟨b,cap,cs,T,fr,h1,_⟩
  .simp only[Rd,h1]at hv;subst h2;simp at hn;exact⟨none,0,by rw[hv,hn],λh=>yA hn.symm h⟩
  .simp only[Rd,h1]at hv;rw[hn]at h1 hv;exact⟨_,cap,hv,λ_=>⟨b,cap,h1,E⟩⟩
 | .lit sz l,v,hn,h,hv=>by
  simp only[Ob.len,Option.some.injEq]at hn;obtain ⟨b,cap,cs,T,fr,h1,_⟩:=h;simp only[Rd,h1]at hv;rw[hn]at h1 hv;exact⟨_,cap,hv,λ_=>⟨b,cap,h1,E⟩⟩
 | .fresh,_,hn,_,_=>by cases hn
 | .non,_,hn,_,_=>by cases hn
 | .box _,_,hn,_,_=>by cases hn
 | .glob ..,_,hn,_,_=>by cases hn
 | .pin ..,_,hn,_,_=>by cases hn
 | .dat ..,_,hn,_,_=>by cases hn
 | .tbox ..,_,hn,_,_=>by cases hn
 | .trow ..,_,hn,_,_=>by cases hn
 | .rown sz e l i cl,v,hn,h,hv=>by
  simp only[Ob.len,Option.some.injEq]at hn;obtain ⟨b,cap,cs,T,fr,h1,_⟩:=h;simp only[Rd,h1]at hv;rw[hn]at h1 hv;exact⟨_,cap,hv,λ_=>⟨b,cap,h1,E⟩⟩
def Ke{P:Program}(Γ:Ty P){o:Oper}{s:SS}{t:TypeId}{ti:TI}{et:TypeId}{sz eb len:Nat}{ez:List Value}{x y:Operand}{ik:IntKind}{n:Int}{k:Nat}(h:o.op=.indexAddr t x y)(ht:Γ.get t=some ti)(hk:ti.k=.slice et sz eb ez)(hx:ev s x=.osl k)(hl:(s.h k).len=some len)(hy:ev s y=.val (.int ik n))(h0:0<=n)(hn:n.toNat<len):Good P o s ⟨.rpt k sz n.toNat 0,[k],[]⟩ :=
 Good.pure λr a w _ hr ho=>by
  have h1:=hr x (by simp[h,Op.operands]);have h2:=hr y (by simp[h,Op.operands]);rw[hx]at h1;rw[hy]at h2;obtain ⟨hu,i,z,q1,q2,q3,q4,q5⟩:=Cu Γ ht hk;obtain ⟨ad,cap,e1,e2⟩:=Ob.len_ok hl (ho k y_) h1;obtain ⟨b,c,e3,rfl⟩:=e2 q_;have ab:n<len:=by omega
  refine⟨.pointer (some ⟨b,n.toNat*sz,none⟩),?_,by simp[Rd,e3]⟩;simp[execOp,h,e1,h2.val,Instr.indexAt,run_underlying hu,asIntOf,h0,ab,sizeOf,typeInfo,q1,q2,Addr.add_lit]
def Ac1{P:Program}(Γ:Ty P){o:Oper}{s:SS}{t:TypeId}{ti:TI}{x:Operand}{at_:Array TypeId}{n:Nat}{rd:List Nat}(h:o.op=.call ⟨.builtin .len,#[x],at_⟩)(gy:at_[0]? = some t)(ht:Γ.get t=some ti){et:TypeId}{sz eb:Nat}{ez:List Value}(hk:ti.k=.slice et sz eb ez)(hx:(∃(z:Nat) (m:Type) (e:m->SV) (l:List m),ev s x=.sl z e l/\n=l.length/\rd=[])\/(∃k,ev s x=.osl k/\(s.h k).len=some n/\rd=[k])\/(∃a c,ev s x=.val (.slice a n c)/\rd=[])):Good P o s ⟨.val (.int .i64 n),rd,[]⟩ :=
 Good.pure λr a w _ hr ho=>by
  have h1:=hr x (by simp[h,Op.operands,Call.operands]);obtain ⟨hu,i,z,q1,q2,q3,q4,q5⟩:=Cu Γ ht hk;have key:∃ad cap,a.eval x=.slice ad n cap:=by
   rcases hx with ⟨z,m,e,l,hx,rfl,rfl⟩|⟨k,hx,hl,rfl⟩|⟨ad,c,hx,rfl⟩
   .rw[hx]at h1;simp only[Rd,RdD]at h1;rcases h1 with ⟨rfl,ad,cap,e1⟩|⟨b,off,cap,e1,_⟩
    .exact⟨ad,cap,e1⟩
    .exact⟨_,cap,e1⟩
   .rw[hx]at h1;obtain ⟨ad,cap,e1,_⟩:=Ob.len_ok hl (ho k y_) h1;exact⟨ad,cap,e1⟩
   .rw[hx]at h1;exact⟨ad,c,h1.val⟩
  obtain ⟨ad,cap,e1⟩:=key;refine⟨.int .i64 n,?_,by simp[Rd]⟩;simp[execOp,h,resolve,invoke,builtin,Builtin.len_,gy,e1,run_underlying hu,goInt]
def oW{P:Program}(Γ:Ty P){o:Oper}{s:SS}{t:TypeId}{ti:TI}{x:Operand}{at_:Array TypeId}{b:ByteArray}(h:o.op=.call ⟨.builtin .len,#[x],at_⟩)(gy:at_[0]? = some t)(ht:Γ.get t=some ti)(hk:ti.k=.string)(hx:ev s x=.val (.string b)):Good P o s ⟨.val (.int .i64 b.size),[],[]⟩ :=
 Good.pure λr a w _ hr ho=>by
  have h1:=hr x (by simp[h,Op.operands,Call.operands]);rw[hx]at h1;obtain ⟨d,info,z,k1,k2,k3,k4,k5,k6⟩:=Γ.ok t ti ht;rw[hk]at k2;simp only[TK.ok]at k2;subst k2;refine⟨.int .i64 b.size,?_,by simp[Rd]⟩;simp[execOp,h,resolve,invoke,builtin,Builtin.len_,gy,h1.val,run_underlying k1,goInt]
def A19{P:Program}{o:Oper}{s:SS}{t:TypeId}{x:Operand}{b:Bool}(h:o.op=.unOp .not t x)(hx:ev s x=.val (.bool b)):Good P o s ⟨.val (.bool (!b)),[],[]⟩ :=
 Good.pure λk a w _ hr _=>by
  have h1:=hr x (by simp[h,Op.operands]);rw[hx]at h1;exact⟨.bool (!b),by simp[execOp,h,h1.val,Op.unary],by simp[Rd]⟩
def A2a{P:Program}{o:Oper}{s:SS}{t:TypeId}{x:Operand}{k:IntKind}{n:Int}(h:o.op=.unOp .neg t x)(hx:ev s x=.val (.int k n)):Good P o s ⟨.val (.int k (k.wrap (0-n))),[],[]⟩ :=
 Good.pure λb a w _ hr _=>by
  have h1:=hr x (by simp[h,Op.operands]);rw[hx]at h1;exact⟨.int k (k.wrap (0-n)),by simp[execOp,h,h1.val,Op.unary,Op.intArith],by simp[Rd]⟩
def fV{P:Program}(Γ:Ty P){o:Oper}{s:SS}{src dst:TypeId}{si di:TI}{x:Operand}{k k':IntKind}{n:Int}(h:o.op=.convert src dst x)(hs:Γ.get src=some si)(hd:Γ.get dst=some di)(hk:di.k=.int k')(hx:ev s x=.val (.int k n)):Good P o s ⟨.val (.int k' (k'.wrap n)),[],[]⟩ :=
 Good.pure λb a w _ hr _=>by
  have h1:=hr x (by simp[h,Op.operands]);rw[hx]at h1;obtain ⟨d,info,z,k1,k2,_⟩:=Γ.ok dst di hd;obtain ⟨d',yp,z',k1',_⟩:=Γ.ok src si hs;rw[hk]at k2;simp only[TK.ok]at k2;subst k2;exact⟨.int k' (k'.wrap n),by simp[execOp,h,h1.val,convert,run_underlying k1,run_underlying k1',Conv.intToInt],by simp[Rd]⟩
def Yl{P:Program}(Γ:Ty P){o:Oper}{s:SS}{src dst:TypeId}{si di:TI}{x:Operand}{b:ByteArray}(h:o.op=.convert src dst x)(hs:Γ.get src=some si)(hd:Γ.get dst=some di)(kr:si.k=.string)(hk:di.k=.string)(hx:ev s x=.val (.string b)):Good P o s ⟨.val (.string b),[],[]⟩ :=
 Good.pure λr a w _ hr _=>by
  have h1:=hr x (by simp[h,Op.operands]);rw[hx]at h1;obtain ⟨d,info,z,k1,k2,_⟩:=Γ.ok dst di hd;obtain ⟨d',yp,z',k1',k2',_⟩:=Γ.ok src si hs;rw[hk]at k2;rw[kr]at k2';simp only[TK.ok]at k2 k2';subst k2 k2';exact⟨.string b,by simp[execOp,h,h1.val,convert,run_underlying k1,run_underlying k1'],by simp[Rd]⟩
theorem RdL.getT{k:Ka}{w:World}{n:Nat}{l:List SV}{cs:List Value}{x:SV}(h:RdL k w l cs)(hg:Iu l n=some x):∃v,cs.toArray[n]? = some v/\Rd k w x v:=by
 obtain ⟨v,h1,h2⟩:=h.get hg;exact⟨v,kS h1,h2⟩
def Ai2{P:Program}{o:Oper}{s:SS}{x:Operand}{i:Nat}{l:List SV}{y:SV}(h:o.op=.extract x i)(hx:ev s x=.tup l)(hy:Iu l i=some y):Good P o s ⟨y,[],[]⟩ :=
 Good.pure λk a w _ hr _=>by
  have h1:=hr x (by simp[h,Op.operands]);rw[hx]at h1;simp only[Rd]at h1;obtain ⟨cs,e1,e2⟩:=h1;obtain ⟨v,e3,e4⟩:=e2.getT hy;exact⟨v,by simp[execOp,h,e1,Instr.extract]at e3|-;simp[e3],e4⟩
def Z8{P:Program}(Γ:Ty P){o:Oper}{s:SS}{t:TypeId}{ti:TI}{x:Operand}(h:o.op=.makeInterface t x)(ht:Γ.get t=some ti)(hk:ti.k matches .bool| .int _| .string| .slice .. | .struct _| .ptr| .func):Good P o s ⟨.ifc t (ev s x),[],[]⟩ :=
 Good.pure λr a w _ hr _=>by
  have h1:=hr x (by simp[h,Op.operands]);obtain ⟨d,info,z,k1,k2,_⟩:=Γ.ok t ti ht;refine⟨.iface t (a.eval x),?_,by simp only[Rd];exact⟨_,E,h1⟩⟩;obtain ⟨k,n,zz⟩:=ti;cases k<;>simp only[TK.ok]at k2<;>first
   |(subst k2;simp[execOp,h,Instr.makeInterface,run_underlying k1];done)
   |(obtain ⟨a,rfl,_⟩:=k2;simp[execOp,h,Instr.makeInterface,run_underlying k1];done)
   |(obtain ⟨rfl,_⟩:=k2;simp[execOp,h,Instr.makeInterface,run_underlying k1];done)
   |(obtain ⟨a,b,c,rfl⟩:=k2;simp[execOp,h,Instr.makeInterface,run_underlying k1];done)
   |(obtain ⟨a,rfl⟩:=k2;simp[execOp,h,Instr.makeInterface,run_underlying k1];done)
   |simp at hk
def Sa{k:Ka}{w:World}{s:SS}{a:Act}:∀(xs:List Operand),(∀x∈xs,Rd k w (ev s x) (a.eval x))->RdL k w (xs.map (ev s)) (xs.map a.eval)
 |[],_=>by simp[RdL]
 |x::xs,h=>by
  simp only[xV,RdL];exact⟨_,_,E,h x y_,Sa xs (λy hy=>h y (by simp[hy]))⟩
def Ae5{P:Program}{o:Oper}{s:SS}{fn:Fn}{ys xs:List Operand}(h:o.op=.makeFunc fn ys.toArray xs.toArray):Good P o s ⟨.clo fn (ys.map (ev s)) (xs.map (ev s)),[],[]⟩ :=
 Good.pure λk a w _ hr _=>by
  refine⟨.func fn (ys.map a.eval).toArray (xs.map a.eval).toArray,by simp[execOp,h,Instr.makeFunc],?_⟩;simp only[Rd];exact⟨_,_,E,Sa ys (λx hx=>hr x (by simp[h,Op.operands,hx])),Sa xs (λx hx=>hr x (by simp[h,Op.operands,hx]))⟩
end Go.Sy
