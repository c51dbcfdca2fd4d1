/- Parts of a proof. -/
import Derived.WalkKit
import Derived.Deep.LoopGhost
set_option linter.all false
namespace Go
abbrev zD:=@if_neg
abbrev zE:=@if_pos
abbrev zG:=@Bool.and_eq_true
abbrev zH:=@congrArg
abbrev zI:=@List.getElem_mem
abbrev zJ:=@decide_eq_false
abbrev zK:=@decide_eq_true_eq
abbrev zL:=@decide_eq_true
abbrev zO:=@of_decide_eq_true
abbrev zQ:=@of_decide_eq_false
abbrev zR:=@List.length_append
abbrev zT:=@List.getElem?_eq_getElem
abbrev zU:=@beq_eq_false_iff_ne
abbrev zW:=@absurd
abbrev zX:=@List.mem_singleton
abbrev zY:=@List.length_take
abbrev zZ:=@List.take_succ_eq_append_getElem
abbrev yA:=@Int.toNat_natCast
abbrev yB:=@Bool.true_and
abbrev yC:=@decide_eq_false_iff_not
abbrev yD:=@List.length_singleton
abbrev yE:=@Bool.false_and
abbrev yF:=@List.eq_nil_of_length_eq_zero
abbrev yG:=@Nat.le_refl
abbrev yH:=@List.mem_cons
abbrev yI:=@List.length_cons
abbrev yJ:=@List.mem_append
abbrev yK:=@List.drop_eq_getElem_cons
abbrev yL:=@beq_iff_eq
abbrev yM:=@List.take_length
abbrev yN:=@Nat.eq_of_beq_eq_true
abbrev yO:=@List.length_set
abbrev yP:=@List.length_drop
abbrev yQ:=@Int.toNat_of_nonneg
abbrev yR:=@Bool.or_eq_true
abbrev yS:=@List.length_map
abbrev yT:=@List.mem_map
abbrev yU:=@Nat.mul_le_mul_right
abbrev yV:=@List.append_nil
abbrev yW:=@List.append_assoc
abbrev yX:=@List.all_eq_true
abbrev yY:=@List.mem_iff_getElem
abbrev yZ:=@List.getElem_append_left
abbrev xA:=@Nat.add_mul
abbrev xB:=@Nat.lt_of_lt_of_le
abbrev xC:=@Bool.and_eq_false_iff
abbrev xD:=@List.mem_range
abbrev xF:=@bne_iff_ne
abbrev xG:=@List.length_nil
abbrev xH:=@Bool.not_eq_true'
abbrev xI:=@List.take_of_length_le
abbrev xJ:=@List.not_mem_nil
abbrev xK:=@Int.eq_ofNat_of_zero_le
abbrev xM:=@List.getElem?_append_left
abbrev xN:=@Nat.mod_eq_of_lt
abbrev xO:=@List.nil_append
abbrev xP:=@List.length_pos_iff
abbrev xQ:=@Bool.not_eq_eq_eq_not
abbrev xR:=@List.map_cons
abbrev xS:=@List.foldl_append
abbrev xU:=@Nat.zero_add
abbrev xV:=@Nat.zero_le
abbrev xW:=@List.getElem_append_right
abbrev xX:=@Nat.two_pow_add_eq_or_of_lt
abbrev xY:=@Bool.eq_iff_iff
abbrev xZ:=@List.flatMap_cons
abbrev wA:=@List.any_eq_true
abbrev wB:=@Int.le_refl
abbrev wC:=@Nat.one_mul
abbrev wD:=@List.getElem?_append_right
abbrev wE:=@List.any_eq_false
abbrev wF:=@List.cons_append
abbrev wG:=@Nat.le_of_ble_eq_true
abbrev wH:=@List.getElem_of_mem
abbrev wI:=@Nat.le_trans
abbrev wJ:=@List.findIdx?_eq_some_iff_getElem
abbrev wK:=@List.mem_of_mem_take
abbrev wL:=@List.getD_eq_getElem?_getD
abbrev wM:=@Int.fdiv_eq_ediv_of_nonneg
abbrev wN:=@List.getElem_take
abbrev wO:=@List.drop_length
abbrev wP:=@List.map_append
abbrev wQ:=@Array.getElem?_eq_some_iff
abbrev wR:=@Bool.and_false
abbrev wS:=@List.length_replicate
abbrev wT:=@Bool.true_or
abbrev wU:=@List.length_eq_zero_iff
abbrev wV:=@Array.length_toList
abbrev wW:=@List.range_succ
abbrev wX:=@List.getElem?_map
abbrev wY:=@Bool.or_eq_false_iff
abbrev wZ:=@List.getElem?_eq_none
abbrev vA:=@Bool.not_false
abbrev vB:=@List.take_append_of_le_length
abbrev vC:=@Nat.pow_le_pow_right
abbrev vD:=@Nat.lt_or_ge
abbrev vE:=@Bool.not_eq_false'
abbrev vF:=@Nat.one_le_two_pow
abbrev vG:=@List.foldl_cons
abbrev vH:=@or_false
abbrev vI:=@Bool.false_or
abbrev vJ:=@Nat.mul_comm
abbrev vK:=@Array.getD_eq_getD_getElem?
abbrev vM:=@List.mem_filterMap
abbrev vN:=@Int.tdiv_eq_ediv_of_nonneg
abbrev vO:=@Option.map_some
abbrev vP:=@List.drop_eq_nil_of_le
abbrev vQ:=@List.pairwise_iff_getElem
abbrev vR:=@List.map_congr_left
abbrev vS:=@List.getElem_drop
abbrev vT:=@List.length_range
abbrev vU:=@List.take_add_one
abbrev vV:=@Array.getElem?_toList
abbrev vW:=@List.map_nil
abbrev vX:=@List.getElem?_take
abbrev vY:=@not_or
abbrev vZ:=@List.pairwise_cons
abbrev uA:=@List.set_cons_zero
abbrev uB:=@Int.natCast_nonneg
abbrev uC:=@List.getElem_set
abbrev uD:=@Nat.add_assoc
abbrev uE:=@Int.tmod_eq_emod_of_nonneg
abbrev uF:=@List.getElem?_set_self
abbrev uG:=@List.getElem?_range
abbrev uH:=@List.replicate_succ
abbrev uI:=@Nat.div_add_mod
abbrev uJ:=@Array.getElem?_eq_getElem
abbrev uK:=@List.set_append_right
abbrev uL:=@Bool.cond_eq_ite
abbrev uM:=@Nat.eq_zero_or_pos
abbrev uN:=@Nat.and_two_pow_sub_one_eq_mod
abbrev uO:=@Nat.add_zero
abbrev uP:=@Bool.and_true
abbrev uQ:=@List.mem_of_mem_eraseIdx
abbrev uR:=@List.set_eq_of_length_le
abbrev uS:=@List.dropLast_concat_getLast
abbrev uT:=@Array.getElem?_eq_none
abbrev uU:=@Nat.sub_self
abbrev uV:=@List.getElem?_toArray
abbrev uW:=@List.length_filter_le
abbrev uX:=@List.getElem_set_self
abbrev uY:=@List.set_getElem_self
abbrev uZ:=@List.getElem?_eq_some_iff
abbrev tA:=@List.mem_or_eq_of_mem_set
abbrev tB:=@Int.natCast_pow
abbrev tC:=@List.size_toArray
abbrev tD:=@Nat.mul_one
abbrev tE:=@List.getElem?_set
abbrev tF:=@Nat.le_succ
abbrev tG:=@List.length_dropLast
abbrev tH:=@List.length_filterMap_le
abbrev tI:=@List.mk_mem_zipIdx_iff_getElem?
abbrev tJ:=@List.length_reverse
abbrev tK:=@List.getElem?_cons_zero
abbrev tL:=@List.ext_getElem
abbrev tM:=@List.filter_cons_of_pos
abbrev tN:=@List.foldl_nil
abbrev tO:=@List.getElem_map
abbrev tP:=@Nat.add_comm
abbrev tQ:=@Nat.mod_lt
abbrev tR:=@List.map_map
abbrev tS:=@Bool.false_ne_true
abbrev tT:=@Nat.beq_refl
abbrev tU:=@Nat.div_div_eq_div_mul
abbrev tV:=@Nat.pow_succ
abbrev tW:=@List.getElem_cons_succ
abbrev tX:=@List.getElem_cons_zero
abbrev tY:=@Bool.or_true
abbrev tZ:=@List.any_cons
def kU{P:Prop}(h:P:=by
 refine⟨?_,?_,rfl,rfl⟩
 .repeat (first|exact trivial|exact rfl|refine⟨rfl,rfl,?_⟩)
 .repeat (first | exact trivial | refine⟨.inl rfl,rfl,?_⟩ | refine⟨.inr rfl,rfl,?_⟩)):P:=h
def kA{P:Prop}(h:P:=by repeat (first|exact trivial|exact rfl|refine⟨rfl,?_⟩)):P:=h
def kB{P:Prop}(h:P:=by repeat (first|exact trivial|refine⟨.inl rfl,?_⟩|refine⟨.inr rfl,?_⟩)):P:=h
def kO{P:Prop}(h:P:=by simp;omega):P:=h
def kE{k:Sort _}(a:k):∃x,a=x:=⟨a,rfl⟩
def kS{P Q:Prop}(h:P)(e:P->Q:=by intro h;simpa using h):Q:=e h
end Go
namespace Go.Sy
def q_{k : Sort _}{a : k} : a = a := rfl
def z_ : True := trivial
def j_{p:Prop}(h:p:=by omega):p:=h
def y_{k:Sort _}{a b:k}(h:a=b:=by kernel_rfl):a=b:=h
def qq{p:Prop}(h:p:=by decide):p:=h
def qx{p:Prop}(h:p:=by simp):p:=h
inductive SV:Type 1
 |top
 |val (v:Value)
 |agg (l:List SV)
 |tup (l:List SV)
 |sl (sz:Nat) {α:Type} (e:α->SV) (l:List α)
 |ref (sz:Nat) (x:SV) (off:Nat)
 |ptr (k:Nat) (off:Nat)
 |rpt (k:Nat) (sz i off:Nat)
 |osl (k:Nat)
 |ifc (t:TypeId) (x:SV)
 |clo (fn:Fn) (first cap:List SV)
abbrev Jl:SV:=.val (.slice none 0 0)
inductive Ent
 |new
 |dead
 |blk (b:Nat)
 |row (b len cap:Nat)
 |nil
def Ent.block?:Ent->Option Nat
 | .blk b=>some b
 | .row b _ _=>some b
 |_=>none
structure Ka where
 bd:Nat->Ent
 M:Nat->Prop
instance:CoeFun Ka (λ_=>Nat->Ent):=⟨Ka.bd⟩
def Own(a:Ka)(b:Nat):Prop:=(∃k,(a k).block? = some b)\/a.M b
def Hd(cs:List Value):Prop:=∀c∈cs,c.oneCell'=true
def Aa4(w:World)(b off sz:Nat)(u:Value):Prop:=u.cells.size=sz/\Hd u.cells.toList/\∀j,j<sz->w.cell? ⟨b,off+j,none⟩=u.cells[j]?
mutual
def D3(M:Nat->Prop)(w:World):SV->Value->Prop
 | .top,_=>True
 | .val u,v=>v=u
 | .agg l,v=>∃cs:List Value,v=.agg cs.toArray/\Hd cs/\Uz M w l cs
 | .tup l,v=>∃cs:List Value,v=.tuple cs.toArray/\Uz M w l cs
 | .sl sz e l,v=>(l=[]/\∃a cap,v=.slice a 0 cap) \/
   ∃b off cap,v=.slice (some ⟨b,off,none⟩) l.length cap/\l.length<=cap/\¬M b/\b<w.heap.size/\∀i (h:i<l.length),∃u,D3 M w (e l[i]) u/\Aa4 w b (off+i*sz) sz u
 | .ref sz x off,v=>∃b o u,v=.pointer (some ⟨b,o+off,none⟩)/\¬M b/\b<w.heap.size/\D3 M w x u/\Aa4 w b o sz u
 | .ptr _ _,_=>False
 | .rpt _ _ _ _,_=>False
 | .osl _,_=>False
 | .ifc t x,v=>∃u,v=.iface t u/\D3 M w x u
 | .clo fn first cap,v=>∃g cs:List Value,v=.func fn g.toArray cs.toArray/\Uz M w first g/\Uz M w cap cs
def Uz(M:Nat->Prop)(w:World):List SV->List Value->Prop
 |[],vs=>vs=[]
 |x::l,vs=>∃v r,vs=v::r/\D3 M w x v/\Uz M w l r
end
mutual
def Rd(a:Ka)(w:World):SV->Value->Prop
 | .top,_=>True
 | .val u,v=>v=u
 | .agg l,v=>∃cs:List Value,v=.agg cs.toArray/\Hd cs/\B8 a w l cs
 | .tup l,v=>∃cs:List Value,v=.tuple cs.toArray/\B8 a w l cs
 | .sl sz e l,v=>D3 (Own a) w (.sl sz e l) v
 | .ref sz x off,v=>D3 (Own a) w (.ref sz x off) v
 | .ptr k off,v=>match a k with
  | .dead=>v.oneCell'=true
  | .blk b=>v=.pointer (some ⟨b,off,none⟩)
  |_=>False
 | .rpt k sz i off,v=>match a k with
  | .dead=>v.oneCell'=true
  | .row b _ _=>v=.pointer (some ⟨b,i*sz+off,none⟩)
  |_=>False
 | .osl k,v=>match a k with
  | .dead=>v.oneCell'=true
  | .row b len cap=>v=.slice (some ⟨b,0,none⟩) len cap
  | .nil=>v=.slice none 0 0
  |_=>False
 | .ifc t x,v=>∃u,v=.iface t u/\Rd a w x u
 | .clo fn first cap,v=>∃g cs:List Value,v=.func fn g.toArray cs.toArray/\B8 a w first g/\B8 a w cap cs
def B8(k:Ka)(w:World):List SV->List Value->Prop
 |[],vs=>vs=[]
 |x::l,vs=>∃v r,vs=v::r/\Rd k w x v/\B8 k w l r
end
structure Bdt(M M':Nat->Prop)(w w':World):Prop where
 size:w.heap.size<=w'.heap.size
 blk:∀b,b<w.heap.size->¬M b->w'.heap[b]? = w.heap[b]?
 out:∀b,b<w.heap.size->¬M b->¬M' b
theorem Aa4.keep{w w':World}{b off sz:Nat}{u:Value}(h:Aa4 w b off sz u)(g:w'.heap[b]? = w.heap[b]?):Aa4 w' b off sz u :=
 ⟨h.1,h.2.1,λj i=>(World.cell?_of_block (w:=w) (a:=⟨b,off+j,none⟩) g).trans (h.2.2 j i)⟩
mutual
theorem D3.keep{M P:Nat->Prop}{w w':World}(k:Bdt M P w w'):∀(x:SV) (v:Value),D3 M w x v->D3 P w' x v
 | .top,_,_=>by simp[D3]
 | .val u,v,h=>by simpa [D3] using h
 | .agg l,v,h=>by
  simp only[D3]at h|-;obtain ⟨cs,j,r,g⟩:=h;exact⟨cs,j,r,Uz.keep k l cs g⟩
 | .tup l,v,h=>by
  simp only[D3]at h|-;obtain ⟨cs,j,g⟩:=h;exact⟨cs,j,Uz.keep k l cs g⟩
 | .sl sz e l,v,h=>by
  simp only[D3]at h|-;rcases h with h|⟨b,off,cap,j,r,g,p,I⟩
  .exact .inl h
  .refine .inr ⟨b,off,cap,j,r,k.out b p g,xB p k.size,λi hi=>?_⟩;obtain ⟨u,J,h6⟩:=I i hi;exact⟨u,D3.keep k (e l[i]) u J,h6.keep (k.blk b p g)⟩
 | .ref sz x off,v,h=>by
  simp only[D3]at h|-;obtain ⟨b,o,u,j,g,p,I,J⟩:=h;exact⟨b,o,u,j,k.out b p g,xB p k.size,D3.keep k x u I,J.keep (k.blk b p g)⟩
 | .ptr _ _,_,h=>by simp[D3]at h
 | .rpt _ _ _ _,_,h=>by simp[D3]at h
 | .osl _,_,h=>by simp[D3]at h
 | .ifc t x,v,h=>by
  simp only[D3]at h|-;obtain ⟨u,j,g⟩:=h;exact⟨u,j,D3.keep k x u g⟩
 | .clo fn first cap,v,h=>by
  simp only[D3]at h|-;obtain ⟨R,cs,j,g,p⟩:=h;exact⟨R,cs,j,Uz.keep k first R g,Uz.keep k cap cs p⟩
theorem Uz.keep{M g:Nat->Prop}{w w':World}(k:Bdt M g w w'):∀(l:List SV) (vs:List Value),Uz M w l vs->Uz g w' l vs
 |[],_,h=>by simpa [Uz] using h
 |x::l,vs,h=>by
  simp only[Uz]at h|-;obtain ⟨v,r,i,j,o⟩:=h;exact⟨v,r,i,D3.keep k x v j,Uz.keep k l r o⟩
end
mutual
theorem Rd.of_data{k:Ka}{w:World}:∀(x:SV) (v:Value),D3 (Own k) w x v->Rd k w x v
 | .top,_,_=>by simp[Rd]
 | .val u,v,h=>by simpa [D3,Rd] using h
 | .agg l,v,h=>by
  simp only[D3,Rd]at h|-;obtain ⟨cs,g,o,i⟩:=h;exact⟨cs,g,o,B8.of_data l cs i⟩
 | .tup l,v,h=>by
  simp only[D3,Rd]at h|-;obtain ⟨cs,g,i⟩:=h;exact⟨cs,g,B8.of_data l cs i⟩
 | .sl sz e l,v,h=>by simpa only [Rd] using h
 | .ref sz x off,v,h=>by simpa only [Rd] using h
 | .ptr _ _,_,h=>by simp[D3]at h
 | .rpt _ _ _ _,_,h=>by simp[D3]at h
 | .osl _,_,h=>by simp[D3]at h
 | .ifc t x,v,h=>by
  simp only[D3,Rd]at h|-;obtain ⟨u,g,i⟩:=h;exact⟨u,g,Rd.of_data x u i⟩
 | .clo fn first cap,v,h=>by
  simp only[D3,Rd]at h|-;obtain ⟨j,cs,g,i,p⟩:=h;exact⟨j,cs,g,B8.of_data first j i,B8.of_data cap cs p⟩
theorem B8.of_data{k:Ka}{w:World}:∀(l:List SV) (vs:List Value),Uz (Own k) w l vs->B8 k w l vs
 |[],_,h=>by simpa [Uz,B8] using h
 |x::l,vs,h=>by
  simp only[Uz,B8]at h|-;obtain ⟨v,r,g,i,j⟩:=h;exact⟨v,r,g,Rd.of_data x v i,B8.of_data l r j⟩
end
structure Inv(κ:Ka)(w:World):Prop where
 inj:∀i j b,(κ i).block? = some b->(κ j).block? = some b->i=j
 bf:∀k b,(κ k).block? = some b->b<w.heap.size
 apart:∀k b,(κ k).block? = some b->¬κ.M b
 bh:∀b,κ.M b->b<w.heap.size
structure En(K:Nat->Prop)(κ:Ka)(w:World)(κ':Ka)(w':World):Prop where
 size:w.heap.size<=w'.heap.size
 os:w'.os=w.os
 tape:w'.tape=w.tape
 output:w'.output=w.output
 M:κ'.M=κ.M
 ce:∀b,κ.M b->w'.heap[b]? = w.heap[b]?
 blk:∀b,b<w.heap.size->¬Own κ b->w'.heap[b]? = w.heap[b]?
 bc:∀k b,¬K k->(κ k).block? = some b->w'.heap[b]? = w.heap[b]?
 bd:∀k,¬K k->κ' k=κ k
 mv:∀k,K k->κ k=.new\/κ' k=κ k\/κ' k=.dead
 fresh:∀b,Own κ' b->Own κ b\/w.heap.size<=b
theorem En.refl(K:Nat->Prop)(k:Ka)(w:World):En K k w k w :=
 ⟨yG _,rfl,rfl,rfl,rfl,λ_ _=>rfl,λ_ _ _=>rfl,λ_ _ _ _=>rfl,λ_ _=>rfl,λ_ _=>.inr (.inl rfl),λ_ h=>.inl h⟩
theorem En.ent_any{K:Nat->Prop}{a a':Ka}{w w':World}(s:En K a w a' w')(k:Nat):a k=.new\/a' k=a k\/a' k=.dead:=by
 by_cases h:K k
 .exact s.mv k h
 .exact .inr (.inl (s.bd k h))
theorem En.keeps{K:Nat->Prop}{k k':Ka}{w w':World}(s:En K k w k' w'):Bdt (Own k) (Own k') w w' :=
 ⟨s.size,s.blk,λb g h i=>(s.fresh b i).elim h (λj=>Nat.lt_irrefl _ (xB g j))⟩
theorem En.weaken{K j:Nat->Prop}{a a':Ka}{w w':World}(s:En K a w a' w')(h:∀k,K k->j k):En j a w a' w' :=
 ⟨s.size,s.os,s.tape,s.output,s.M,s.ce,s.blk,λk b g=>s.bc k b (λi=>g (h k i)),λk g=>s.bd k (λi=>g (h k i)),λk _=>s.ent_any k,s.fresh⟩
theorem En.trans{K:Nat->Prop}{k₁ k₂ k₃:Ka}{w₁ w₂ w₃:World}(s:En K k₁ w₁ k₂ w₂)(t:En K k₂ w₂ k₃ w₃):En K k₁ w₁ k₃ w₃ where
 size:=wI s.size t.size
 os:=t.os.trans s.os
 tape:=t.tape.trans s.tape
 output:=t.output.trans s.output
 M:=t.M.trans s.M
 ce b hb:=(t.ce b (by rw[s.M];exact hb)).trans (s.ce b hb)
 blk b hb h:=by
  rw[t.blk b (xB hb s.size) (s.keeps.out b hb h),s.blk b hb h]
 bc k b hk hb:=by
  rw[t.bc k b hk (by rw[s.bd k hk];exact hb),s.bc k b hk hb]
 bd k hk:=(t.bd k hk).trans (s.bd k hk)
 mv k _:=by
  rcases s.ent_any k with h|h|h
  .exact .inl h
  .rcases t.ent_any k with g|g|g
   .exact .inl (h▸g)
   .exact .inr (.inl (g.trans h))
   .exact .inr (.inr g)
  .rcases t.ent_any k with g|g|g
   .rw[h]at g;cases g
   .exact .inr (.inr (g.trans h))
   .exact .inr (.inr g)
 fresh b h:=by
  rcases t.fresh b h with h|h
  .exact s.fresh b h
  .exact .inr (wI s.size h)
mutual
theorem Rd.step{K:Nat->Prop}{a a':Ka}{w w':World}(s:En K a w a' w'):∀(x:SV) (v:Value),Rd a w x v->Rd a' w' x v
 | .top,_,_=>by simp[Rd]
 | .val u,v,h=>by simpa [Rd] using h
 | .agg l,v,h=>by
  simp only[Rd]at h|-;obtain ⟨cs,g,r,j⟩:=h;exact⟨cs,g,r,B8.step s l cs j⟩
 | .tup l,v,h=>by
  simp only[Rd]at h|-;obtain ⟨cs,g,j⟩:=h;exact⟨cs,g,B8.step s l cs j⟩
 | .sl sz e l,v,h=>by
  simp only[Rd]at h|-;exact D3.keep s.keeps _ _ h
 | .ref sz x off,v,h=>by
  simp only[Rd]at h|-;exact D3.keep s.keeps _ _ h
 | .ptr k off,v,h=>by
  simp only[Rd]at h|-;rcases s.ent_any k with e|e|e
  .rw[e]at h;exact h.elim
  .rw[e];exact h
  .rw[e];show v.oneCell'=true;cases o:a k<;>simp only[o]at h<;>first|exact h.elim|exact h|(subst h;rfl)
 | .rpt k sz i off,v,h=>by
  simp only[Rd]at h|-;rcases s.ent_any k with e|e|e
  .rw[e]at h;exact h.elim
  .rw[e];exact h
  .rw[e];show v.oneCell'=true;cases o:a k<;>simp only[o]at h<;>first|exact h.elim|exact h|(subst h;rfl)
 | .osl k,v,h=>by
  simp only[Rd]at h|-;rcases s.ent_any k with e|e|e
  .rw[e]at h;exact h.elim
  .rw[e];exact h
  .rw[e];show v.oneCell'=true;cases o:a k<;>simp only[o]at h<;>first|exact h.elim|exact h|(subst h;rfl)
 | .ifc t x,v,h=>by
  simp only[Rd]at h|-;obtain ⟨u,g,j⟩:=h;exact⟨u,g,Rd.step s x u j⟩
 | .clo fn first cap,v,h=>by
  simp only[Rd]at h|-;obtain ⟨p,cs,g,j,I⟩:=h;exact⟨p,cs,g,B8.step s first p j,B8.step s cap cs I⟩
theorem B8.step{K:Nat->Prop}{k k':Ka}{w w':World}(s:En K k w k' w'):∀(l:List SV) (vs:List Value),B8 k w l vs->B8 k' w' l vs
 |[],_,h=>by simpa [B8] using h
 |x::l,vs,h=>by
  simp only[B8]at h|-;obtain ⟨v,r,g,i,j⟩:=h;exact⟨v,r,g,Rd.step s x v i,B8.step s l r j⟩
end
inductive Ob:Type 1
 |fresh
 |non
 |box (l:List SV)
 |row (sz:Nat) {α:Type} (e:α->SV) (l:List α)
 |lit (sz:Nat) (svs:List SV)
 |glob (sz:Nat) (x:SV) (g:Nat)
 |pin (b n cap sz:Nat) {α:Type} (e:α->SV) (l:List α)
 |dat (v:Value) (sz:Nat) {α:Type} (e:α->SV) (l:List α)
 |rown (sz:Nat) {α:Type} (e:α->SV) (l:List α) (i:Nat) (cl:List SV)
 |tbox (T:TypeId) (l:List SV)
 |trow (T:TypeId) (l:List UInt8)
def Aa3(g:Nat×Nat)(n:Nat):Prop:=g.1=g.2\/n<=g.1
def Lr{k:Type 1}:List k->Nat->Option k
 |[],_=>none
 |x::_,0=>some x
 |_::l,n+1=>Lr l n
def Hn(a:Ka)(w:World)(k sz n:Nat)(f:Nat->SV->Prop):Prop :=
 ∃b cap cs T g,a k=.row b n cap/\w.heap[b]? = some (.cells (List.toArray cs) T g)/\Aa3 g cs.length/\cap*sz<=cs.length/\n<=cap /\
  ∀i x,f i x->i<n/\∃u:Value,D3 (Own a) w x u/\u.cells.size=sz/\Hd u.cells.toList/\∀j,j<sz->cs[i*sz+j]? = u.cells[j]?
def RowN(a:Ka)(w:World)(k sz n:Nat)(f:Nat->SV->Prop)(i:Nat)(o:List SV):Prop :=
 ∃b cap cs T l,a k=.row b n cap/\w.heap[b]? = some (.cells (List.toArray cs) T l)/\Aa3 l cs.length/\cap*sz<=cs.length/\n<=cap /\
  (∀j x,j≠i->f j x->j<n/\∃u:Value,D3 (Own a) w x u/\u.cells.size=sz/\Hd u.cells.toList/\∀m,m<sz->cs[j*sz+m]? = u.cells[m]?) /\
  i<n/\∃g:List Value,g.length=sz/\Hd g/\B8 a w o g/\∀m,m<sz->cs[i*sz+m]? = g[m]?
def U9{k:Type}(e:k->SV)(l:List k)(i:Nat)(x:SV):Prop:=∃h:i<l.length,x=e l[i]
def Al6(g:List SV)(i:Nat)(x:SV):Prop:=Lr g i=some x
def RowT(a:Ka)(w:World)(k:Nat)(T:TypeId)(l:List UInt8):Prop :=
 ∃b cap cs g,a k=.row b l.length cap/\w.heap[b]? = some (.cells (List.toArray cs) T g)/\Aa3 g cs.length/\cap<=cs.length/\l.length<=cap/\∀i (h:i<l.length),cs[i]? = some (.int .u8 l[i].toNat)
def B3(a:Ka)(w:World)(k:Nat):Ob->Prop
 | .fresh=>a k=.new
 | .non=>True
 | .box l=>∃b cs T j,a k=.blk b/\w.heap[b]? = some (.cells (List.toArray cs) T j)/\Aa3 j cs.length/\Hd cs/\B8 a w l cs
 | .row sz e l=>(a k=.nil/\l=[])\/Hn a w k sz l.length (U9 e l)
 | .lit sz o=>Hn a w k sz o.length (Al6 o)
 | .glob sz x g=>Rd a w (.ref sz x 0) (.pointer (some ⟨g,0,none⟩))
 | .pin b n cap sz e l=>a k=.row b n cap/\Hn a w k sz n (U9 e l)
 | .dat v sz e l=>Rd a w (.sl sz e l) v
 | .rown sz e l i p=>RowN a w k sz l.length (U9 e l) i p
 | .tbox T l=>∃b cs j,a k=.blk b/\w.heap[b]? = some (.cells (List.toArray cs) T j)/\Aa3 j cs.length/\Hd cs/\B8 a w l cs
 | .trow T l=>(a k=.nil/\l=[])\/(l≠[]/\RowT a w k T l)
theorem Hn.step{K:Nat->Prop}{a a':Ka}{w w':World}(s:En K a w a' w'){k sz n:Nat}{f:Nat->SV->Prop}(g:¬K k)(h:Hn a w k sz n f):Hn a' w' k sz n f:=by
 obtain ⟨b,cap,cs,T,l,j,o,p,r,t,I⟩:=h;refine⟨b,cap,cs,T,l,(s.bd k g).trans j,(s.bc k b g (by rw[j];rfl)).trans o,p,r,t,λi x hi=>?_⟩;obtain ⟨J,u,P,R⟩:=I i x hi;exact⟨J,u,D3.keep s.keeps _ _ P,R⟩
theorem RowN.step{K:Nat->Prop}{a a':Ka}{w w':World}(s:En K a w a' w'){k sz n:Nat}{f:Nat->SV->Prop}{i:Nat}{g:List SV}(o:¬K k)(h:RowN a w k sz n f i g):RowN a' w' k sz n f i g:=by
 obtain ⟨b,cap,cs,T,t,p,I,J,P,R,h6,l,r,u1,u2,u3,u4⟩:=h;refine⟨b,cap,cs,T,t,(s.bd k o).trans p,(s.bc k b o (by rw[p];rfl)).trans I,J,P,R,λj x hj hi=>?_,l,r,u1,u2,B8.step s g r u3,u4⟩;obtain ⟨h0,u,l,h8⟩:=h6 j x hj hi;exact⟨h0,u,D3.keep s.keeps _ _ l,h8⟩
theorem B3.step{K:Nat->Prop}{a a':Ka}{w w':World}(s:En K a w a' w'){k:Nat}(j:¬K k):∀(o:Ob),B3 a w k o->B3 a' w' k o
 | .fresh,h=>(s.bd k j).trans h
 | .non,_=>trivial
 | .box l,h=>by
  obtain ⟨b,cs,T,t,p,r,I,J,P⟩:=h;exact⟨b,cs,T,t,(s.bd k j).trans p,(s.bc k b j (by rw[p];rfl)).trans r,I,J,B8.step s l cs P⟩
 | .row sz e l,h=>h.imp (λ⟨p,r⟩=>⟨(s.bd k j).trans p,r⟩) (Hn.step s j)
 | .lit sz R,h=>Hn.step s j h
 | .glob sz x g,h=>Rd.step s _ _ h
 | .pin b n cap sz e l,h=>⟨(s.bd k j).trans h.1,Hn.step s j h.2⟩
 | .dat v sz e l,h=>Rd.step s _ _ h
 | .rown sz e l i cl,h=>RowN.step s j h
 | .tbox T l,h=>by
  obtain ⟨b,cs,t,p,r,I,J,P⟩:=h;exact⟨b,cs,t,(s.bd k j).trans p,(s.bc k b j (by rw[p];rfl)).trans r,I,J,B8.step s l cs P⟩
 | .trow T l,h=>h.imp (λh=>⟨(s.bd k j).trans h.1,h.2⟩) (λ⟨J,b,cap,cs,t,p,r,I⟩=>⟨J,b,cap,cs,t,(s.bd k j).trans p,(s.bc k b j (by rw[p];rfl)).trans r,I⟩)
structure Fr where
 w0:World
 k0:Ka
 ds:List Deferred
structure bG(F:Fr)(κ:Ka)(w:World):Prop where
 size:F.w0.heap.size<=w.heap.size
 os:w.os=F.w0.os
 tape:w.tape=F.w0.tape
 output:w.output=F.w0.output
 M:κ.M=F.k0.M
 ci:∀b,b<F.w0.heap.size->(∀k,(F.k0 k).block? ≠ some b)->w.heap[b]? = F.w0.heap[b]?
 bc:∀k b,(κ k).block? = some b->F.w0.heap.size<=b\/∃j,(F.k0 j).block? = some b
 cc:∀k,F.k0 k≠.new->κ k=F.k0 k\/κ k=.dead
theorem bG.refl(a:Ka)(w:World):bG ⟨w,a,[]⟩ a w :=
 ⟨yG _,rfl,rfl,rfl,rfl,λ_ _ _=>rfl,λk _ h=>.inr ⟨k,h⟩,λ_ _=>.inl rfl⟩
theorem bG.step{F:Fr}{K:Nat->Prop}{a a':Ka}{w w':World}(c:bG F a w)(hi:Inv a' w')(s:En K a w a' w'):bG F a' w' where
 size:=wI c.size s.size
 os:=s.os.trans c.os
 tape:=s.tape.trans c.tape
 output:=s.output.trans c.output
 M:=s.M.trans c.M
 ci b hb h:=by
  by_cases hm:a.M b
  .rw[s.ce b hm,c.ci b hb h]
  .rw[s.blk b (xB hb c.size) ?_,c.ci b hb h];rintro (⟨k,g⟩|g)
   .rcases c.bc k b g with o|⟨j,o⟩
    .exact Nat.lt_irrefl _ (xB hb o)
    .exact h j o
   .exact hm g
 bc k b h:=by
  rcases s.fresh b (.inl ⟨k,h⟩) with (⟨j,i⟩|i)|i
  .exact c.bc j b i
  .exact zW (by rw[s.M];exact i) (hi.apart k b h)
  .exact .inl (wI c.size i)
 cc k g:=by
  rcases s.ent_any k with h|h|h
  .rcases c.cc k g with l|l
   .exact zW (l.symm.trans h) g
   .rw[h]at l;cases l
  .rw[h];exact c.cc k g
  .exact .inr h
structure SS:Type 1 where
 σ:Nat->SV
 h:Nat->Ob
structure St(F:Fr)(n:Nat)(s:SS)(κ:Ka)(a:Act)(w:World):Prop where
 defers:a.defers=F.ds
 size:a.tmps.size=n
 inv:Inv κ w
 ctx:bG F κ w
 ax:∀i,Rd κ w (s.σ i) (a.tmps.getD i undef)
 obj:∀k,B3 κ w k (s.h k)
inductive TK
 |bool|int (k:IntKind)|string
 |slice (e:TypeId) (esz ebytes:Nat) (ez:List Value)
 |struct (fs:List (Nat×Nat))
 |array (e len esz:Nat)
 |ptr|iface|func|other
structure TI where
 k:TK
 size:Nat
 zero:List Value
def TI.agg(i:TI):Bool:=match i.k with| .struct _=>true| .array _ _ _=>true|_=>false
def Lt(P:Program):List Field->List (Nat×Nat)->Prop
 |[],[]=>True
 |f::g,(o,n)::r=>f.offset=o/\(P.info? f.type).map (·.size)=some n/\Lt P g r
 |_,_=>False
def TK.ok(P:Program):TypeDesc->TK->Prop
 |d,.bool=>d=.bool
 |d,.int k=>d=.int k
 |d,.string=>d=.string
 |d,.slice e g j l=>d=.slice e/\∃i z,P.info? e=some i/\i.size=g/\i.bytes=j/\i.zero=some z/\z.cells.toList=l
 |d,.struct o=>∃a,d=.struct a/\Lt P a.toList o
 |d,.array e len g=>d=.array len e/\∃i,P.info? e=some i/\i.size=g
 |d,.ptr=>∃e,d=.pointer e
 |d,.iface=>∃m,d=.interface m
 |d,.func=>∃a b c,d=.func a b c
 |_,.other=>False
def TI.ok(P:Program)(t:TypeId)(i:TI):Prop :=
 ∃d info z,P.underlying t=some d/\TK.ok P d i.k/\P.info? t=some info/\info.size=i.size/\info.zero=some z/\z.cells.toList=i.zero
structure Ty(P:Program) where
 get:TypeId->Option TI
 ok:∀t i,get t=some i->i.ok P t
def upd{k:Type 1}(f:Nat->k)(d:Nat)(v:k):Nat->k:=λi=>bif Nat.beq i d then v else f i
def C2{k:Type 1}(f:Nat->k)(d:Nat)(v:k):upd f d v d=v:=by simp[upd]
def D7{k:Type 1}(f:Nat->k){d i:Nat}(v:k)(h:i≠d):upd f d v i=f i:=by
 have:Nat.beq i d=false:=by
  cases g:Nat.beq i d with
  |false=>rfl
  |true=>exact zW (yN g) h
 simp[upd,this]
def ev(s:SS):Operand->SV
 | .tmp t=>s.σ t
 | .const v=>.val v
 | .global g=>.val (.pointer (some ⟨g,0,none⟩))
 | .func f=>.clo (.func f) [] []
structure Up:Type 1 where
 v:SV
 rd:List Nat
 bp:List (Nat×Ob)
def Up.ws(U:Up):List Nat:=U.bp.map (·.1)
def Good(P:Program)(o:Oper)(s:SS)(U:Up):Prop :=
 ∀(b:Ka) (a:Act) (w:World),Inv b w->(∀x∈o.op.operands,Rd b w (ev s x) (a.eval x))->(∀k,k∈U.rd\/k∈U.ws->B3 b w k (s.h k)) ->
  ∀(N:Act->World->Prop) (Q:Exit->Act->World->Prop),
   (∀v b' w',En (·∈U.ws) b w b' w'->Inv b' w'->Rd b' w' U.v v->(∀x∈U.bp,B3 b' w' x.1 x.2)->N (a.put o.dst v) w')->o.wp P a w N Q
theorem Good.pure{P:Program}{o:Oper}{s:SS}{x:SV}{rd:List Nat}(h:∀(b:Ka) (a:Act) (w:World),Inv b w->(∀x∈o.op.operands,Rd b w (ev s x) (a.eval x))->(∀k,k∈rd->B3 b w k (s.h k))->∃v,(execOp a.eval o).run P w=.ok (.value v) w/\Rd b w x v):Good P o s ⟨x,rd,[]⟩:=by
 intro b a w hi g i N Q j;obtain ⟨v,l,p⟩:=h b a w hi g (λk r=>i k (.inl r));simp only[Oper.wp,l,Oper.upon];exact j v b w (En.refl _ b w) hi p (λx t=>by cases t)
def An7{P:Program}{o:Oper}{s:SS}{x:Operand}(h:o.op=.move x\/o.op=.assign x):Good P o s ⟨ev s x,[],[]⟩ :=
 Good.pure λk a w _ g _=>by
  refine⟨a.eval x,?_,g x ?_⟩
  .rcases h with h|h<;>simp[execOp,h]
  .rcases h with h|h<;>simp[h,Op.operands]
theorem Rd.val{k:Ka}{w:World}{u v:Value}(h:Rd k w (.val u) v):v=u:=by simpa [Rd] using h
def An6{P:Program}{o:Oper}{s:SS}{c x y:Operand}{b:Bool}(h:o.op=.pick c x y)(j:ev s c=.val (.bool b)):Good P o s ⟨if b then ev s x else ev s y,[],[]⟩ :=
 Good.pure λk a w _ g _=>by
  have i:=g c (by simp[h,Op.operands]);rw[j]at i;refine⟨if b then a.eval x else a.eval y,?_,?_⟩
  .simp[execOp,h,i.val,asBool]
  .cases b
   .exact g y (by simp[h,Op.operands])
   .exact g x (by simp[h,Op.operands])
def Bcg{P:Program}{o:Oper}{s:SS}{op:BinOp}{t l:TypeId}{x y:Operand}{k:IntKind}{m n:Int}{u:Value}(h:o.op=.binOp op t x y l)(p:ev s x=.val (.int k m))(r:ev s y=.val (.int k n))(I:∀w,(binOp op t (.int k m) (.int k n)).run P w=.ok u w):Good P o s ⟨.val u,[],[]⟩ :=
 Good.pure λb a w _ g _=>by
  have i:=g x (by simp[h,Op.operands]);have j:=g y (by simp[h,Op.operands]);rw[p]at i;rw[r]at j;refine⟨u,?_,by simp[Rd]⟩;simp[execOp,h,i.val,j.val,eqGuard_at_int,I]
def H4(k:Ka)(d:Nat)(e:Ent):Ka:=⟨λi=>if i=d then e else k i,k.M⟩
def Az(k:Ka)(d:Nat)(e:Ent):H4 k d e d=e:=by simp[H4]
def C4(k:Ka){d i:Nat}(e:Ent)(h:i≠d):H4 k d e i=k i:=by simp[H4,h]
structure Kb(w w':World):Prop where
 os:w'.os=w.os
 tape:w'.tape=w.tape
 output:w'.output=w.output
 size:w.heap.size<=w'.heap.size
 blk:∀b,b<w.heap.size->w'.heap[b]? = w.heap[b]?
theorem Kb.refl(w:World):Kb w w:=⟨rfl,rfl,rfl,yG _,λ_ _=>rfl⟩
theorem Kb.alloc(w:World)(o:Obj):Kb w (w.alloc o):=⟨rfl,rfl,rfl,by simp,λb g=>RowKit.Below.heap_alloc w o b g⟩
theorem Kb.drew(w:World):Kb w w.drew:=⟨rfl,rfl,rfl,yG _,λ_ _=>rfl⟩
theorem Kb.trans{a b c:World}(h:Kb a b)(k:Kb b c):Kb a c :=
 ⟨k.os.trans h.os,k.tape.trans h.tape,k.output.trans h.output,wI h.size k.size,λi hi=>(k.blk i (xB hi h.size)).trans (h.blk i hi)⟩
def Lm{a:Ka}{w w':World}{d:Nat}{e:Ent}(hi:Inv a w)(P:a d=.new)(g:Kb w w')(p:∀b,e.block? = some b->w.heap.size<=b/\b<w'.heap.size):En (·=d) a w (H4 a d e) w'/\Inv (H4 a d e) w':=by
 have key:∀k b,((H4 a d e) k).block? = some b->(k=d/\e.block? = some b)\/(k≠d/\(a k).block? = some b):=by
  intro k b h;by_cases l:k=d
  .subst l;rw[Az]at h;exact .inl ⟨rfl,h⟩
  .rw[C4 a e l]at h;exact .inr ⟨l,h⟩
 refine⟨⟨g.size,g.os,g.tape,g.output,q_,λb o=>g.blk b (hi.bh b o),λb o _=>g.blk b o,λk b _ o=>g.blk b (hi.bf k b o),λk l=>C4 a e l,λk l=>.inl (by rw[l];exact P),?_⟩,⟨?_,?_,?_,λb o=>xB (hi.bh b o) g.size⟩⟩
 .rintro b (⟨k,l⟩|l)
  .rcases key k b l with ⟨_,h⟩|⟨_,h⟩
   .exact .inr (p b h).1
   .exact .inl (.inl ⟨k,h⟩)
  .exact .inl (.inr l)
 .intro i j b R h2;rcases key i b R with ⟨I,r⟩|⟨I,r⟩<;>rcases key j b h2 with ⟨J,t⟩|⟨J,t⟩
  .exact I.trans J.symm
  .have:=(p b r).1;have:=hi.bf j b t;omega
  .have:=(p b t).1;have:=hi.bf i b r;omega
  .exact hi.inj i j b r t
 .intro k b h;rcases key k b h with ⟨_,h⟩|⟨_,h⟩
  .exact(p b h).2
  .exact xB (hi.bf k b h) g.size
 .intro k b h hm;rcases key k b h with ⟨_,h⟩|⟨_,h⟩
  .have:=(p b h).1;have:=hi.bh b hm;omega
  .exact hi.apart k b h hm
def Vx{a:Ka}{w w':World}{k b:Nat}(hi:Inv a w)(g:(a k).block? = some b)(p:w'.os=w.os)(r:w'.tape=w.tape)(t:w'.output=w.output)(o:w'.heap.size=w.heap.size)(l:∀i,i≠b->w'.heap[i]? = w.heap[i]?):En (·=k) a w a w'/\Inv a w':=by
 refine⟨⟨by omega,p,r,t,q_,λi hm=>l i (λe=>hi.apart k b g (e▸hm)),λi _ I=>l i (λe=>I (.inl ⟨k,e▸g⟩)),λj i J P=>l i (λe=>J (hi.inj j k b (e▸P) g)),λ_ _=>rfl,λ_ _=>.inr (.inl q_),λ_ h=>.inl h⟩,⟨hi.inj,λj i h=>?_,hi.apart,λi h=>?_⟩⟩
 .rw[o];exact hi.bf j i h
 .rw[o];exact hi.bh i h
def dS{P:Program}{o:Oper}{s:SS}{d:Nat}{x:SV}{ob:Ob}{rd:List Nat}(p:s.h d=.fresh)(h:∀ (m:Ka) (a:Act) (w:World),Inv m w->(∀ x∈o.op.operands,Rd m w (ev s x) (a.eval x))->(∀ k,k∈rd->B3 m w k (s.h k))->m d=.new ->
   ∃v w' e,(execOp a.eval o).run P w=.ok (.value v) w'/\Kb w w'/\(∀b,e.block? = some b->w.heap.size<=b/\b<w'.heap.size) /\
    (En (·=d) m w (H4 m d e) w'->Rd (H4 m d e) w' x v/\B3 (H4 m d e) w' d ob)):Good P o s ⟨x,rd,[(d,ob)]⟩:=by
 intro m a w hi r i N Q t;have j:m d=.new:=by have:=i d (.inr (by simp[Up.ws]));rwa [p]at this
 obtain ⟨v,w',e,I,J,R,h4⟩:=h m a w hi r (λk hk=>i k (.inl hk)) j;have g:=Lm hi j J R;obtain ⟨h5,h6⟩:=h4 g.1;simp only[Oper.wp,I,Oper.upon];exact t v _ w' (g.1.weaken (by simp[Up.ws])) g.2 h5 (λy l=>by simp only[zX]at l;subst l;exact h6)
def cellsOf:SV->List SV
 | .agg l=>l
 |x=>[x]
def SV.one:SV->Bool
 | .val v=>v.oneCell'
 | .top=>false
 | .agg _=>false
 | .tup _=>false
 |_=>true
theorem Rd.one{r:Ka}{w:World}:∀{x:SV} {v:Value},Rd r w x v->x.one=true->v.oneCell'=true
 | .val u,v,h,j=>by rw[h.val];exact j
 | .sl sz e l,v,h,_=>by
  simp only[Rd,D3]at h;rcases h with ⟨_,a,c,rfl⟩|⟨b,off,cap,rfl,_⟩<;>rfl
 | .ref sz x off,v,h,_=>by
  simp only[Rd,D3]at h;obtain ⟨b,o,u,rfl,_⟩:=h;rfl
 | .ptr k off,v,h,_=>by
  simp only[Rd]at h;cases g:r k<;>simp only[g]at h<;>first|exact h.elim|exact h|(subst h;rfl)
 | .rpt k sz i off,v,h,_=>by
  simp only[Rd]at h;cases g:r k<;>simp only[g]at h<;>first|exact h.elim|exact h|(subst h;rfl)
 | .osl k,v,h,_=>by
  simp only[Rd]at h;cases g:r k<;>simp only[g]at h<;>first|exact h.elim|exact h|(subst h;rfl)
 | .ifc t x,v,h,_=>by
  simp only[Rd]at h;obtain ⟨u,rfl,_⟩:=h;rfl
 | .clo fn first cap,v,h,_=>by
  simp only[Rd]at h;obtain ⟨u,p,rfl,_⟩:=h;rfl
def SV.boxed:SV->Bool
 | .agg _=>true
 |x=>x.one
theorem Value.cells_one{v:Value}(h:v.oneCell'=true):v.cells=#[v]:=by
 cases v<;>simp_all[Value.oneCell',Value.cells]
theorem Rd.cells{a:Ka}{w:World}{x:SV}{v:Value}(h:Rd a w x v)(g:x.boxed=true):Hd v.cells.toList/\B8 a w (cellsOf x) v.cells.toList:=by
 have plain:x.one=true->Hd v.cells.toList/\B8 a w [x] v.cells.toList:=λo=>by
  have j:=h.one o;rw[Value.cells_one j];refine⟨λc p=>by simp at p;subst p;exact j,?_⟩;simp only[B8];exact⟨v,[],q_,h,q_⟩
 cases x with
 |agg l=>
  simp only[Rd]at h;obtain ⟨cs,rfl,o,j⟩:=h;exact⟨by simpa [Value.cells] using o,by simpa [Value.cells,cellsOf] using j⟩
 |top=>exact plain g
 |val v=>exact plain g
 |tup l=>simp[SV.boxed,SV.one]at g
 |sl sz e l=>exact plain g
 |ref sz x off=>exact plain g
 |ptr k off=>exact plain g
 |rpt k sz i off=>exact plain g
 |osl k=>exact plain g
 |ifc t x=>exact plain g
 |clo fn first cap=>exact plain g
theorem Aa3.zero(n:Nat):Aa3 (0,0) n:=.inl rfl
def Ac1{P:Program}{o:Oper}{s:SS}{t:TypeId}{x:Operand}{d:Nat}(h:o.op=.box t x)(j:s.h d=.fresh)(g:(ev s x).boxed=true):Good P o s ⟨.ptr d 0,[],[(d,.box (cellsOf (ev s x)))]⟩ :=
 dS j λk a w hi l _ r=>by
  have p:=l x (by simp[h,Op.operands]);have i:=p.cells g;refine⟨.pointer (some ⟨w.heap.size,0,none⟩),w.alloc (.cells (a.eval x).cells t),.blk w.heap.size,?_,Kb.alloc w _,?_,?_⟩
  .simp[execOp,h,Instr.box,newVar,newRow]
  .intro b g;simp only[Ent.block?,Option.some.injEq]at g;subst g;simp
  .intro st;refine⟨by simp[Rd,Az],w.heap.size,(a.eval x).cells.toList,t,(0,0),Az _ _ _,?_,Aa3.zero _,i.1,B8.step st _ _ i.2⟩;rw[heap_alloc_new]
def Adu{k:Ka}{w:World}:∀l:List Value,B8 k w (l.map .val) l
 |[]=>by simp[B8]
 |v::l=>by simp only[xR,B8];exact⟨v,l,rfl,by simp[Rd],Adu l⟩
def Afx(l:List Value):Bool:=l.all (·.oneCell')
def cS{l:List Value}(h:Afx l=true):Hd l:=by simpa [Afx,Hd] using h
def A0z{P:Program}(Γ:Ty P){o:Oper}{s:SS}{t:TypeId}{i:TI}{d:Nat}(h:o.op=.alloc t)(j:s.h d=.fresh)(l:Γ.get t=some i)(p:Afx i.zero=true):Good P o s ⟨.ptr d 0,[],[(d,.box (i.zero.map .val))]⟩ :=
 dS j λk a w hi r _ I=>by
  obtain ⟨J,info,z,k1,k2,k3,k4,k5,k6⟩:=Γ.ok t i l;refine⟨.pointer (some ⟨w.heap.size,0,none⟩),w.alloc (.cells z.cells t),.blk w.heap.size,?_,Kb.alloc w _,?_,?_⟩
  .simp[execOp,h,Instr.alloc,newVar,newRow,zeroValue,typeInfo,k3,k5]
  .intro b g;simp only[Ent.block?,Option.some.injEq]at g;subst g;simp
  .intro st;refine⟨by simp[Rd,Az],w.heap.size,i.zero,t,(0,0),Az _ _ _,?_,Aa3.zero _,cS p,Adu _⟩;rw[heap_alloc_new,<-k6]
def Ad0(k:Ka)(w:World)(b o:Nat)(l:List SV):Prop:=∃cs:List Value,B8 k w l cs/\Hd cs/\∀j,j<cs.length->w.cell? ⟨b,o+j,none⟩=cs[j]?
theorem B8.length{k:Ka}{w:World}:∀{l:List SV} {cs:List Value},B8 k w l cs->cs.length=l.length
 |[],cs,h=>by simp only[B8]at h;subst h;rfl
 |x::l,cs,h=>by
  simp only[B8]at h;obtain ⟨v,r,rfl,_,h⟩:=h;simp[h.length]
theorem B8.drop{k:Ka}{w:World}:∀(n:Nat) {l:List SV} {cs:List Value},B8 k w l cs->B8 k w (l.drop n) (cs.drop n)
 |0,l,cs,h=>kS h
 |n+1,[],cs,h=>by simp only[B8]at h;subst h;simp[B8]
 |n+1,x::l,cs,h=>by
  simp only[B8]at h;obtain ⟨v,r,rfl,_,h⟩:=h;simpa using h.drop n
theorem B8.take{k:Ka}{w:World}:∀(n:Nat) {l:List SV} {cs:List Value},B8 k w l cs->B8 k w (l.take n) (cs.take n)
 |0,l,cs,h=>by simp[B8]
 |n+1,[],cs,h=>by simp only[B8]at h;subst h;simp[B8]
 |n+1,x::l,cs,h=>by
  simp only[B8]at h;obtain ⟨v,r,rfl,g,h⟩:=h;simp only[List.take_succ_cons,B8];exact⟨v,_,q_,g,h.take n⟩
theorem B8.append{k:Ka}{w:World}:∀{l m:List SV} {cs ds:List Value},B8 k w l cs->B8 k w m ds->B8 k w (l++m) (cs++ds)
 |[],m,cs,ds,h,g=>by simp only[B8]at h;subst h;simpa using g
 |x::l,m,cs,ds,h,g=>by
  simp only[B8]at h;obtain ⟨v,r,rfl,i,h⟩:=h;simp only[wF,B8];exact⟨v,_,q_,i,h.append g⟩
theorem B8.get{k:Ka}{w:World}:∀{n:Nat} {l:List SV} {cs:List Value} {x:SV},B8 k w l cs->Lr l n=some x->∃v,cs[n]? = some v/\Rd k w x v
 |n,[],cs,x,h,g=>by cases n<;>simp[Lr]at g
 |0,y::l,cs,x,h,g=>by
  simp only[B8]at h;obtain ⟨v,r,rfl,i,h⟩:=h;simp only[Lr,Option.some.injEq]at g;subst g;exact⟨v,by simp,i⟩
 |n+1,y::l,cs,x,h,g=>by
  simp only[B8]at h;obtain ⟨v,r,rfl,i,h⟩:=h;obtain ⟨u,j,o⟩:=h.get (n:=n) g;exact⟨u,kS j,o⟩
theorem Hd.drop{cs:List Value}(h:Hd cs)(n:Nat):Hd (cs.drop n):=λc g=>h c (List.mem_of_mem_drop g)
theorem Hd.take{cs:List Value}(h:Hd cs)(n:Nat):Hd (cs.take n):=λc g=>h c (wK g)
def A5e{P:Program}(Γ:Ty P){t:TypeId}{i:TI}(g:Γ.get t=some i)(w:World)(j:i.k matches .bool| .int _| .string| .slice .. | .struct _| .array .. | .ptr| .iface| .func):(isAgg t).run P w=.ok i.agg w:=by
 obtain ⟨d,info,z,k1,k2,k3,k4,k5,k6⟩:=Γ.ok t i g;obtain ⟨k,n,l⟩:=i;cases k<;>simp only[TK.ok]at k2<;>first
  |(subst k2;simp[isAgg,run_underlying k1,TI.agg];done)
  |(obtain ⟨a,rfl,_⟩:=k2;simp[isAgg,run_underlying k1,TI.agg];done)
  |(obtain ⟨rfl,_⟩:=k2;simp[isAgg,run_underlying k1,TI.agg];done)
  |(obtain ⟨a,rfl⟩:=k2;simp[isAgg,run_underlying k1,TI.agg];done)
  |(obtain ⟨a,b,c,rfl⟩:=k2;simp[isAgg,run_underlying k1,TI.agg];done)
  |simp at j
theorem TK.plain{P:Program}{d:TypeDesc}:∀{k:TK},TK.ok P d k->(k matches .bool| .int _| .string| .slice .. | .struct _| .array .. | .ptr| .iface| .func)
 | .bool,_=>rfl| .int _,_=>rfl| .string,_=>rfl| .slice ..,_=>rfl| .struct _,_=>rfl| .array ..,_=>rfl| .ptr,_=>rfl| .iface,_=>rfl| .func,_=>rfl
 | .other,h=>by simp[TK.ok]at h
def As6{P:Program}(Γ:Ty P){k:Ka}{w:World}{t:TypeId}{i:TI}(R:Γ.get t=some i){b o off:Nat}{l:List SV}(hc:Ad0 k w b o l):(i.agg=true->off+i.size<=l.length->∃v,(loadVar t ⟨b,o+off,none⟩).run P w=.ok v w/\Rd k w (.agg ((l.drop off).take i.size)) v) /\
  (i.agg=false->∀x,Lr l off=some x->∃v,(loadVar t ⟨b,o+off,none⟩).run P w=.ok v w/\Rd k w x v):=by
 obtain ⟨cs,p,h2,h3⟩:=hc;obtain ⟨d,info,z,k1,k2,k3,k4,k5,k6⟩:=Γ.ok t i R;have vc:=A5e Γ R w (TK.plain k2);constructor
 .intro r hl;have a0:=p.length;have vd:=run_loadCells_list (P:=P) w ⟨b,o+off,none⟩ ((cs.drop off).take i.size) (λ j v g=>by
   rw[vX]at g;split at g
   .rw[List.getElem?_drop]at g;have I:off+j<cs.length:=by
     rcases vD (off+j) cs.length with h|h
     .exact h
     .rw[wZ h]at g;cases g
    rw[Addr.add_lit,uD,h3 _ I];exact g
   .cases g)
  have hn:((cs.drop off).take i.size).length=i.size:=by simp;omega
  rw[hn]at vd;refine⟨.agg ((cs.drop off).take i.size).toArray,?_,?_⟩
  .simp[loadVar,vc,r,sizeOf,typeInfo,k3,k4,vd]
  .simp only[Rd];exact⟨_,q_,(h2.drop off).take _,(p.drop off).take _⟩
 .intro r x hx;obtain ⟨v,J,h5⟩:=p.get hx;have I:off<cs.length:=by
   rcases vD off cs.length with h|h
   .exact h
   .rw[wZ h]at J;cases J
  exact⟨v,by simp[loadVar,vc,r,h3 off I,J],h5⟩
def Ur(i:TI)(l:List SV)(off:Nat):Option SV :=
 match i.agg with
 |true=>bif Nat.ble (off+i.size) l.length then some (.agg ((l.drop off).take i.size)) else none
 |false=>Lr l off
def S5{P:Program}(Γ:Ty P){k:Ka}{w:World}{t:TypeId}{i:TI}(p:Γ.get t=some i){b o off:Nat}{l:List SV}(r:Ad0 k w b o l){x:SV}(g:Ur i l off=some x):∃v,(loadVar t ⟨b,o+off,none⟩).run P w=.ok v w/\Rd k w x v:=by
 obtain ⟨I,J⟩:=As6 (off:=off) Γ p r;unfold Ur at g;cases j:i.agg with
 |false=>rw[j]at g;exact J j x g
 |true=>
  rw[j]at g;simp only[uL]at g;split at g
  .rename_i R;simp only[Option.some.injEq]at g;subst g;exact I j (wG R)
  .cases g
theorem B3.cellsAt{a:Ka}{w:World}{k:Nat}{l:List SV}(h:B3 a w k (.box l)):∃b,a k=.blk b/\Ad0 a w b 0 l:=by
 obtain ⟨b,cs,T,g,i,o,t,p,r⟩:=h;refine⟨b,i,cs,r,p,λj I=>?_⟩;rw[xU,cell_of_row w b j cs.toArray T g o];simp
theorem D3.toRd{k:Ka}{w:World}{x:SV}{v:Value}(h:D3 (Own k) w x v):Rd k w x v:=Rd.of_data x v h
theorem Aa4.cellsAt{k:Ka}{w:World}{b o sz:Nat}{x:SV}{u:Value}(h:Aa4 w b o sz u)(g:Rd k w x u)(i:x.boxed=true):Ad0 k w b o (cellsOf x):=by
 obtain ⟨l,p,r⟩:=h;refine⟨u.cells.toList,(g.cells i).2,p,λj t=>?_⟩;rw[r j (by simpa [l] using t)];simp
def Ame{P:Program}(Γ:Ty P){o:Oper}{s:SS}{t:TypeId}{i:TI}{x:Operand}{k off:Nat}{l:List SV}{y:SV}(h:o.op=.load t x)(r:ev s x=.ptr k off)(I:Γ.get t=some i)(J:s.h k=.box l)(R:Ur i l off=some y):Good P o s ⟨y,[k],[]⟩ :=
 Good.pure λm a w _ hr ho=>by
  have g:=hr x (by simp[h,Op.operands]);have j:=ho k qx;rw[J]at j;obtain ⟨b,h3,h4⟩:=j.cellsAt;rw[r]at g;simp only[Rd,h3]at g;obtain ⟨v,p,h6⟩:=S5 Γ I h4 R;rw[xU]at p;exact⟨v,by simp[execOp,h,g,Instr.loadAt,Instr.sureAddr,p],h6⟩
def Amd{P:Program}(Γ:Ty P){o:Oper}{s:SS}{t:TypeId}{i:TI}{x:Operand}{sz off:Nat}{z y:SV}(h:o.op=.load t x)(j:ev s x=.ref sz z off)(l:Γ.get t=some i)(p:z.boxed=true)(r:Ur i (cellsOf z) off=some y):Good P o s ⟨y,[],[]⟩ :=
 Good.pure λk a w _ I _=>by
  have g:=I x (by simp[h,Op.operands]);rw[j]at g;simp only[Rd,D3]at g;obtain ⟨b,oo,u,J,h3,h4,R,h6⟩:=g;obtain ⟨v,h7,h8⟩:=S5 Γ l (h6.cellsAt R.toRd p) r;exact⟨v,by simp[execOp,h,J,Instr.loadAt,Instr.sureAddr,h7],h8⟩
theorem Hn.cellsAt{a:Ka}{w:World}{k sz n:Nat}{f:Nat->SV->Prop}(h:Hn a w k sz n f){i:Nat}{x:SV}(g:f i x)(l:x.boxed=true):∃b cap,a k=.row b n cap/\Ad0 a w b (i*sz) (cellsOf x):=by
 obtain ⟨b,cap,cs,T,o,p,r,h3,h4,h5,t⟩:=h;obtain ⟨h0,u,I,J,P,R⟩:=t i x g;refine⟨b,cap,p,u.cells.toList,(I.toRd.cells l).2,P,λj hj=>?_⟩;rw[cell_of_row w b _ cs.toArray T o r,uV,R j (by simpa [J] using hj)];simp
def nJ{P:Program}(Γ:Ty P){o:Oper}{s:SS}{t:TypeId}{j:TI}{x:Operand}{k sz i off n:Nat}{f:Nat->SV->Prop}{z y:SV}(h:o.op=.load t x)(l:ev s x=.rpt k sz i off)(p:Γ.get t=some j)(r:∀m w,B3 m w k (s.h k)->Hn m w k sz n f)(I:f i z)(J:z.boxed=true)(R:Ur j (cellsOf z) off=some y):Good P o s ⟨y,[k],[]⟩ :=
 Good.pure λm a w _ hr ho=>by
  have g:=hr x (by simp[h,Op.operands]);have h2:=r m w (ho k qx);obtain ⟨b,cap,h3,h4⟩:=h2.cellsAt I J;rw[l]at g;simp only[Rd,h3]at g;obtain ⟨v,h5,h6⟩:=S5 Γ p h4 R;exact⟨v,by simp[execOp,h,g,Instr.loadAt,Instr.sureAddr,h5],h6⟩
theorem B3.rowAt{a:Ka}{w:World}{k sz:Nat}{b:Type}{e:b->SV}{l:List b}(h:B3 a w k (.row sz e l))(g:l≠[]):Hn a w k sz l.length (U9 e l) :=
 h.resolve_left (λh=>g h.2)
def setAt{k:Type 1}:List k->Nat->List k->List k
 |l,_,[]=>l
 |[],_,_=>[]
 |_::l,0,v::vs=>v::setAt l 0 vs
 |x::l,n+1,v::vs=>x::setAt l n (v::vs)
def setV:List Value->Nat->List Value->List Value
 |l,_,[]=>l
 |[],_,_=>[]
 |_::l,0,v::vs=>v::setV l 0 vs
 |x::l,n+1,v::vs=>x::setV l n (v::vs)
def W7:∀(vs l:List Value) (n:Nat),n+vs.length<=l.length->setV l n vs=l.take n++vs++l.drop (n+vs.length)
 |[],l,n,_=>by cases l<;>simp[setV]
 |v::vs,[],n,h=>by simp at h
 |v::vs,x::l,0,h=>by
  have:=W7 vs l 0 (by simp at h|-;omega);simp only[setV,this];simp[tP]
 |v::vs,x::l,n+1,h=>by
  have:=W7 (v::vs) l n (by simp at h|-;omega);simp only[setV,this];simp[uD,tP 1];rw[show n+(vs.length+2)=(n+(vs.length+1))+1 from by omega,List.drop_succ_cons]
theorem B8.setAt{k:Ka}{w:World}:∀{ys l:List SV} {vs cs:List Value} (n:Nat),B8 k w l cs->B8 k w ys vs->B8 k w (setAt l n ys) (setV cs n vs)
 |[],l,vs,cs,n,h,g=>by
  simp only[B8]at g;subst g;cases l<;>cases cs<;>simpa [Sy.setAt,setV] using h
 |y::ys,[],vs,cs,n,h,g=>by
  simp only[B8]at h g;obtain ⟨v,r,rfl,_,_⟩:=g;subst h;simp[Sy.setAt,setV,B8]
 |y::ys,x::l,vs,cs,0,h,g=>by
  simp only[B8]at h g;obtain ⟨v,r,rfl,o,p⟩:=g;obtain ⟨u,q,rfl,t,i⟩:=h;simp only[Sy.setAt,setV,B8];exact⟨v,_,q_,o,B8.setAt 0 i p⟩
 |y::ys,x::l,vs,cs,n+1,h,g=>by
  have j:=g;simp only[B8]at h g;obtain ⟨v,r,rfl,o,p⟩:=g;obtain ⟨u,q,rfl,t,i⟩:=h;simp only[Sy.setAt,setV,B8];exact⟨u,_,q_,t,B8.setAt n i j⟩
theorem Hd.setV:∀{vs cs:List Value} (n:Nat),Hd cs->Hd vs->Hd (setV cs n vs)
 |[],cs,n,h,_=>by cases cs<;>simpa [Sy.setV] using h
 |v::vs,[],n,h,i=>by simpa [Sy.setV] using h
 |v::vs,x::l,0,h,i=>by
  intro c g;simp only[Sy.setV,yH]at g;rcases g with rfl|g
  .exact i _ qx
  .exact Hd.setV 0 (λc g=>h c (by simp[g])) (λc g=>i c (by simp[g])) c g
 |v::vs,x::l,n+1,h,i=>by
  intro c g;simp only[Sy.setV,yH]at g;rcases g with rfl|g
  .exact h _ qx
  .exact Hd.setV n (λc g=>h c (by simp[g])) i c g
def C8:∀(vs cs:List Value) (n:Nat),(setV cs n vs).length=cs.length
 |[],cs,n=>by cases cs<;>simp[setV]
 |v::vs,[],n=>by simp[setV]
 |v::vs,x::l,0=>by simp[setV,C8 vs l 0]
 |v::vs,x::l,n+1=>by simp[setV,C8 (v::vs) l n]
def Ej(P:Program)(g o:Nat)(t:TypeId)(r:Nat×Nat):∀(vs:List Value) (i:Nat) (l:List Value) (w:World),w.heap[g]? = some (.cells l.toArray t r)->Aa3 r l.length ->
  o+i+vs.length<=l.length->Hd vs ->
  ∃w',(storeCells ⟨g,o,none⟩ vs i).run P w=.ok () w'/\w'.heap[g]? = some (.cells (setV l (o+i) vs).toArray t r)/\w'.os=w.os/\w'.tape=w.tape/\w'.output=w.output/\w'.heap.size=w.heap.size/\∀j,j≠g->w'.heap[j]? = w.heap[j]?
 |[],i,l,w,I,_,_,_=>⟨w,by simp[storeCells],by cases l<;>simpa [setV] using I,rfl,rfl,rfl,rfl,λ_ _=>rfl⟩
 |v::p,i,l,w,I,yy,J,h1=>by
  have hi:o+i<l.length:=by simp at J;omega
  have ou:(⟨g,o,none⟩:Addr).add i=⟨g,o+i,none⟩:=by unfold Addr.add;split<;>simp_all
  have d7:w.cell? ⟨g,o+i,none⟩=some l[o+i]:=by simp[World.cell?,I,hi]
  have R:w.frozen? ⟨g,o+i,none⟩=false:=by
   obtain ⟨lo,hi'⟩:=r;simp only[World.frozen?,I];rcases yy with h|h
   .simp only at h;subst h;simp
   .simp only at h;simp;omega
  have ck:(store ((⟨g,o,none⟩:Addr).add i) v).run P w=.ok () (w.setCell ⟨g,o+i,none⟩ v):=by
   rw[ou,run_store P w _ v _ (h1 v qx),d7];simp[R]
  have nn:(w.setCell ⟨g,o+i,none⟩ v).heap[g]? = some (.cells (l.set (o+i) v).toArray t r):=by
   simp only[World.setCell,Array.getElem?_modify,if_true,I,vO];simp
  obtain ⟨w',e1,e2,e3,e4,e5,e6,e7⟩:=Ej P g o t r p (i+1) (l.set (o+i) v) (w.setCell ⟨g,o+i,none⟩ v) nn (kS yy) (by simp at J|-;omega) (λx hx=>h1 x (by simp[hx]));refine⟨w',?_,?_,e3,e4,e5,kS e6,λj hj=>(e7 j hj).trans (RowKit.Below.heap_setCell _ _ _ _ hj)⟩
  .simp only[storeCells,Sem.run_bind,ck,Result.andThen_ok,e1]
  .rw[e2];congr 3;rw[W7 p _ _ (by simp at J|-;omega),W7 (v::p) l _ (by simp at J|-;omega)];have:=list_seg_step l (o+i) v p (by simp at J|-;omega);simpa [uD] using this
def Abt{P:Program}{w:World}{t:TypeId}{info:TypeInfo}(hi:P.info? t=some info){v:Value}{b o:Nat}{T:TypeId}{i:Nat×Nat}{g:List Value}(l:w.heap[b]? = some (.cells g.toArray T i))(p:Aa3 i g.length)(r:v.cells.size=info.size)(I:o+v.cells.size<=g.length)(J:Hd v.cells.toList):∃w',(storeVar t ⟨b,o,none⟩ v).run P w=.ok () w'/\w'.heap[b]? = some (.cells (setV g o v.cells.toList).toArray T i)/\w'.os=w.os/\w'.tape=w.tape/\w'.output=w.output/\w'.heap.size=w.heap.size/\∀j,j≠b->w'.heap[j]? = w.heap[j]?:=by
 obtain ⟨w',R,e2,e3⟩:=Ej P b o T i v.cells.toList 0 g w l p (kS I) J;refine⟨w',?_,kS e2,e3⟩;simp[storeVar,sizeOf,typeInfo,hi,r,R]
mutual
def SV.data:SV->Bool
 | .top=>true
 | .val _=>true
 | .agg l=>Y6 l
 | .tup l=>Y6 l
 | .sl _ _ _=>true
 | .ref _ _ _=>true
 | .ifc _ x=>x.data
 | .clo _ f l=>Y6 f&&Y6 l
 |_=>false
def Y6:List SV->Bool
 |[]=>true
 |x::l=>x.data&&Y6 l
end
mutual
theorem Rd.data{k:Ka}{w:World}:∀(x:SV) (v:Value),x.data=true->Rd k w x v->D3 (Own k) w x v
 | .top,_,_,_=>by simp[D3]
 | .val u,v,_,h=>by simpa [D3,Rd] using h
 | .agg l,v,g,h=>by
  simp only[D3,Rd,SV.data]at h g|-;obtain ⟨cs,i,p,j⟩:=h;exact⟨cs,i,p,B8.data l cs g j⟩
 | .tup l,v,g,h=>by
  simp only[D3,Rd,SV.data]at h g|-;obtain ⟨cs,i,j⟩:=h;exact⟨cs,i,B8.data l cs g j⟩
 | .sl sz e l,v,_,h=>by simpa only [Rd] using h
 | .ref sz x off,v,_,h=>by simpa only [Rd] using h
 | .ptr _ _,_,g,_=>by simp[SV.data]at g
 | .rpt _ _ _ _,_,g,_=>by simp[SV.data]at g
 | .osl _,_,g,_=>by simp[SV.data]at g
 | .ifc t x,v,g,h=>by
  simp only[D3,Rd,SV.data]at h g|-;obtain ⟨u,i,j⟩:=h;exact⟨u,i,Rd.data x u g j⟩
 | .clo fn first cap,v,g,h=>by
  simp only[D3,Rd,SV.data,zG]at h g|-;obtain ⟨o,cs,i,j,r⟩:=h;exact⟨o,cs,i,B8.data first o g.1 j,B8.data cap cs g.2 r⟩
theorem B8.data{k:Ka}{w:World}:∀(l:List SV) (vs:List Value),Y6 l=true->B8 k w l vs->Uz (Own k) w l vs
 |[],_,_,h=>by simpa [Uz,B8] using h
 |x::l,vs,g,h=>by
  simp only[Uz,B8,Y6,zG]at h g|-;obtain ⟨v,r,i,j,o⟩:=h;exact⟨v,r,i,Rd.data x v g.1 j,B8.data l r g.2 o⟩
end
theorem Rd.of_cells{κ:Ka}{w:World}{x:SV}{cs:List Value}(j:x.boxed=true)(g:Hd cs)(h:B8 κ w (cellsOf x) cs):∃u:Value,Rd κ w x u/\u.cells.toList=cs:=by
 have plain:B8 κ w [x] cs->∃u:Value,Rd κ w x u/\u.cells.toList=cs:=λh=>by
  simp only[B8]at h;obtain ⟨v,r,rfl,i,rfl⟩:=h;exact⟨v,i,by rw[Value.cells_one (g v qx)]⟩
 cases x with
 |agg l=>exact⟨.agg cs.toArray,by simp only[Rd];exact⟨cs,rfl,g,h⟩,by simp[Value.cells]⟩
 |_=>exact plain h
def T3(l vs:List Value)(n j:Nat)(h:n+vs.length<=l.length):(setV l n vs)[j]? = if n<=j/\j<n+vs.length then vs[j-n]? else l[j]?:=by
 rw[W7 vs l n h];by_cases g:j<n
 .rw[zD j_,yW,xM kO,vX,zE g]
 .by_cases i:j<n+vs.length
  .rw[zE j_,xM kO,wD kO];congr 1;simp;omega
  .rw[zD j_,wD kO,List.getElem?_drop];congr 1;simp;omega
def dQ{P:Program}(Γ:Ty P){o:Oper}{s:SS}{t:TypeId}{i:TI}{x y:Operand}{k off:Nat}{l:List SV}(h:o.op=.store t x y)(hx:ev s x=.ptr k off)(ht:Γ.get t=some i)(hk:s.h k=.box l)(hb:(ev s y).boxed=true)(hn:(cellsOf (ev s y)).length=i.size)(hl:off+i.size<=l.length):Good P o s ⟨.val undef,[],[(k,.box (setAt l off (cellsOf (ev s y))))]⟩:=by
 intro m a w hi r ho N Q hN;have g:=r x (by simp[h,Op.operands]);have h2:=r y (by simp[h,Op.operands]);have I:=ho k (.inr (by simp[Up.ws]));rw[hk]at I;obtain ⟨b,cs,T,fr,j,e2,J,e4,R⟩:=I;rw[hx]at g;simp only[Rd,j]at g;obtain ⟨h4,h5⟩:=h2.cells hb;obtain ⟨d,info,z,k1,k2,k3,k4,k5,k6⟩:=Γ.ok t i ht;have az:(a.eval y).cells.size=i.size:=by rw[<-hn,<-h5.length];simp
 obtain ⟨w',f1,f2,f3,f4,f5,f6,f7⟩:=Abt (P:=P) (t:=t) k3 (v:=a.eval y) (o:=off) e2 J (by rw[az,k4]) (by rw[az,R.length];exact hl) h4;obtain ⟨st,inv⟩:=Vx hi (k:=k) (b:=b) (by rw[j];rfl) f3 f4 f5 f6 f7;have an:(execOp a.eval o).run P w=.ok .skip w':=by simp[execOp,h,g,Instr.storeAt,Instr.sureAddr,f1]
 simp only[Oper.wp,an,Oper.upon];refine hN undef m w' (st.weaken (by simp[Up.ws])) inv (by simp[Rd]) (λp hp=>?_);simp only[zX]at hp;subst hp;refine⟨b,_,T,fr,j,f2,by rw[C8];exact J,e4.setV _ h4,(B8.step st _ _ R).setAt _ (B8.step st _ _ h5)⟩
theorem Hn.write{a:Ka}{w:World}{k sz n:Nat}{f:Nat->SV->Prop}(h:Hn a w k sz n f)(hi:Inv a w){i off:Nat}{x z:SV}{vs:List Value}(hx:f i x)(l:x.boxed=true){ys:List SV}(g:B8 a w ys vs)(R:Hd vs)(y0:off+ys.length<=sz)(hz:cellsOf z=setAt (cellsOf x) off ys)(y3:z.boxed=true)(y4:z.data=true){P:Program}{t:TypeId}{info:TypeInfo}(ht:P.info? t=some info)(cy:info.size=vs.length){v:Value}(p:v.cells.toList=vs):∃b cap w',a k=.row b n cap/\(storeVar t ⟨b,i*sz+off,none⟩ v).run P w=.ok () w'/\En (·=k) a w a w'/\Inv a w' /\
   Hn a w' k sz n (λj y=>(j≠i/\f j y)\/(j=i/\y=z)):=by
 obtain ⟨b,cap,cs,T,fr,r,e2,e3,e4,e5,e6⟩:=h;obtain ⟨h0,u,g1,g2,g3,g4⟩:=e6 i x hx;have a0:=g.length;have br:i*sz+sz<=cap*sz:=by
  have:(i+1)*sz<=cap*sz:=yU sz j_;rw[xA,wC]at this;exact this
 have j5:v.cells.size=vs.length:=by rw[<-p];simp
 obtain ⟨w',f1,f2,f3,f4,f5,f6,f7⟩:=Abt (P:=P) (t:=t) ht (v:=v) (o:=i*sz+off) e2 e3 (by rw[j5,cy]) (by rw[j5];omega) (by rw[p];exact R);rw[p]at f2;obtain ⟨st,inv⟩:=Vx hi (k:=k) (b:=b) (by rw[r];rfl) f3 f4 f5 f6 f7;refine⟨b,cap,w',r,f1,st,inv,b,cap,_,T,fr,r,f2,by rw[C8];exact e3,by rw[C8];exact e4,e5,?_⟩;have bc:=T3 cs vs (i*sz+off);rintro j y (⟨hj,hy⟩|⟨rfl,rfl⟩)
 .obtain ⟨q0,q,q1,q2,q3,q4⟩:=e6 j y hy;refine⟨q0,q,D3.keep st.keeps _ _ q1,q2,q3,λm hm=>?_⟩;rw[bc _ j_,zD,q4 m hm];rintro ⟨a1,a2⟩;rcases Nat.lt_or_gt_of_ne hj with ab|a3
  .have:(j+1)*sz<=i*sz:=yU sz j_;rw[xA,wC]at this;omega
  .have:(i+1)*sz<=j*sz:=yU sz j_;rw[xA,wC]at this;omega
 .obtain ⟨c1,c2⟩:=g1.toRd.cells l;have c3:B8 a w (cellsOf y) (setV u.cells.toList off vs):=by rw[hz];exact c2.setAt _ g
  have c4:=c1.setV (vs:=vs) off R;obtain ⟨I,d1,J⟩:=Rd.of_cells y3 c4 c3;have d3:I.cells.size=sz:=by
   have:I.cells.toList.length=(setV u.cells.toList off vs).length:=by rw[J]
   rw[C8]at this;simpa [g2] using this
  refine⟨h0,I,D3.keep st.keeps _ _ (Rd.data _ _ y4 d1),d3,by rw[J];exact c4,λm hm=>?_⟩;rw[bc _ j_,<-vV,J,T3 _ _ _ _ (by simp[g2];omega)];by_cases bx:off<=m/\m<off+vs.length
  .rw[zE j_,zE bx];congr 1;omega
  .rw[zD j_,zD bx,g4 m hm];simp
def dP{P:Program}(Γ:Ty P){o:Oper}{s:SS}{t:TypeId}{r:TI}{x y:Operand}{k sz i off:Nat}{c:Type}{e:c->SV}{l:List c}(h:o.op=.store t x y)(hx:ev s x=.rpt k sz i off)(ht:Γ.get t=some r)(hk:s.h k=.row sz e l)(hb:(ev s y).boxed=true)(R:(cellsOf (ev s y)).length=r.size)(y0:off+r.size<=sz)(hi:i<l.length){z:c}(hz:cellsOf (e z)=setAt (cellsOf (e l[i])) off (cellsOf (ev s y)))(I:(e l[i]).boxed=true)(y3:(e z).boxed=true)(y4:(e z).data=true):Good P o s ⟨.val undef,[],[(k,.row sz e (l.set i z))]⟩:=by
 intro m a w g hr ho N Q hN;have J:=hr x (by simp[h,Op.operands]);have h2:=hr y (by simp[h,Op.operands]);have h3:=ho k (.inr (by simp[Up.ws]));rw[hk]at h3;have ag:l≠[]:=by intro he;subst he;simp at hi
 have h4:=h3.rowAt ag;obtain ⟨c1,c2⟩:=h2.cells hb;obtain ⟨d,info,zz,k1,k2,k3,k4,k5,k6⟩:=Γ.ok t r ht;obtain ⟨b,cap,w',f1,f2,f3,f4,f5⟩:=h4.write g (i:=i) (off:=off) (z:=e z) ⟨hi,rfl⟩ I c2 c1 (by rw[R];exact y0) hz y3 y4 (P:=P) (t:=t) k3 (by rw[k4,<-R,<-c2.length]) rfl;rw[hx]at J;simp only[Rd,f1]at J;have an:(execOp a.eval o).run P w=.ok .skip w':=by simp[execOp,h,J,Instr.storeAt,Instr.sureAddr,f2]
 simp only[Oper.wp,an,Oper.upon];refine hN undef m w' (f3.weaken (by simp[Up.ws])) f4 (by simp[Rd]) (λ p hp=>?_);simp only[zX]at hp;subst hp;refine .inr ?_;obtain ⟨b,cap,cs,T,fr,q1,q2,q3,q4,q5,q6⟩:=f5;refine⟨b,cap,cs,T,fr,kS q1,q2,q3,q4,kS q5,λ j v hv=>?_⟩;obtain ⟨hj,rfl⟩:=hv;have x9:j<l.length:=kS hj;have:=q6 j (e (l.set i z)[j]) (by
  by_cases s5:j=i
  .subst s5;right;simp
  .left;refine⟨s5,x9,?_⟩;rw[List.getElem_set_ne j_])
 simpa using this
def Src(k:Ka)(w:World)(v:Value)(m sz:Nat)(f:Nat->SV->Prop):Prop :=
 (m=0/\(∀i x,¬f i x)/\∃a cap,v=.slice a 0 cap) \/
 ∃b o cap g,v=.slice (some ⟨b,o,none⟩) m cap/\g.length=m*sz/\Hd g/\(∀j u,g[j]? = some u->w.cell? ⟨b,o+j,none⟩=some u) /\
  ∀i x,f i x->i<m/\∃u:Value,D3 (Own k) w x u/\u.cells.size=sz/\Hd u.cells.toList/\∀j,j<sz->g[i*sz+j]? = u.cells[j]?
def nA{cs:List Value}{n sz:Nat}(hl:n*sz<=cs.length)(h:∀i,i<n->∃u:Value,u.cells.size=sz/\Hd u.cells.toList/\∀j,j<sz->cs[i*sz+j]? = u.cells[j]?):Hd (cs.take (n*sz)):=by
 intro c t;obtain ⟨j,I,rfl⟩:=yY.1 t;have p:j<n*sz:=by simp at I;omega
 have l:0<sz:=by
  rcases uM sz with o|o
  .subst o;simp at p
  .exact o
 have hi:j/sz<n:=(Nat.div_lt_iff_lt_mul l).2 p;obtain ⟨u,J,P,R⟩:=h (j/sz) hi;have g:=R (j%sz) (tQ _ l);rw[Nat.div_add_mod' j sz]at g;rw[zT j_]at g;have r:j%sz<u.cells.toList.length:=by simp[J];exact tQ _ l
 rw[<-vV,zT r]at g;simp only[Option.some.injEq]at g;rw[wN,g];exact P _ (zI r)
theorem Hn.src{a:Ka}{w:World}{k sz n:Nat}{f:Nat->SV->Prop}(h:Hn a w k sz n f)(t:∀i,i<n->∃x,f i x):∃b cap,a k=.row b n cap/\Src a w (.slice (some ⟨b,0,none⟩) n cap) n sz f:=by
 obtain ⟨b,cap,cs,T,I,J,P,e3,R,e5,r⟩:=h;have l:n*sz<=cs.length:=wI (yU sz e5) R;refine⟨b,cap,J,.inr ⟨b,0,cap,cs.take (n*sz),q_,by simp;omega,?_,?_,?_⟩⟩
 .exact nA l (λ i hi=>by
   obtain ⟨x,o⟩:=t i hi;obtain ⟨_,u,_,p⟩:=r i x o;exact⟨u,p⟩)
 .intro j u g;rw[vX]at g;split at g
  .rw[xU,cell_of_row w b _ cs.toArray T I P];simpa using g
  .cases g
 .intro i x o;obtain ⟨h0,u,h1,p,h3,h4⟩:=r i x o;refine⟨h0,u,h1,p,h3,λj g=>?_⟩;have:(i+1)*sz<=n*sz:=yU sz j_;rw[xA,wC]at this;rw[vX,zE j_,h4 j g]
theorem Rd.src{k:Ka}{w:World}{sz:Nat}{m:Type}{e:m->SV}{l:List m}{v:Value}(h:Rd k w (.sl sz e l) v):Src k w v l.length sz (U9 e l):=by
 simp only[Rd,D3]at h;rcases h with ⟨rfl,a,cap,rfl⟩|⟨b,off,cap,rfl,t,h1,h2,J⟩
 .exact .inl ⟨rfl,λi x hx=>(by obtain ⟨h,_⟩:=hx;simp at h),a,cap,rfl⟩
 .refine .inr ⟨b,off,cap,(List.range (l.length*sz)).map λj=>(w.cell? ⟨b,off+j,none⟩).getD undef,q_,by simp,?_,?_,?_⟩
  .have:=nA (cs:=(List.range (l.length * sz)).map λ j=>(w.cell? ⟨b,off+j,none⟩).getD undef) (n:=l.length) (sz:=sz) qx (λ i hi=>by
    obtain ⟨u,P,p,I,r⟩:=J i hi;refine⟨u,p,I,λ j g=>?_⟩;have:(i+1) * sz<=l.length * sz:=yU sz j_;rw[xA,wC]at this;have o:=r j g;rw[uD]at o;rw[wX,uG j_];simp only[vO,o];rw[uJ j_];rfl)
   rw[xI qx]at this;exact this
  .intro j u g;rw[wX]at g;have R:j<l.length*sz:=by
    rcases vD j (l.length*sz) with h|h
    .exact h
    .rw[wZ (kS h)]at g;cases g
   rw[uG R]at g;simp only[vO,Option.some.injEq]at g;have az:0<sz:=by
    rcases uM sz with t|t
    .subst t;simp at R
    .exact t
   have hi:j/sz<l.length:=(Nat.div_lt_iff_lt_mul az).2 R;obtain ⟨q,P,p,I,r⟩:=J (j/sz) hi;have o:=r (j%sz) (tQ _ az);rw[uD,Nat.div_add_mod' j sz,uJ (by rw[p];exact tQ _ az)]at o;rw[o]at g|-;simpa using g
  .rintro i x ⟨hi,rfl⟩;obtain ⟨u,P,p,I,r⟩:=J i hi;refine⟨hi,u,P,p,I,λj g=>?_⟩;have:(i+1)*sz<=l.length*sz:=yU sz j_;rw[xA,wC]at this;have o:=r j g;rw[uD]at o;rw[wX,uG j_];simp only[vO,o];rw[uJ j_];rfl
def Aw2(n:Nat)(f g:Nat->SV->Prop)(i:Nat)(x:SV):Prop:=(i<n/\f i x)\/(n<=i/\g (i-n) x)
def Base(a:Ka)(w:World)(v:Value)(n sz:Nat)(f:Nat->SV->Prop):Option Nat->Prop
 |none=>v=.slice none 0 0/\n=0
 |some k=>(a k=.nil/\n=0/\v=.slice none 0 0)\/(Hn a w k sz n f/\(∀i,i<n->∃x,f i x)/\∃b cap,a k=.row b n cap/\v=.slice (some ⟨b,0,none⟩) n cap)
def nG(a:Ka):Option Nat->Ka
 |none=>a
 |some k=>H4 a k .dead
def Oz{a:Ka}{w:World}(hi:Inv a w)(k:Option Nat):Inv (nG a k) w:=by
 cases k with
 |none=>exact hi
 |some k=>
  have key:∀j b,((H4 a k .dead) j).block? = some b->(a j).block? = some b:=λj b h=>by
   by_cases g:j=k
   .subst g;rw[Az]at h;cases h
   .rwa [C4 a _ g]at h
  exact⟨λi j b l o=>hi.inj i j b (key i b l) (key j b o),λj b h=>hi.bf j b (key j b h),λj b h=>hi.apart j b (key j b h),hi.bh⟩
def Lx{κ:Ka}{w:World}(k:Option Nat):En (λj=>k=some j) κ w (nG κ k) w:=by
 cases k with
 |none=>exact En.refl _ κ w
 |some k=>
  refine⟨yG _,q_,q_,q_,q_,λ_ _=>rfl,λ_ _ _=>rfl,λ_ _ _ _=>rfl,λj g=>C4 κ _ (λe=>g (by rw[e])),λj g=>.inr (.inr ?_),?_⟩
  .simp only[Option.some.injEq]at g;subst g;exact Az _ _ _
  .rintro b (⟨j,g⟩|g)
   .left;by_cases i:j=k
    .subst i;simp only[nG]at g;rw[Az]at g;cases g
    .simp only[nG]at g;rw[C4 κ _ i]at g;exact .inl ⟨j,g⟩
   .exact .inl (.inr g)
def Vm{a:Ka}{w w':World}{k d b n n' cap:Nat}(hi:Inv a w)(P:a k=.row b n cap)(o:a d=.new)(yz:w'.os=w.os)(ht:w'.tape=w.tape)(ho:w'.output=w.output)(R:w'.heap.size=w.heap.size)(p:∀i,i≠b->w'.heap[i]? = w.heap[i]?):En (λj=>j=k\/j=d) a w (H4 (H4 a k .dead) d (.row b n' cap)) w'/\Inv (H4 (H4 a k .dead) d (.row b n' cap)) w':=by
 have cd:k≠d:=λe=>by subst e;rw[P]at o;cases o
 have l:(a k).block? = some b:=by rw[P];rfl
 have key:∀j c,((H4 (H4 a k .dead) d (.row b n' cap)) j).block? = some c->(j=d/\c=b)\/(j≠d/\j≠k/\(a j).block? = some c):=by
  intro j c h;by_cases g:j=d
  .subst g;rw[Az]at h;exact .inl ⟨rfl,by simpa [Ent.block?] using h.symm⟩
  .rw[C4 _ _ g]at h;by_cases r:j=k
   .subst r;rw[Az]at h;cases h
   .rw[C4 _ _ r]at h;exact .inr ⟨g,r,h⟩
 refine⟨⟨by omega,yz,ht,ho,q_,λc hm=>p c (λe=>hi.apart k b l (e▸hm)),λc _ hn=>p c (λe=>hn (.inl ⟨k,e▸l⟩)),λj c g t=>p c (λe=>?_),λj g=>?_,?_,?_⟩,⟨?_,?_,?_,λc h=>?_⟩⟩
 .subst e;exact g (.inl (hi.inj j k _ t l))
 .rw[C4 _ _ (λe=>g (.inr e)),C4 _ _ (λe=>g (.inl e))]
 .rintro j (rfl|rfl)
  .exact .inr (.inr (by rw[C4 _ _ cd,Az]))
  .exact .inl o
 .rintro c (⟨j,g⟩|g)
  .rcases key j c g with ⟨_,rfl⟩|⟨_,_,h⟩
   .exact .inl (.inl ⟨k,l⟩)
   .exact .inl (.inl ⟨j,h⟩)
  .exact .inl (.inr g)
 .intro i j c h1 h2;rcases key i c h1 with ⟨a1,I⟩|⟨a1,I,a3⟩<;>rcases key j c h2 with ⟨b1,J⟩|⟨b1,J,b3⟩
  .exact a1.trans b1.symm
  .subst I;exact zW (hi.inj j k _ b3 l) J
  .subst J;exact zW (hi.inj i k _ a3 l) I
  .exact hi.inj i j c a3 b3
 .intro j c h;rw[R];rcases key j c h with ⟨_,rfl⟩|⟨_,_,h⟩
  .exact hi.bf k _ l
  .exact hi.bf j c h
 .intro j c h;rcases key j c h with ⟨_,rfl⟩|⟨_,_,h⟩
  .exact hi.apart k _ l
  .exact hi.apart j c h
 .rw[R];exact hi.bh c h
def X6(z:Array Value)(n:Nat):(Builtin.zeroCells z n).size=n*z.size:=by simp[Builtin.zeroCells]
def Aw0{P:Program}{s:Ka}{w:World}(hi:Inv s w){t ty e:TypeId}{i:TypeInfo}{z:Value}{sz:Nat}(ht:P.underlying t=some (.slice e))(cy:P.info? e=some i)(hz:i.zero=some z)(az:i.size=sz)(ov:z.cells.size=sz){v u:Value}{n m:Nat}{f g:Nat->SV->Prop}{k:Option Nat}{d:Nat}(hd:s d=.new)(hb:Base s w v n sz f k)(hs:Src s w u m sz g)(pn:n+m<=9223372036854775807)(bz:(n+m)*i.bytes<=140737488355328):∃v' w' s',(Builtin.append_ #[t,t] ty #[v,u]).run P w=.ok v' w'/\En (λj=>k=some j\/j=d) s w s' w'/\Inv s' w'/\Rd s' w' (.osl d) v' /\
   ((s' d=.nil/\n+m=0)\/Hn s' w' d sz (n+m) (Aw2 n f g)):=by
 obtain ⟨a,c,r,hu,lh,vf,jn,t8⟩:∃(a:Option Addr) (c:Nat) (r:List Value),u=.slice a m c/\r.length=m*sz/\Hd r/\(∀W:World,(∀p:Addr,p.block<w.heap.size->W.cell? p=w.cell? p)->(Builtin.firstCells sz m u).run P W=.ok r.toArray W) /\
   (∀j x,g j x->j<m/\∃q:Value,D3 (Own s) w x q/\q.cells.size=sz/\Hd q.cells.toList/\∀l,l<sz->r[j*sz+l]? = q.cells[l]?):=by
  rcases hs with ⟨rfl,bw,a,c,rfl⟩|⟨b,o,c,r,rfl,h1,h2,h3,h4⟩
  .refine⟨a,c,[],q_,by simp,by simp[Hd],λW _=>?_,λj x h=>zW h (bw j x)⟩;cases a<;>simp[Builtin.firstCells,loadCells,loadCellsFrom]
  .refine⟨some ⟨b,o,none⟩,c,r,q_,h1,h2,λ W hW=>?_,λ j x hx=>h4 j x hx⟩;exact run_firstCells_some (P:=P) W sz m ⟨b,o,none⟩ m c r h1 (λ j q I=>by
    rw[Addr.add_lit];have h5:=h3 j q I;rw[hW _ (by exact World.block_lt_of_cell? w _ h5),h5])
 subst hu;have ep:∀old,n+m<=grownCap w (n+m) old e:=λold=>grownCap_ge w (n+m) old e
 have fm:∀old,old<n+m->¬(281474976710656<Builtin.nextslicecap (n+m) old*i.bytes):=λold ho=>by have:=growslice_fits ho bz;omega
 have d9:∀(bj:List Value) (old:Nat) (j6:bj.length=n*sz) (wo:∀j x,f j x->j<n->∃q:Value,D3 (Own s) w x q/\q.cells.size=sz/\Hd q.cells.toList/\∀l,l<sz->bj[j*sz+l]? = q.cells[l]?),
   let w':=w.drew.alloc (.cells (bj.toArray++r.toArray++Builtin.zeroCells z.cells (grownCap w (n+m) old e-(n+m))) e)
   let s':=H4 (nG s k) d (.row w.heap.size (n+m) (grownCap w (n+m) old e))
   En (λj=>k=some j\/j=d) s w s' w'/\Inv s' w'/\Rd s' w' (.osl d) (.slice (some ⟨w.heap.size,0,none⟩) (n+m) (grownCap w (n+m) old e))/\Hn s' w' d sz (n+m) (Aw2 n f g):=by
  intro bj old j6 wo w' s';have s1:=Lx (κ:=s) (w:=w) k;have np:(nG s k) d=.new:=by
   cases k with
   |none=>exact hd
   |some k=>
    by_cases cd:d=k
    .exfalso;subst cd;rcases hb with ⟨h,_⟩|⟨_,_,b,cap,h,_⟩<;>rw[hd]at h<;>cases h
    .simp only[nG];rw[C4 _ _ cd];exact hd
  have g0:Kb w w':=(Kb.drew w).trans (Kb.alloc _ _);have s2:=Lm (Oz hi k) np (e:=.row w.heap.size (n+m) (grownCap w (n+m) old e)) g0 (λ b hb=>by
   simp only[Ent.block?,Option.some.injEq]at hb;subst hb;exact⟨yG _,by simp[w']⟩)
  have s3:En (λj=>k=some j\/j=d) s w s' w':=(s1.weaken (λj I=>.inl I)).trans (s2.1.weaken (λj I=>.inr I));refine⟨s3,s2.2,by simp[Rd,s',Az],?_⟩;refine⟨w.heap.size,grownCap w (n+m) old e,bj++r++(Builtin.zeroCells z.cells (grownCap w (n+m) old e-(n+m))).toList,e,(0,0),Az _ _ _,?_,Aa3.zero _,?_,ep old,?_⟩
  .have:w'.heap[w.heap.size]? = some (.cells (bj.toArray++r.toArray++Builtin.zeroCells z.cells (grownCap w (n+m) old e-(n+m))) e):=heap_alloc_new w.drew _;rw[this];congr 2;apply Array.ext';simp
  .simp only[zR,j6,lh,wV,X6,ov];rw[<-xA,<-xA];have:=ep old;rw[show n+m+(grownCap w (n+m) old e-(n+m))=grownCap w (n+m) old e from by omega];exact yG _
  .rintro j x (⟨I,hx⟩|⟨I,hx⟩)
   .obtain ⟨q,J,R,q3,q4⟩:=wo j x hx I;refine⟨by omega,q,D3.keep s3.keeps _ _ J,R,q3,λl hl=>?_⟩;have:(j+1)*sz<=n*sz:=yU sz j_;rw[xA,wC]at this;rw[yW,xM j_,q4 l hl]
   .obtain ⟨h0,q,J,R,q3,q4⟩:=t8 _ x hx;refine⟨by omega,q,D3.keep s3.keeps _ _ J,R,q3,λl hl=>?_⟩;have e1:j*sz=n*sz+(j-n)*sz:=by rw[<-xA];congr 1;omega
    have:(j-n+1)*sz<=m*sz:=yU sz j_;rw[xA,wC]at this;rw[yW,wD j_,xM j_,<-q4 l hl];congr 1;omega
 cases k with
 |none=>
  obtain ⟨rfl,rfl⟩:=hb;by_cases hm:m=0
  .subst hm;have st:=Lm hi hd (e:=.nil) (Kb.refl w) (λb hb=>by cases hb);refine⟨.slice none 0 0,w,H4 s d .nil,?_,st.1.weaken (λj I=>.inr I),st.2,by simp[Rd,Az],.inl ⟨Az _ _ _,q_⟩⟩;have hc:=jn w (λ_ _=>rfl);simp[Builtin.append_,run_underlying ht,sizeOf,typeInfo,cy,az,Builtin.lenOf,hc]
  .obtain ⟨J,R,q3,q4⟩:=d9 [] 0 qx (λj x _ I=>zW I j_);refine⟨_,_,_,?_,J,R,q3,.inr q4⟩;have hc:=jn w.drew (λ_ _=>rfl);have ie:=fm 0 j_;have ej:¬(9223372036854775807<(m:Int)):=by omega
   simp only[xU]at ie|-;simp[Builtin.append_,run_underlying ht,sizeOf,typeInfo,zeroValue,cy,az,hz,Builtin.lenOf,hm,ej,ie,Question.forced,run_firstCells_none,hc,newRow,grownCap]
 |some k=>
  rcases hb with ⟨hk,rfl,rfl⟩|⟨dx,y5,b,cap,hk,rfl⟩
  .by_cases hm:m=0
   .subst hm;have cd:d≠k:=λe=>by subst e;rw[hd]at hk;cases hk
    have st:=Lm (Oz hi (some k)) (by show H4 s k .dead d=.new;rw[C4 _ _ cd];exact hd) (e:=.nil) (Kb.refl w) (λb hb=>by cases hb);refine⟨.slice none 0 0,w,_,?_,((Lx (some k)).weaken (λj I=>.inl I)).trans (st.1.weaken (λj I=>.inr I)),st.2,by simp[Rd,Az],.inl ⟨Az _ _ _,q_⟩⟩;have hc:=jn w (λ_ _=>rfl);simp[Builtin.append_,run_underlying ht,sizeOf,typeInfo,cy,az,Builtin.lenOf,hc]
   .obtain ⟨J,R,q3,q4⟩:=d9 [] 0 qx (λj x _ I=>zW I j_);refine⟨_,_,_,?_,J,R,q3,.inr q4⟩;have hc:=jn w.drew (λ_ _=>rfl);have ie:=fm 0 j_;have ej:¬(9223372036854775807<(m:Int)):=by omega
    simp only[xU]at ie|-;simp[Builtin.append_,run_underlying ht,sizeOf,typeInfo,zeroValue,cy,az,hz,Builtin.lenOf,hm,ej,ie,Question.forced,run_firstCells_none,hc,newRow,grownCap]
  .obtain ⟨b',dy,li,ig⟩:=dx.src y5;rw[hk]at li;cases li;have qy:=dx;obtain ⟨b',dy,cs,T,fr,e1,e2,e3,e4,e5,e6⟩:=qy;rw[hk]at e1;cases e1;by_cases bf:n+m<=cap
   .have cd:k≠d:=λe=>by subst e;rw[hk]at hd;cases hd
    have mj:(n+m)*sz<=cs.length:=wI (yU sz bf) e4;rw[xA]at mj;obtain ⟨w',f1,f2,f3,f4,f5,f6,f7⟩:=Ej P b (n*sz) T fr r 0 cs w e2 e3 j_ vf;obtain ⟨st,inv⟩:=Vm (n':=n+m) hi hk hd f3 f4 f5 f6 f7;refine⟨.slice (some ⟨b,0,none⟩) (n+m) cap,w',_,?_,st.weaken (λj I=>I.imp (λh=>by rw[h]) id),inv,by simp[Rd,Az],.inr ?_⟩
    .have hc:=jn w (λ_ _=>rfl);simp[Builtin.append_,run_underlying ht,sizeOf,typeInfo,cy,az,Builtin.lenOf,bf,hc,Addr.add_lit,f1]
    .refine⟨b,cap,_,T,fr,Az _ _ _,kS f2,by rw[C8];exact e3,by rw[C8];exact e4,bf,?_⟩;have bc:=T3 cs r (n*sz);rintro j x (⟨I,hx⟩|⟨I,hx⟩)
     .obtain ⟨_,q,J,R,q3,q4⟩:=e6 j x hx;refine⟨by omega,q,D3.keep st.keeps _ _ J,R,q3,λl hl=>?_⟩;have:(j+1)*sz<=n*sz:=yU sz j_;rw[xA,wC]at this;rw[bc _ j_,zD j_,q4 l hl]
     .obtain ⟨h0,q,J,R,q3,q4⟩:=t8 _ x hx;refine⟨by omega,q,D3.keep st.keeps _ _ J,R,q3,λl hl=>?_⟩;have e1:j*sz=n*sz+(j-n)*sz:=by rw[<-xA];congr 1;omega
      have:(j-n+1)*sz<=m*sz:=yU sz j_;rw[xA,wC]at this;rw[bc _ j_,zE j_,<-q4 l hl];congr 1;omega
   .rcases ig with ⟨rfl,bw,a',c',he⟩|⟨b2,o2,c2,bj,he,g1,g2,g3,g4⟩
    .obtain ⟨J,R,q3,q4⟩:=d9 [] cap qx (λj x _ I=>zW I j_);refine⟨_,_,_,?_,J,R,q3,.inr q4⟩;have hc:=jn w.drew (λ_ _=>rfl);have ie:=fm cap j_;have ej:¬(9223372036854775807<(m:Int)):=by omega
     have mo:¬(m<=cap):=by omega
     have mq:=run_firstCells_some (P:=P) w.drew sz 0 ⟨b,0,none⟩ 0 cap [] qx (λj v I=>by simp at I);simp only[xU]at ie|-;simp[Builtin.append_,run_underlying ht,sizeOf,typeInfo,zeroValue,cy,az,hz,Builtin.lenOf,mo,ej,ie,Question.forced,mq,hc,newRow,grownCap]
    .cases he;obtain ⟨J,R,q3,q4⟩:=d9 bj cap g1 (λj x hx I=>(g4 j x hx).2);refine⟨_,_,_,?_,J,R,q3,.inr q4⟩;have hc:=jn w.drew (λ_ _=>rfl);have ie:=fm cap j_;have ej:¬(9223372036854775807<(n:Int)+(m:Int)):=by omega
     have mq:=run_firstCells_some (P:=P) w.drew sz n ⟨b,0,none⟩ n cap bj g1 (λ j v I=>by
      have:=g3 j v I;rw[Addr.add_lit];simpa using this)
     simp[Builtin.append_,run_underlying ht,sizeOf,typeInfo,zeroValue,cy,az,hz,Builtin.lenOf,bf,ej,ie,Question.forced,mq,hc,newRow,grownCap];congr 2;apply Array.ext';simp[yW]
def Ac4{P:Program}:∀{i:List Field} {r:List (Nat×Nat)} {f:Nat} {o n:Nat},Lt P i r->r[f]? = some (o,n)->∃x,i[f]? = some x/\x.offset=o/\(P.info? x.type).map (·.size)=some n
 |[],[],f,o,n,_,h=>by simp at h
 |[],_::_,f,o,n,h,_=>by simp[Lt]at h
 |_::_,[],f,o,n,h,_=>by simp[Lt]at h
 |x::i,(j,n')::r,0,o,n,h,g=>by
  simp only[Lt]at h;simp only[tK,Option.some.injEq,Prod.mk.injEq]at g;exact⟨x,by simp,by rw[h.1];exact g.1,by rw[h.2.1,g.2]⟩
 |x::i,(j,n')::r,f+1,o,n,h,g=>by
  simp only[Lt]at h;obtain ⟨y,l,p⟩:=Ac4 (f:=f) h.2.2 (kS g);exact⟨y,kS l,p⟩
def bX{P:Program}(Γ:Ty P){t:TypeId}{j:TI}{p:List (Nat×Nat)}{f o n:Nat}(I:Γ.get t=some j)(J:j.k=.struct p)(R:p[f]? = some (o,n))(hn:n≠0)(w:World)(b off:Nat):(Instr.fieldAt t (.pointer (some ⟨b,off,none⟩)) f).run P w=.ok (.pointer (some ⟨b,off+o,none⟩)) w:=by
 obtain ⟨d,info,z,k1,k2,k3,k4,k5,k6⟩:=Γ.ok t j I;rw[J]at k2;simp only[TK.ok]at k2;obtain ⟨a,rfl,k2⟩:=k2;obtain ⟨x,h1,h2,i⟩:=Ac4 k2 R;obtain ⟨g,h4,h5⟩:∃g,P.info? x.type=some g/\g.size=n:=by
  cases r:P.info? x.type with
  |none=>rw[r]at i;cases i
  |some g=>rw[r]at i;exact⟨g,rfl,kS i⟩
 have l:a[f]? = some x:=kS h1;simp[Instr.fieldAt,run_underlying k1,l,Instr.sureAddr,fieldPlace,sizeOf,typeInfo,h4,h5,hn,Addr.add_lit,h2]
def Si{P:Program}(Γ:Ty P){o:Oper}{s:SS}{t:TypeId}{ti:TI}{fs:List (Nat × Nat)}{x:Operand}{f j fn:Nat}(h:o.op=.fieldAddr t x f)(I:Γ.get t=some ti)(J:ti.k=.struct fs)(R:fs[f]? = some (j,fn))(hn:fn≠0){y:SV}{rd:List Nat}(hy:(∃ k off l,ev s x=.ptr k off/\s.h k=.box l/\rd=[k]/\y=.ptr k (off+j))\/(∃ sz z off,ev s x=.ref sz z off/\rd=[]/\y=.ref sz z (off+j)) \/
   (∃ k sz i off,ev s x=.rpt k sz i off/\(∀ m w,B3 m w k (s.h k)->∃ b n c,m k=.row b n c)/\rd=[k]/\y=.rpt k sz i (off+j))):Good P o s ⟨y,rd,[]⟩ :=
 Good.pure λm a w _ hr ho=>by
  have g:=hr x (by simp[h,Op.operands]);rcases hy with ⟨k,off,l,r,hl,rfl,rfl⟩|⟨sz,z,off,r,rfl,rfl⟩|⟨k,sz,i,off,r,hl,rfl,rfl⟩
  .have h2:=ho k qx;rw[hl]at h2;obtain ⟨b,cs,T,fr,p,_⟩:=h2;rw[r]at g;simp only[Rd,p]at g;exact⟨.pointer (some ⟨b,off+j,none⟩),by simp[execOp,h,g,bX Γ I J R hn],by simp[Rd,p]⟩
  .rw[r]at g;simp only[Rd,D3]at g;obtain ⟨b,oo,u,p,e2⟩:=g;refine⟨.pointer (some ⟨b,oo+off+j,none⟩),by simp[execOp,h,p,bX Γ I J R hn],?_⟩;simp only[Rd,D3];exact⟨b,oo,u,by rw[uD],e2⟩
  .obtain ⟨b,n,c,p⟩:=hl m w (ho k qx);rw[r]at g;simp only[Rd,p]at g;exact⟨.pointer (some ⟨b,i*sz+off+j,none⟩),by simp[execOp,h,g,bX Γ I J R hn],by simp[Rd,p,uD]⟩
def J6{P:Program}{o:Oper}{s:SS}{x:Operand}{rd:List Nat}(h:o.op=.nilCheck x)(J:(∃ k off l,ev s x=.ptr k off/\s.h k=.box l/\rd=[k])\/(∃ sz z off,ev s x=.ref sz z off/\rd=[])\/(∃ f first cap,ev s x=.clo (.func f) first cap/\rd=[]) \/
   (∃ k sz i off,ev s x=.rpt k sz i off/\(∀ m w,B3 m w k (s.h k)->∃ b n c,m k=.row b n c)/\rd=[k])):Good P o s ⟨ev s x,rd,[]⟩ :=
 Good.pure λm a w _ R t=>by
  have g:=R x (by simp[h,Op.operands]);refine⟨a.eval x,?_,g⟩;rcases J with ⟨k,off,l,j,r,rfl⟩|⟨sz,z,off,j,rfl⟩|⟨f,first,cap,j,rfl⟩|⟨k,sz,i,off,j,r,rfl⟩
  .have I:=t k qx;rw[r]at I;obtain ⟨b,cs,T,fr,p,_⟩:=I;rw[j]at g;simp only[Rd,p]at g;simp[execOp,h,g]
  .rw[j]at g;simp only[Rd,D3]at g;obtain ⟨b,oo,u,p,e2⟩:=g;simp[execOp,h,p]
  .rw[j]at g;simp only[Rd]at g;obtain ⟨fs,cs,p,_⟩:=g;simp[execOp,h,p]
  .obtain ⟨b,n,c,p⟩:=r m w (t k qx);rw[j]at g;simp only[Rd,p]at g;simp[execOp,h,g]
def Di{P:Program}(Γ:Ty P){t:TypeId}{g:TI}{e:TypeId}{sz j:Nat}{l:List Value}(o:Γ.get t=some g)(p:g.k=.slice e sz j l):P.underlying t=some (.slice e)/\∃i z,P.info? e=some i/\i.size=sz/\i.bytes=j/\i.zero=some z/\z.cells.toList=l:=by
 obtain ⟨d,info,z,k1,k2,k3,k4,k5,k6⟩:=Γ.ok t g o;rw[p]at k2;simp only[TK.ok]at k2;obtain ⟨rfl,k2⟩:=k2;exact⟨k1,k2⟩
def Sh{P:Program}(Γ:Ty P){o:Oper}{s:SS}{t:TypeId}{j:TI}{et:TypeId}{sz J:Nat}{R:List Value}{x y:Operand}{ik:IntKind}{n:Int}{c:Type}{e:c->SV}{l:List c}(h:o.op=.indexAddr t x y)(ht:Γ.get t=some j)(hk:j.k=.slice et sz J R)(hx:ev s x=.sl sz e l)(hy:ev s y=.val (.int ik n))(h0:0<=n)(p:n.toNat<l.length):Good P o s ⟨.ref sz (e l[n.toNat]) 0,[],[]⟩ :=
 Good.pure λm a w _ r _=>by
  have g:=r x (by simp[h,Op.operands]);have I:=r y (by simp[h,Op.operands]);rw[hx]at g;rw[hy]at I;obtain ⟨hu,i,z,q1,q2,q3,q4,q5⟩:=Di Γ ht hk;simp only[Rd,D3]at g;rcases g with ⟨rfl,_⟩|⟨b,off,cap,e1,e0,e2,e3,e4⟩
  .simp at p
  .obtain ⟨u,e5,e6⟩:=e4 n.toNat p;have ab:n<l.length:=by omega
   refine⟨.pointer (some ⟨b,off+n.toNat*sz,none⟩),?_,?_⟩
   .simp[execOp,h,e1,I.val,Instr.indexAt,run_underlying hu,asIntOf,h0,ab,sizeOf,typeInfo,q1,q2,Addr.add_lit]
   .simp only[Rd,D3];exact⟨b,off+n.toNat*sz,u,q_,e2,e3,e5,e6⟩
def Ob.len:Ob->Option Nat
 | .row _ _ l=>some l.length
 | .lit _ g=>some g.length
 | .rown _ _ l _ _=>some l.length
 |_=>none
theorem Ob.len_ok{m:Ka}{w:World}{k n:Nat}:∀{ob:Ob} {v:Value},ob.len=some n->B3 m w k ob->Rd m w (.osl k) v->∃a cap,v=.slice a n cap/\(n≠0->∃b c,m k=.row b n c/\a=some ⟨b,0,none⟩)
 | .row sz e l,v,g,h,j=>by
  simp only[Ob.len,Option.some.injEq]at g;rcases h with ⟨o,r⟩|⟨b,cap,cs,T,p,o,_⟩
  .simp only[Rd,o]at j;subst r;simp at g;exact⟨none,0,by rw[j,g],λh=>zW g.symm h⟩
  .simp only[Rd,o]at j;rw[g]at o j;exact⟨_,cap,j,λ_=>⟨b,cap,o,q_⟩⟩
 | .lit sz l,v,g,h,j=>by
  simp only[Ob.len,Option.some.injEq]at g;obtain ⟨b,cap,cs,T,p,o,_⟩:=h;simp only[Rd,o]at j;rw[g]at o j;exact⟨_,cap,j,λ_=>⟨b,cap,o,q_⟩⟩
 | .fresh,_,g,_,_=>by cases g
 | .non,_,g,_,_=>by cases g
 | .box _,_,g,_,_=>by cases g
 | .glob ..,_,g,_,_=>by cases g
 | .pin ..,_,g,_,_=>by cases g
 | .dat ..,_,g,_,_=>by cases g
 | .tbox ..,_,g,_,_=>by cases g
 | .trow ..,_,g,_,_=>by cases g
 | .rown sz e l i t,v,g,h,j=>by
  simp only[Ob.len,Option.some.injEq]at g;obtain ⟨b,cap,cs,T,p,o,_⟩:=h;simp only[Rd,o]at j;rw[g]at o j;exact⟨_,cap,j,λ_=>⟨b,cap,o,q_⟩⟩
def Qe{P:Program}(Γ:Ty P){o:Oper}{s:SS}{t:TypeId}{g:TI}{et:TypeId}{sz r len:Nat}{I:List Value}{x y:Operand}{J:IntKind}{n:Int}{k:Nat}(h:o.op=.indexAddr t x y)(R:Γ.get t=some g)(hk:g.k=.slice et sz r I)(hx:ev s x=.osl k)(hl:(s.h k).len=some len)(hy:ev s y=.val (.int J n))(h0:0<=n)(hn:n.toNat<len):Good P o s ⟨.rpt k sz n.toNat 0,[k],[]⟩ :=
 Good.pure λm a w _ j ho=>by
  have l:=j x (by simp[h,Op.operands]);have p:=j y (by simp[h,Op.operands]);rw[hx]at l;rw[hy]at p;obtain ⟨hu,i,z,q1,q2,q3,q4,q5⟩:=Di Γ R hk;obtain ⟨ad,cap,e1,e2⟩:=Ob.len_ok hl (ho k qx) l;obtain ⟨b,c,e3,rfl⟩:=e2 j_;have ab:n<len:=by omega
  refine⟨.pointer (some ⟨b,n.toNat*sz,none⟩),?_,by simp[Rd,e3]⟩;simp[execOp,h,e1,p.val,Instr.indexAt,run_underlying hu,asIntOf,h0,ab,sizeOf,typeInfo,q1,q2,Addr.add_lit]
def Aj3{P:Program}(Γ:Ty P){o:Oper}{s:SS}{t:TypeId}{I:TI}{x:Operand}{at_:Array TypeId}{n:Nat}{rd:List Nat}(h:o.op=.call ⟨.builtin .len,#[x],at_⟩)(J:at_[0]? = some t)(R:Γ.get t=some I){et:TypeId}{sz eb:Nat}{ez:List Value}(hk:I.k=.slice et sz eb ez)(j:(∃(z:Nat) (d:Type) (e:d->SV) (l:List d),ev s x=.sl z e l/\n=l.length/\rd=[])\/(∃k,ev s x=.osl k/\(s.h k).len=some n/\rd=[k])\/(∃a c,ev s x=.val (.slice a n c)/\rd=[])):Good P o s ⟨.val (.int .i64 n),rd,[]⟩ :=
 Good.pure λm a w _ hr ho=>by
  have p:=hr x (by simp[h,Op.operands,Call.operands]);obtain ⟨hu,i,z,q1,q2,q3,q4,q5⟩:=Di Γ R hk;have key:∃g cap,a.eval x=.slice g n cap:=by
   rcases j with ⟨z,d,e,l,j,rfl,rfl⟩|⟨k,j,hl,rfl⟩|⟨g,c,j,rfl⟩
   .rw[j]at p;simp only[Rd,D3]at p;rcases p with ⟨rfl,g,cap,r⟩|⟨b,off,cap,r,_⟩
    .exact⟨g,cap,r⟩
    .exact⟨_,cap,r⟩
   .rw[j]at p;obtain ⟨g,cap,r,_⟩:=Ob.len_ok hl (ho k qx) p;exact⟨g,cap,r⟩
   .rw[j]at p;exact⟨g,c,p.val⟩
  obtain ⟨g,cap,r⟩:=key;refine⟨.int .i64 n,?_,by simp[Rd]⟩;simp[execOp,h,resolve,invoke,builtin,Builtin.len_,J,r,run_underlying hu,goInt]
def Ag8{P:Program}(Γ:Ty P){o:Oper}{s:SS}{t:TypeId}{g:TI}{x:Operand}{at_:Array TypeId}{b:ByteArray}(h:o.op=.call ⟨.builtin .len,#[x],at_⟩)(j:at_[0]? = some t)(l:Γ.get t=some g)(p:g.k=.string)(r:ev s x=.val (.string b)):Good P o s ⟨.val (.int .i64 b.size),[],[]⟩ :=
 Good.pure λm a w _ I J=>by
  have i:=I x (by simp[h,Op.operands,Call.operands]);rw[r]at i;obtain ⟨d,info,z,k1,k2,k3,k4,k5,k6⟩:=Γ.ok t g l;rw[p]at k2;simp only[TK.ok]at k2;subst k2;refine⟨.int .i64 b.size,?_,by simp[Rd]⟩;simp[execOp,h,resolve,invoke,builtin,Builtin.len_,j,i.val,run_underlying k1,goInt]
def Bcd{P:Program}{o:Oper}{s:SS}{t:TypeId}{x:Operand}{b:Bool}(h:o.op=.unOp .not t x)(i:ev s x=.val (.bool b)):Good P o s ⟨.val (.bool (!b)),[],[]⟩ :=
 Good.pure λk a w _ j _=>by
  have g:=j x (by simp[h,Op.operands]);rw[i]at g;exact⟨.bool (!b),by simp[execOp,h,g.val,Op.unary],by simp[Rd]⟩
def Bce{P:Program}{o:Oper}{s:SS}{t:TypeId}{x:Operand}{k:IntKind}{n:Int}(h:o.op=.unOp .neg t x)(i:ev s x=.val (.int k n)):Good P o s ⟨.val (.int k (k.wrap (0-n))),[],[]⟩ :=
 Good.pure λb a w _ j _=>by
  have g:=j x (by simp[h,Op.operands]);rw[i]at g;exact⟨.int k (k.wrap (0-n)),by simp[execOp,h,g.val,Op.unary,Op.intArith],by simp[Rd]⟩
def Aez{P:Program}(Γ:Ty P){o:Oper}{s:SS}{src dst:TypeId}{l i:TI}{x:Operand}{k g:IntKind}{n:Int}(h:o.op=.convert src dst x)(r:Γ.get src=some l)(t:Γ.get dst=some i)(I:i.k=.int g)(J:ev s x=.val (.int k n)):Good P o s ⟨.val (.int g (g.wrap n)),[],[]⟩ :=
 Good.pure λb a w _ R _=>by
  have p:=R x (by simp[h,Op.operands]);rw[J]at p;obtain ⟨d,info,z,k1,k2,_⟩:=Γ.ok dst i t;obtain ⟨d',y6,z',j,_⟩:=Γ.ok src l r;rw[I]at k2;simp only[TK.ok]at k2;subst k2;exact⟨.int g (g.wrap n),by simp[execOp,h,p.val,convert,run_underlying k1,run_underlying j,Conv.intToInt],by simp[Rd]⟩
def lH{P:Program}(Γ:Ty P){o:Oper}{s:SS}{src dst:TypeId}{i j:TI}{x:Operand}{b:ByteArray}(h:o.op=.convert src dst x)(r:Γ.get src=some i)(t:Γ.get dst=some j)(I:i.k=.string)(J:j.k=.string)(R:ev s x=.val (.string b)):Good P o s ⟨.val (.string b),[],[]⟩ :=
 Good.pure λm a w _ hr _=>by
  have p:=hr x (by simp[h,Op.operands]);rw[R]at p;obtain ⟨d,info,z,k1,k2,_⟩:=Γ.ok dst j t;obtain ⟨d',y6,z',l,g,_⟩:=Γ.ok src i r;rw[J]at k2;rw[I]at g;simp only[TK.ok]at k2 g;subst k2 g;exact⟨.string b,by simp[execOp,h,p.val,convert,run_underlying k1,run_underlying l],by simp[Rd]⟩
theorem B8.getT{k:Ka}{w:World}{n:Nat}{l:List SV}{cs:List Value}{x:SV}(h:B8 k w l cs)(g:Lr l n=some x):∃v,cs.toArray[n]? = some v/\Rd k w x v:=by
 obtain ⟨v,i,j⟩:=h.get g;exact⟨v,kS i,j⟩
def Aqy{P:Program}{o:Oper}{s:SS}{x:Operand}{i:Nat}{l:List SV}{y:SV}(h:o.op=.extract x i)(p:ev s x=.tup l)(r:Lr l i=some y):Good P o s ⟨y,[],[]⟩ :=
 Good.pure λk a w _ t _=>by
  have g:=t x (by simp[h,Op.operands]);rw[p]at g;simp only[Rd]at g;obtain ⟨cs,I,J⟩:=g;obtain ⟨v,j,R⟩:=J.getT r;exact⟨v,by simp[execOp,h,I,Instr.extract]at j|-;simp[j],R⟩
def Aaj{P:Program}(Γ:Ty P){o:Oper}{s:SS}{t:TypeId}{g:TI}{x:Operand}(h:o.op=.makeInterface t x)(i:Γ.get t=some g)(j:g.k matches .bool| .int _| .string| .slice .. | .struct _| .ptr| .func):Good P o s ⟨.ifc t (ev s x),[],[]⟩ :=
 Good.pure λm a w _ l _=>by
  have p:=l x (by simp[h,Op.operands]);obtain ⟨d,info,z,k1,k2,_⟩:=Γ.ok t g i;refine⟨.iface t (a.eval x),?_,by simp only[Rd];exact⟨_,q_,p⟩⟩;obtain ⟨k,n,r⟩:=g;cases k<;>simp only[TK.ok]at k2<;>first
   |(subst k2;simp[execOp,h,Instr.makeInterface,run_underlying k1];done)
   |(obtain ⟨a,rfl,_⟩:=k2;simp[execOp,h,Instr.makeInterface,run_underlying k1];done)
   |(obtain ⟨rfl,_⟩:=k2;simp[execOp,h,Instr.makeInterface,run_underlying k1];done)
   |(obtain ⟨a,b,c,rfl⟩:=k2;simp[execOp,h,Instr.makeInterface,run_underlying k1];done)
   |(obtain ⟨a,rfl⟩:=k2;simp[execOp,h,Instr.makeInterface,run_underlying k1];done)
   |simp at j
def Xs{k:Ka}{w:World}{s:SS}{a:Act}:∀(xs:List Operand),(∀x∈xs,Rd k w (ev s x) (a.eval x))->B8 k w (xs.map (ev s)) (xs.map a.eval)
 |[],_=>by simp[B8]
 |x::xs,h=>by
  simp only[xR,B8];exact⟨_,_,q_,h x qx,Xs xs (λy g=>h y (by simp[g]))⟩
def Amc{P:Program}{o:Oper}{s:SS}{fn:Fn}{ys xs:List Operand}(h:o.op=.makeFunc fn ys.toArray xs.toArray):Good P o s ⟨.clo fn (ys.map (ev s)) (xs.map (ev s)),[],[]⟩ :=
 Good.pure λk a w _ i _=>by
  refine⟨.func fn (ys.map a.eval).toArray (xs.map a.eval).toArray,by simp[execOp,h,Instr.makeFunc],?_⟩;simp only[Rd];exact⟨_,_,q_,Xs ys (λx g=>i x (by simp[h,Op.operands,g])),Xs xs (λx g=>i x (by simp[h,Op.operands,g]))⟩
def Aoc(off:Nat):∀(vs:List Value) (n:Nat) (cs:Array Value),off+n+vs.length<=cs.size ->
  ((vs.zipIdx n).foldl (λ(cs:Array Value) (p:Value×Nat)=>cs.setIfInBounds (off+p.2) p.1) cs).toList=setV cs.toList (off+n) vs
 |[],n,cs,_=>by cases h:cs.toList<;>simp[setV,h]
 |v::vs,n,cs,h=>by
  simp only[List.zipIdx_cons,vG];rw[Aoc off vs (n+1) _ (by simp at h|-;omega)];simp only[Array.toList_setIfInBounds];rw[W7 _ _ _ (by simp at h|-;omega),W7 _ _ _ (by simp at h|-;omega)];have:=list_seg_step cs.toList (off+n) v vs (by simp at h|-;omega);simpa [uD] using this
def Aoe(v:Value)(off:Nat)(cs:Array Value)(h:off+v.cells.size<=cs.size):(v.cells.zipIdx.foldl (λcs (c,j)=>cs.setIfInBounds (off+j) c) cs).toList=setV cs.toList off v.cells.toList:=by
 have:=Aoc off v.cells.toList 0 cs (kS h);rw[uO]at this;rw[<-this,<-Array.foldl_toList,Array.toList_zipIdx]
def Akb(g:List (Nat×Nat)):List SV->List (Nat×SV)->Option (List SV)
 |cells,[]=>some cells
 |cells,(i,v)::r=>
  match g[i]? with
  |none=>none
  |some (off,size)=>bif Nat.beq (cellsOf v).length size&&Nat.ble (off+size) cells.length&&v.boxed then Akb g (setAt cells off (cellsOf v)) r else none
def Arb{κ:Ka}{w:World}{s:SS}{a:Act}{l:List (Nat×Nat)}:∀(ps:List (Nat×Operand)) (cells out:List SV) (cs:Array Value),B8 κ w cells cs.toList->Hd cs.toList->(∀p∈ps,Rd κ w (ev s p.2) (a.eval p.2)) ->
  Akb l cells (ps.map λp=>(p.1,ev s p.2))=some out->∃r:Array Value,Instr.fill (λi=>l[i]?) cs (ps.map λp=>(p.1,a.eval p.2))=some r/\B8 κ w out r.toList/\Hd r.toList
 |[],cells,out,cs,h,o,_,g=>by
  simp only[vW,Akb,Option.some.injEq]at g;subst g;exact⟨cs,by simp[Instr.fill],h,o⟩
 |(i,x)::ps,cells,out,cs,h,o,J,g=>by
  simp only[xR,Akb]at g;cases hp:l[i]? with
  |none=>rw[hp]at g;cases g
  |some os=>
   obtain ⟨off,size⟩:=os;rw[hp]at g;simp only[uL]at g;split at g
   .rename_i P;simp only[zG]at P;obtain ⟨⟨t,R⟩,c3⟩:=P;have t:=yN t;have R:=wG R;have I:=(J (i,x) qx).cells c3;have j:=I.2.length;have i7:=h.length;have az:(a.eval x).cells.size=size:=by rw[<-t,<-j];simp
    have ox:off+(a.eval x).cells.size<=cs.size:=by rw[az];simp at i7;omega
    have il:=Aoe (a.eval x) off cs ox;obtain ⟨r,r1,r2,r3⟩:=Arb ps _ out _ (by rw[il];exact h.setAt off I.2) (by rw[il];exact o.setV off I.1) (λp hp=>J p (by simp[hp])) g;refine⟨r,?_,r2,r3⟩;simp only[xR,Instr.fill,hp];rw[zD]
    .exact r1
    .simp only[yR,zK,vY];exact⟨kS az,by omega⟩
   .cases g
def run_places{P:Program}(w:World):∀(i:List Field) (r:List (Nat×Nat)),Lt P i r->(i.mapM (λf=>do pure (f.offset,<-sizeOf f.type)):Sem (List (Nat×Nat))).run P w=.ok r w
 |[],[],_=>by simp
 |[],_::_,h=>by simp[Lt]at h
 |_::_,[],h=>by simp[Lt]at h
 |f::i,(o,n)::r,h=>by
  simp only[Lt]at h;have l:=run_places w i r h.2.2;obtain ⟨g,t,I⟩:∃g,P.info? f.type=some g/\g.size=n:=by
   have j:=h.2.1;cases p:P.info? f.type with
   |none=>rw[p]at j;cases j
   |some g=>rw[p]at j;exact⟨g,rfl,kS j⟩
  simp only[List.mapM_cons,Sem.run_bind,sizeOf,typeInfo,run_program,Result.andThen_ok,t,Sem.run_pure,I,h.1]at l|-;rw[l];simp
def A0y{P:Program}(Γ:Ty P){o:Oper}{s:SS}{t:TypeId}{g:TI}{j:List (Nat×Nat)}{ps:List (Nat×Operand)}{out:List SV}(h:o.op=.build t ps.toArray)(J:Γ.get t=some g)(R:g.k=.struct j)(h1:Afx g.zero=true)(hf:Akb j (g.zero.map .val) (ps.map λp=>(p.1,ev s p.2))=some out):Good P o s ⟨.agg out,[],[]⟩ :=
 Good.pure λb a w _ hr _=>by
  obtain ⟨d,info,z,k1,k2,k3,k4,k5,k6⟩:=Γ.ok t g J;rw[R]at k2;simp only[TK.ok]at k2;obtain ⟨fa,rfl,k2⟩:=k2;have l:∀ p∈ps,Rd b w (ev s p.2) (a.eval p.2):=λ p hp=>hr p.2 (by
   simp only[h,Op.operands];simp only[List.mem_toArray,yT];exact⟨p,hp,q_⟩)
  obtain ⟨r,r1,r2,r3⟩:=Arb (κ:=b) (w:=w) (a:=a) ps _ out z.cells (by rw[k6];exact Adu _) (by rw[k6];exact cS h1) l hf;have bd:(fa.mapM (λf=>do pure (f.offset,<-sizeOf f.type)):Sem (Array (Nat×Nat))).run P w=.ok j.toArray w:=by
   rw[Array.mapM_eq_mapM_toList];simp only[Sem.run_map,run_places w _ _ k2,Result.andThen_ok]
  refine⟨.agg r,?_,?_⟩
  .have I:(λ(i:Nat)=>j.toArray[i]?)=(λ(i:Nat)=>j[i]?):=by funext i;simp
   simp only[execOp,h,Sem.run_bind,Instr.build,zeroValue,typeInfo,run_program,Result.andThen_ok,k3,k5,Sem.run_pure,run_underlying k1,bd,I,List.map_toArray];rw[r1];simp
  .simp only[Rd];exact⟨r.toList,by simp,r3,r2⟩
def Vz:Nat->List (Nat×Operand)->Option (List Operand)
 |_,[]=>some []
 |k,(i,x)::r=>bif Nat.beq i k then (Vz (k+1) r).map (x::·) else none
def Afj:∀(ps:List (Nat×Operand)) (k:Nat) (xs:List Operand),Vz k ps=some xs->ps=(xs.zipIdx k).map λp=>(p.2,p.1)
 |[],k,xs,h=>by simp only[Vz,Option.some.injEq]at h;subst h;rfl
 |(i,x)::r,k,xs,h=>by
  simp only[Vz,uL]at h;split at h
  .rename_i j;have:=yN j;subst this;cases g:Vz (i+1) r with
   |none=>rw[g]at h;cases h
   |some ys=>
    rw[g]at h;simp only[vO,Option.some.injEq]at h;subst h;simp[List.zipIdx_cons,Afj r _ ys g]
  .cases h
def Av1(sz:Nat):∀(vs:List Value) (k:Nat) (cs:Array Value),cs.size=(k+vs.length)*sz->(∀v∈vs,v.cells.size=sz) ->
  ∃r:Array Value,Instr.fill (λi=>some (i*sz,sz)) cs ((vs.zipIdx k).map λp=>(p.2,p.1))=some r/\r.toList=cs.toList.take (k*sz)++vs.flatMap (·.cells.toList)
 | [],k,cs,h,_=>⟨cs,by simp[Instr.fill],by
   simp only[List.flatMap_nil,yV];rw[xI];simp[h]⟩
 |v::vs,k,cs,h,l=>by
  have g:=l v qx;have o:(k+(v::vs).length)*sz=k*sz+sz+vs.length*sz:=by
   simp only[yI,xA,wC];omega
  have t:k*sz+v.cells.size<=cs.size:=by rw[h,o,g];omega
  have I:=Aoe v (k*sz) cs t;have J:(v.cells.zipIdx.foldl (λcs (c,j)=>cs.setIfInBounds (k*sz+j) c) cs).size=cs.size:=by
   rw[<-wV,I,C8,wV]
  obtain ⟨r,P,R⟩:=Av1 sz vs (k+1) (v.cells.zipIdx.foldl (λ cs (c,j)=>cs.setIfInBounds (k * sz+j) c) cs) (by
   rw[J,h,o];simp only[xA,wC]) (λ u hu=>l u (by simp[hu]))
  refine⟨r,?_,?_⟩
  .simp only[List.zipIdx_cons,xR,Instr.fill];rw[zD]
   .exact P
   .simp only[yR,zK,vY];exact⟨kS g,by omega⟩
  .rw[R,I,W7 _ _ _ (kS t)];have:(k+1)*sz=(cs.toList.take (k*sz)++v.cells.toList).length:=by
    rw[zR,zY,wV,wV,g,xA,wC];omega
   rw[this,vB qx,xI (yG _),xZ,yW]
def Avz{sz:Nat}:∀(vs:List Value) (i j:Nat),(∀v∈vs,v.cells.size=sz)->j<sz->∀u,vs[i]? = some u->(vs.flatMap (·.cells.toList))[i*sz+j]? = u.cells[j]?
 |[],i,j,_,_,u,h=>by simp at h
 |v::vs,0,j,g,l,u,h=>by
  simp only[tK,Option.some.injEq]at h;subst h;have:=g v qx;rw[xZ,Nat.zero_mul,xU,xM (by simpa [this] using l)];simp
 |v::vs,i+1,j,g,l,u,h=>by
  have o:=g v qx;rw[xZ,wD (by simp only[wV,o,xA,wC];omega)];have:=Avz vs i j (λx p=>g x (by simp[p])) l u (kS h);rw[<-this];congr 1;simp only[wV,o,xA,wC];omega
def Ann(sz:Nat):List SV->Bool
 |[]=>true
 |x::l=>x.boxed&&x.data&&Nat.beq (cellsOf x).length sz&&Ann sz l
def Aet{sz:Nat}:∀{l:List SV} {i:Nat} {x:SV},Ann sz l=true->Lr l i=some x->x.boxed=true/\x.data=true/\(cellsOf x).length=sz
 |[],i,x,_,h=>by cases i<;>simp[Lr]at h
 |y::l,0,x,h,g=>by
  simp only[Ann,zG]at h;simp only[Lr,Option.some.injEq]at g;subst g;exact⟨h.1.1.1,h.1.1.2,yN h.1.2⟩
 |y::l,i+1,x,h,g=>by
  simp only[Ann,zG]at h;exact Aet h.2 g
def Ahl{k:Type 1}:∀{l:List k} {i:Nat} {x:k},Lr l i=some x->i<l.length
 |[],i,x,h=>by cases i<;>simp[Lr]at h
 |_::l,0,x,_=>by simp
 |_::l,i+1,x,h=>by have:=Ahl (l:=l) (i:=i) h;simp;omega
def dX{k:Type 1}:∀{l:List k} {i:Nat},i<l.length->∃x,Lr l i=some x
 |[],i,h=>by simp at h
 |x::l,0,_=>⟨x,rfl⟩
 |_::l,i+1,h=>dX (l:=l) (kS h)
def Ag9{P:Program}(Γ:Ty P){o:Oper}{s:SS}{t:TypeId}{ti:TI}{et:TypeId}{sz eb len:Nat}{ez:List Value}{ps:List (Nat×Operand)}{xs:List Operand}{d:Nat}(h:o.op=.buildSlice t len ps.toArray)(hd:s.h d=.fresh)(ht:Γ.get t=some ti)(hk:ti.k=.slice et sz eb ez)(hq:Vz 0 ps=some xs)(g:xs.length=len)(a2:len*sz<=16777216)(aq:Ann sz (xs.map (ev s))=true):Good P o s ⟨.osl d,[],[(d,.lit sz (xs.map (ev s)))]⟩ :=
 dS hd λc a w hi hr _ hn=>by
  have j7:=Afj ps 0 xs hq;obtain ⟨hu,i,z,q1,q2,q3,q4,q5⟩:=Di Γ ht hk;have a0:∀ x∈xs,Rd c w (ev s x) (a.eval x):=λ x J=>hr x (by
   simp only[h,Op.operands,j7];simp only[List.mem_toArray,yT];obtain ⟨j,I,rfl⟩:=yY.1 J;exact⟨(j,xs[j]),⟨(xs[j],j),by rw[tI];simp[I],q_⟩,q_⟩)
  have wq:B8 c w (xs.map (ev s)) (xs.map a.eval):=Xs xs a0;have vg:∀j x,Lr (xs.map (ev s)) j=some x->∃v,(xs.map a.eval)[j]? = some v/\Rd c w x v/\v.cells.size=sz/\Hd v.cells.toList:=λj x I=>by
   obtain ⟨v,R,h2⟩:=wq.get I;obtain ⟨c1,c2,c3⟩:=Aet aq I;obtain ⟨e1,e2⟩:=h2.cells c1;exact⟨v,R,h2,by rw[<-c3,<-e2.length];simp,e1⟩
  have mr:∀v∈xs.map a.eval,v.cells.size=sz:=λv hv=>by
   obtain ⟨j,I,rfl⟩:=yY.1 hv;obtain ⟨x,J⟩:=dX (l:=xs.map (ev s)) (i:=j) (kS I);obtain ⟨v',R,_,h2,_⟩:=vg j x J;rw[zT I]at R;simp only[Option.some.injEq]at R;rw[R];exact h2
  generalize cj:(Array.range (len*sz)).map ((if len*sz=0 then #[] else z.cells)[·%(if len*sz=0 then #[] else z.cells).size]!)=z0;have a1:z0.size=(0+(xs.map a.eval).length)*sz:=by rw[<-cj];simp[g]
  obtain ⟨r,r1,r2⟩:=Av1 sz (xs.map a.eval) 0 z0 a1 mr;have je:r.toList=(xs.map a.eval).flatMap (·.cells.toList):=by rw[r2];simp
  refine⟨.slice (some ⟨w.heap.size,0,none⟩) len len,w.alloc (.cells r et),.row w.heap.size len len,?_,Kb.alloc w _,?_,?_⟩
  .have hp:(ps.toArray.map λ(p:Nat×Operand)=>(p.1,a.eval p.2)).toList=((xs.map a.eval).zipIdx 0).map λp=>(p.2,p.1):=by
    rw[j7];simp only[List.map_toArray,tR,List.zipIdx_map];rfl
   have y8:¬(16777216<len*sz):=by omega
   simp only[execOp,h,Sem.run_bind,Instr.buildSlice,run_underlying hu,Result.andThen_ok,sizeOf,typeInfo,run_program,q1,Sem.run_pure,q2];rw[zD (kS y8)];by_cases h0:len*sz=0
   .rw[zE h0];simp only[zE h0]at cj;simp only[Sem.run_bind,Sem.run_pure,Result.andThen_ok,cj,hp,r1,newRow,run_newObj];rfl
   .rw[zD h0];simp only[zD h0]at cj;simp only[Sem.run_bind,zeroValue,typeInfo,run_program,Result.andThen_ok,q1,Sem.run_pure,q4,cj,hp,r1,newRow,run_newObj];rfl
  .intro b hb;simp only[Ent.block?,Option.some.injEq]at hb;subst hb;simp
  .intro st;refine⟨by simp[Rd,Az],w.heap.size,len,r.toList,et,(0,0),by simp[Az,g],?_,Aa3.zero _,?_,by simp[g],?_⟩
   .rw[heap_alloc_new]
   .have:=r2;have h9:r.toList.length=len*sz:=by
     rw[je];have:∀vs:List Value,(∀v∈vs,v.cells.size=sz)->(vs.flatMap (·.cells.toList)).length=vs.length*sz:=by
      intro vs
      induction vs with
      |nil=>simp
      |cons v vs ih=>
       intro hv;rw[xZ,zR,ih (λu hu=>hv u (by simp[hu])),wV,hv v qx,yI,xA,wC];omega
     rw[this _ mr];simp[g]
    omega
   .intro j x J;obtain ⟨v,R,h2,h3,h4⟩:=vg j x J;have I:j<xs.length:=by have:=Ahl J;simpa using this
    obtain ⟨c1,c2,c3⟩:=Aet aq J;refine⟨kS I,v,D3.keep st.keeps _ _ (Rd.data _ _ c2 h2),h3,h4,λm hm=>?_⟩;rw[je];exact Avz _ j m mr hm v R
def Aie{k:Type}{e:k->SV}{l:List k}(i:Nat)(h:i<l.length):∃x,U9 e l i x:=⟨_,h,rfl⟩
inductive Xt(s:SS)(sz:Nat):SV->Option Nat->Nat->(Nat->SV->Prop)->Prop
 |nil:Xt s sz (.val (.slice none 0 0)) none 0 (λ_ _=>False)
 |row {k:Nat} {α:Type} {e:α->SV} {l:List α} (h:s.h k=.row sz e l):Xt s sz (.osl k) (some k) l.length (U9 e l)
 |lit {k:Nat} {l:List SV} (h:s.h k=.lit sz l):Xt s sz (.osl k) (some k) l.length (Al6 l)
inductive Tl(s:SS)(sz:Nat):SV->List Nat->Nat->(Nat->SV->Prop)->Prop
 |sl {α:Type} {e:α->SV} {l:List α}:Tl s sz (.sl sz e l) [] l.length (U9 e l)
 |row {k:Nat} {α:Type} {e:α->SV} {l:List α} (h:s.h k=.row sz e l):Tl s sz (.osl k) [k] l.length (U9 e l)
 |lit {k:Nat} {l:List SV} (h:s.h k=.lit sz l):Tl s sz (.osl k) [k] l.length (Al6 l)
 |nil:Tl s sz (.val (.slice none 0 0)) [] 0 (λ_ _=>False)
theorem Xt.base{s:SS}{sz:Nat}{x:SV}{k:Option Nat}{n:Nat}{f:Nat->SV->Prop}(h:Xt s sz x k n f){a:Ka}{w:World}{v:Value}(o:Rd a w x v)(t:∀j,k=some j->B3 a w j (s.h j)):Base a w v n sz f k:=by
 cases h with
 |nil=>exact⟨o.val,rfl⟩
 | @row k m e l h=>
  have p:=t k rfl;rw[h]at p;rcases p with ⟨g,rfl⟩|g
  .simp only[Rd,g]at o;exact .inl ⟨g,q_,o⟩
  .obtain ⟨b,cap,r,I⟩:=g.src Aie;simp only[Rd,r]at o;exact .inr ⟨g,Aie,b,cap,r,o⟩
 | @lit k l h=>
  have p:=t k rfl;rw[h]at p;have g:Hn a w k sz l.length (Al6 l):=p;obtain ⟨b,cap,r,I⟩:=g.src (λi hi=>dX hi);simp only[Rd,r]at o;exact .inr ⟨g,λi hi=>dX hi,b,cap,r,o⟩
theorem Tl.src{s:SS}{sz:Nat}{x:SV}{I:List Nat}{n:Nat}{f:Nat->SV->Prop}(h:Tl s sz x I n f){a:Ka}{w:World}{v:Value}(g:Rd a w x v)(J:∀j∈I,B3 a w j (s.h j)):Src a w v n sz f:=by
 cases h with
 |sl=>exact g.src
 |nil=>exact .inl ⟨rfl,λ_ _ h=>h,none,0,g.val⟩
 | @row k m e l h=>
  have o:=J k qx;rw[h]at o;rcases o with ⟨p,rfl⟩|p
  .simp only[Rd,p]at g;exact .inl ⟨rfl,λi x P=>(by obtain ⟨h,_⟩:=P;simp at h),none,0,g⟩
  .obtain ⟨b,cap,r,t⟩:=p.src Aie;simp only[Rd,r]at g;subst g;exact t
 | @lit k l h=>
  have o:=J k qx;rw[h]at o;have p:Hn a w k sz l.length (Al6 l):=o;obtain ⟨b,cap,r,t⟩:=p.src (λi hi=>dX hi);simp only[Rd,r]at g;subst g;exact t
def O9(k:Option Nat)(d:Nat)(ob:Ob):List (Nat×Ob):=match k with
 |some k=>[(k,.non),(d,ob)]
 |none=>[(d,ob)]
def Agd{P:Program}(Γ:Ty P){o:Oper}{s:SS}{t:TypeId}{R:TI}{et:TypeId}{sz eb n m:Nat}{ez:List Value}{x y:Operand}{d:Nat}{k:Option Nat}{r:List Nat}{f g:Nat->SV->Prop}{ob:Ob}(h:o.op=.call ⟨.builtin .append,#[x,y],#[t,t]⟩)(hd:s.h d=.fresh)(ht:Γ.get t=some R)(hk:R.k=.slice et sz eb ez)(nq:ez.length=sz)(hb:Xt s sz (ev s x) k n f)(hs:Tl s sz (ev s y) r m g)(pp:∀j,k=some j->j≠d)(bz:(n+m)*eb<=140737488355328)(pn:n+m<=9223372036854775807)(cz:∀b w,((b d=.nil/\n+m=0)\/Hn b w d sz (n+m) (Aw2 n f g))->B3 b w d ob):Good P o s ⟨.osl d,r,O9 k d ob⟩:=by
 intro b a w hi hr I N Q hN;have h1:=hr x (by simp[h,Op.operands,Call.operands]);have h2:=hr y (by simp[h,Op.operands,Call.operands]);have J:∀j,j∈(Up.mk (.osl d) r (O9 k d ob)).ws↔(k=some j\/j=d):=by
  intro j;cases k<;>simp[Up.ws,O9,eq_comm]
 have ay:b d=.new:=by have:=I d (.inr ((J d).2 (.inr rfl)));rwa [hd]at this
 obtain ⟨hu,i,z,q1,q2,q3,q4,q5⟩:=Di Γ ht hk;have ov:z.cells.size=sz:=by rw[<-nq,<-q5];simp
 obtain ⟨v',w',b',r1,r2,r3,r4,r5⟩:=Aw0 (P:=P) (ty:=o.type) hi hu q1 q4 q2 ov ay (hb.base h1 (λj l=>I j (.inr ((J j).2 (.inl l))))) (hs.src h2 (λj l=>I j (.inl l))) pn (by rw[q3];exact bz);have an:(execOp a.eval o).run P w=.ok (.value v') w':=by
  simp[execOp,h,resolve,invoke,builtin,r1]
 simp only[Oper.wp,an,Oper.upon];refine hN v' b' w' (r2.weaken (λj l=>(J j).2 l)) r3 r4 (λp hp=>?_);have ed:=cz b' w' r5;cases k with
 |none=>
  simp only[O9,zX]at hp;subst hp;exact ed
 |some k=>
  simp only[O9,yH,xJ,vH]at hp;rcases hp with rfl|rfl
  .trivial
  .exact ed
def Aw1{a:Type}{e:a->SV}{l:List a}{k:Ka}{w:World}{d sz n m:Nat}{f g:Nat->SV->Prop}(h:(k d=.nil/\n+m=0)\/Hn k w d sz (n+m) (Aw2 n f g))(j:l.length=n+m)(o:∀i x,U9 e l i x->Aw2 n f g i x):B3 k w d (.row sz e l):=by
 rcases h with ⟨p,h2⟩|⟨b,cap,cs,T,r,t,I,J,P,e5,R⟩
 .exact .inl ⟨p,yF j_⟩
 .exact .inr ⟨b,cap,cs,T,r,by rw[j];exact t,I,J,P,by omega,λi x hx=>by rw[j];exact R i x (o i x hx)⟩
def Atb{k:Type}{e:k->SV}{l m:List k}{f g:Nat->SV->Prop}(p:∀i x,U9 e l i x->f i x)(r:∀i x,U9 e m i x->g i x)(i:Nat)(x:SV)(h:U9 e (l++m) i x):Aw2 l.length f g i x:=by
 obtain ⟨hi,rfl⟩:=h;by_cases j:i<l.length
 .exact .inl ⟨j,p i _ ⟨j,by rw[yZ j]⟩⟩
 .have o:l.length<=i:=by omega
  exact .inr ⟨o,r _ _ ⟨by simp at hi;omega,by rw[xW o]⟩⟩
def getI_map{k:Type}{e:k->SV}:∀{l:List k} {i:Nat} (h:i<l.length),Lr (l.map e) i=some (e l[i])
 |[],i,h=>by simp at h
 |x::l,0,_=>rfl
 |_::l,i+1,h=>getI_map (l:=l) (i:=i) (kS h)
def Yi{k:Type}{e:k->SV}{l:List k}{g:List SV}(h:l.map e=g)(i:Nat)(x:SV)(j:U9 e l i x):Al6 g i x:=by
 obtain ⟨hi,rfl⟩:=j;subst h;exact getI_map hi
def Cw{P:Program}(Γ:Ty P){o:Oper}{s:SS}{t:TypeId}{R:TI}{et:TypeId}{sz eb:Nat}{r:List Value}{x y:Operand}{d:Nat}{ik l:IntKind}{n:Nat}{f:Type}(e:f->SV)(z:f)(h:o.op=.makeSlice t x y)(hd:s.h d=.fresh)(ht:Γ.get t=some R)(hk:R.k=.slice et sz eb r)(nq:r.length=sz)(h1:Afx r=true)(hx:ev s x=.val (.int ik n))(hy:ev s y=.val (.int l n))(bz:n*eb<=281474976710656)(pn:n<=9223372036854775807)(hz:cellsOf (e z)=r.map .val)(y3:(e z).boxed=true)(y4:(e z).data=true):Good P o s ⟨.osl d,[],[(d,.row sz e (List.replicate n z))]⟩ :=
 dS hd λc a w hi hr _ hn=>by
  have r1:=hr x (by simp[h,Op.operands]);have r2:=hr y (by simp[h,Op.operands]);rw[hx]at r1;rw[hy]at r2;obtain ⟨hu,i,g,q1,q2,q3,q4,q5⟩:=Di Γ ht hk;have ov:g.cells.size=sz:=by rw[<-nq,<-q5];simp
  have vi:(i.bytes:Int)*(n:Int)<=281474976710656:=by
   have:((i.bytes*n:Nat):Int)<=281474976710656:=by rw[q3,vJ];omega
   rwa [Int.natCast_mul]at this
  have hm:=run_make (P:=P) w t et i g hu q1 q4 ik l n n j_ (wB _) vi j_;simp only[yA]at hm;refine⟨.slice (some ⟨w.heap.size,0,none⟩) n n,w.alloc (.cells (madeCells g.cells (n*i.size)) et),.row w.heap.size n n,?_,Kb.alloc w _,?_,?_⟩
  .simp[execOp,h,r1.val,r2.val,hm]
  .intro b hb;simp only[Ent.block?,Option.some.injEq]at hb;subst hb;simp
  .intro st;refine⟨by simp[Rd,Az],.inr ⟨w.heap.size,n,(madeCells g.cells (n*i.size)).toList,et,(0,0),by simp[Az],?_,Aa3.zero _,?_,by simp,?_⟩⟩
   .rw[heap_alloc_new]
   .simp[size_madeCells,q2]
   .rintro j y ⟨hj,rfl⟩;have qz:j<n:=kS hj;obtain ⟨u,u1,I⟩:=Rd.of_cells (κ:=H4 c d (.row w.heap.size n n)) (w:=w.alloc (.cells (madeCells g.cells (n*i.size)) et)) y3 (cS h1) (by rw[hz];exact Adu _);rw[List.getElem_replicate];have J:u.cells.size=sz:=by rw[<-wV,I,nq]
    refine⟨kS qz,u,Rd.data _ _ y4 u1,J,by rw[I];exact cS h1,λm hm=>?_⟩;have ab:j*sz+m<n*sz:=by
     have:(j+1)*sz<=n*sz:=yU sz j_;rw[xA,wC]at this;omega
    have p:(j*sz+m)%g.cells.size=m:=by rw[ov,tP,Nat.add_mul_mod_self_right];exact xN hm
    rw[<-vV,I,<-q5];simp only[madeCells,q2,Array.toList_map,Array.toList_range,wX,uG ab,vO,p];rw[vV,uJ j_];simp[ov,hm]
def A9n{k:Ka}{w:World}{sz:Nat}{a:Type}{e:a->SV}{l:List a}{lo hi:Nat}{g:Option Addr}{cap:Nat}(h:Rd k w (.sl sz e l) (.slice g l.length cap))(h1:lo<=hi)(j:hi<=l.length):Rd k w (.sl sz e ((l.take hi).drop lo)) (.slice (if cap=lo then g else g.map (·.add (lo*sz))) (hi-lo) (cap-lo)):=by
 simp only[Rd,D3]at h|-;by_cases o:lo=hi
 .subst o;exact .inl ⟨by rw[List.drop_eq_nil_iff];simp;omega,if cap=lo then g else g.map (·.add (lo*sz)),cap-lo,by simp⟩
 .rcases h with ⟨rfl,_⟩|⟨b,off,dy,p,h0,r,t,I⟩
  .simp at j;omega
  .cases p;have J:cap≠lo:=by omega
   refine .inr ⟨b,off+lo*sz,cap-lo,?_,by simp;omega,r,t,λi hi'=>?_⟩
   .rw[zD J];simp only[vO,Addr.add_lit];congr 1;simp;omega
   .have P:lo+i<l.length:=by simp at hi';omega
    obtain ⟨u,R,h8⟩:=I (lo+i) P;refine⟨u,?_,?_⟩
    .rw[vS,wN];exact R
    .rw[show off+lo*sz+i*sz=off+(lo+i)*sz from by rw[xA];omega];exact h8
def O3{P:Program}(w:World){len cap lo hi:Nat}{g hi':Option Value}(i:g=none/\lo=0\/∃k,g=some (.int k lo))(j:hi'=none/\hi=len\/∃k,hi'=some (.int k hi))(l:lo<=hi)(o:hi<=cap):(Instr.sliceBounds true len cap g hi' none).run P w=.ok (lo,hi,cap) w:=by
 rcases i with ⟨rfl,rfl⟩|⟨k,rfl⟩<;>rcases j with ⟨rfl,rfl⟩|⟨p,rfl⟩<;>simp[Instr.sliceBounds,Instr.sliceBound,asIntOf,l,o]
def cap_ge{k:Ka}{w:World}{sz:Nat}{a:Type}{e:a->SV}{l:List a}{v:Value}(h:Rd k w (.sl sz e l) v):∃g cap,v=.slice g l.length cap/\l.length<=cap:=by
 simp only[Rd,D3]at h;rcases h with ⟨rfl,g,cap,h⟩|⟨b,off,cap,h,i,_⟩
 .exact⟨g,cap,h,xV _⟩
 .exact⟨_,cap,h,i⟩
def Oa(s:SS)(x:Option Operand)(g n:Nat):Prop:=(x=none/\n=g)\/∃y k,x=some y/\ev s y=.val (.int k n)
theorem Oa.val{b:Ka}{w:World}{s:SS}{a:Act}{x:Option Operand}{g n:Nat}(h:Oa s x g n)(i:∀y,x=some y->Rd b w (ev s y) (a.eval y)):(x.map a.eval=none/\n=g)\/∃k,x.map a.eval=some (.int k n):=by
 rcases h with ⟨rfl,h⟩|⟨y,k,rfl,h⟩
 .exact .inl ⟨q_,h⟩
 .have:=i y rfl;rw[h]at this;exact .inr ⟨k,by simp[this.val]⟩
def Hx{P:Program}(Γ:Ty P){o:Oper}{s:SS}{t:TypeId}{r:TI}{et:TypeId}{sz eb lo hi:Nat}{ez:List Value}{x:Operand}{I J:Option Operand}{m:Type}{e:m->SV}{l:List m}(h:o.op=.slice t x I J none)(ht:Γ.get t=some r)(hk:r.k=.slice et sz eb ez)(lm:ev s x=.sl sz e l)(lj:Oa s I 0 lo)(mu:Oa s J l.length hi)(R:lo<=hi)(h2:hi<=l.length):Good P o s ⟨.sl sz e ((l.take hi).drop lo),[],[]⟩ :=
 Good.pure λb a w _ j _=>by
  have g:=j x (by simp[h,Op.operands]);rw[lm]at g;obtain ⟨hu,i,zv,q1,q2,q3,q4,q5⟩:=Di Γ ht hk;obtain ⟨ad,cap,e1,e2⟩:=cap_ge g;have b1:=lj.val (a:=a) (λy p=>j y (by simp[h,Op.operands,p]));have b2:=mu.val (a:=a) (λy p=>j y (by simp[h,Op.operands,p]));rw[e1]at g;have hb:=O3 (P:=P) w (len:=l.length) (cap:=cap) b1 b2 R j_;refine⟨_,?_,A9n g R h2⟩;simp[execOp,h,e1,Instr.sliceAt,Instr.slice,run_underlying hu,hb,sizeOf,typeInfo,q1,q2]
def Acw{P:Program}(Γ:Ty P){o:Oper}{s:SS}{t:TypeId}{g:TI}{lo hi:Nat}{x:Operand}{i j:Option Operand}{b:ByteArray}(h:o.op=.slice t x i j none)(R:Γ.get t=some g)(hk:g.k=.string)(lm:ev s x=.val (.string b))(lj:Oa s i 0 lo)(mu:Oa s j b.size hi)(h1:lo<=hi)(h2:hi<=b.size):Good P o s ⟨.val (.string (b.extract lo hi)),[],[]⟩ :=
 Good.pure λm a w _ l _=>by
  have r:=l x (by simp[h,Op.operands]);rw[lm]at r;obtain ⟨d,info,z,k1,k2,k3,k4,k5,k6⟩:=Γ.ok t g R;rw[hk]at k2;simp only[TK.ok]at k2;subst k2;have b1:=lj.val (a:=a) (λy p=>l y (by simp[h,Op.operands,p]));have b2:=mu.val (a:=a) (λy p=>l y (by simp[h,Op.operands,p]));have hb:(Instr.sliceBounds false b.size b.size (i.map a.eval) (j.map a.eval) none).run P w=.ok (lo,hi,b.size) w:=by
   rcases b1 with ⟨I,rfl⟩|⟨k,I⟩<;>rcases b2 with ⟨J,rfl⟩|⟨k',J⟩<;>rw[I,J]<;>simp[Instr.sliceBounds,Instr.sliceBound,asIntOf,h1,h2]
  refine⟨.string (b.extract lo hi),?_,by simp only[Rd]⟩;simp[execOp,h,r.val,Instr.sliceAt,Instr.slice,run_underlying k1,hb]
def dR{P:Program}(Γ:Ty P){o:Oper}{s:SS}{t:TypeId}{ti:TI}{et:TypeId}{sz eb hi k d:Nat}{ez:List Value}{x:Operand}{lx I:Option Operand}{c:Type}{e:c->SV}{l:List c}(h:o.op=.slice t x lx I none)(hd:s.h d=.fresh)(ht:Γ.get t=some ti)(hk:ti.k=.slice et sz eb ez)(lm:ev s x=.osl k)(cd:k≠d)(dx:s.h k=.row sz e l)(lj:Oa s lx 0 0)(mu:Oa s I l.length hi)(h2:hi<=l.length):Good P o s ⟨.osl d,[],[(k,.non),(d,.row sz e (l.take hi))]⟩:=by
 intro m a w g hr ho N Q hN;have J:=hr x (by simp[h,Op.operands]);rw[lm]at J;obtain ⟨hu,i,zv,q1,q2,q3,q4,q5⟩:=Di Γ ht hk;have ay:m d=.new:=by have:=ho d (.inr (by simp[Up.ws]));rwa [hd]at this
 have cz:=ho k (.inr (by simp[Up.ws]));rw[dx]at cz;have b1:=lj.val (a:=a) (λy hy=>hr y (by simp[h,Op.operands,hy]));have b2:=mu.val (a:=a) (λy hy=>hr y (by simp[h,Op.operands,hy]));rcases cz with ⟨e1,rfl⟩|⟨b,cap,cs,T,fr,e1,e2,e3,e4,e5,e6⟩
 .simp only[Rd,e1]at J;have R:hi=0:=kS h2;subst R;have hb:=O3 (P:=P) w (len:=0) (cap:=0) (hi:=0) (hi':=I.map a.eval) b1 b2 (yG _) (yG _);have an:(execOp a.eval o).run P w=.ok (.value (.slice none 0 0)) w:=by
   simp[execOp,h,J,Instr.sliceAt,Instr.slice,run_underlying hu,hb,sizeOf,typeInfo,q1]
  have st:=Lm (Oz g (some k)) (by show H4 m k .dead d=.new;rw[C4 _ _ (Ne.symm cd)];exact ay) (e:=.nil) (Kb.refl w) (λb hb=>by cases hb);simp only[Oper.wp,an,Oper.upon];refine hN _ _ w ((((Lx (some k)).weaken (λj r=>by simp only[Option.some.injEq]at r;subst r;simp[Up.ws])).trans (st.1.weaken (λj r=>by subst r;simp[Up.ws])))) st.2 (by simp[Rd,Az]) (λp hp=>?_);simp only[yH,xJ,vH]at hp;rcases hp with rfl|rfl
  .trivial
  .exact .inl ⟨Az _ _ _,by simp⟩
 .simp only[Rd,e1]at J;have hb:=O3 (P:=P) w (len:=l.length) (cap:=cap) b1 b2 (xV _) j_;have an:(execOp a.eval o).run P w=.ok (.value (.slice (some ⟨b,0,none⟩) hi cap)) w:=by
   simp only[execOp,h,J,Instr.sliceAt,Instr.slice,Sem.run_bind,run_underlying hu,Result.andThen_ok,Option.map_none,hb,sizeOf,typeInfo,run_program,q1,Sem.run_pure];by_cases hc:cap=0<;>simp[hc,Addr.add]
  obtain ⟨st,inv⟩:=Vm (n':=hi) (w':=w) g e1 ay rfl rfl rfl rfl (λ_ _=>rfl);simp only[Oper.wp,an,Oper.upon];refine hN _ _ w (st.weaken (λj r=>by rcases r with rfl|rfl<;>simp[Up.ws])) inv (by simp[Rd,Az]) (λp hp=>?_);simp only[yH,xJ,vH]at hp;rcases hp with rfl|rfl
  .trivial
  .have a0:(l.take hi).length=hi:=by simp;omega
   refine .inr ⟨b,cap,cs,T,fr,by rw[a0];exact Az _ _ _,e2,e3,e4,by omega,λi x I=>?_⟩;obtain ⟨hi',rfl⟩:=I;have mf:i<l.length:=by simp at hi';omega
   obtain ⟨h0,u,u1,u2⟩:=e6 i (e l[i]) ⟨mf,rfl⟩;refine⟨kS hi',u,?_,u2⟩;rw[wN];exact D3.keep st.keeps _ _ u1
def Ub{P:Program}{o:Oper}{s:SS}{op:BinOp}{t l:TypeId}{x y:Operand}{m n:ByteArray}{u:Value}(h:o.op=.binOp op t x y l)(hop:op≠.shl/\op≠.shr)(p:ev s x=.val (.string m))(r:ev s y=.val (.string n))(I:∀w,(Op.stringOp op m n).run P w=.ok u w):Good P o s ⟨.val u,[],[]⟩ :=
 Good.pure λk a w _ g _=>by
  have i:=g x (by simp[h,Op.operands]);have j:=g y (by simp[h,Op.operands]);rw[p]at i;rw[r]at j;refine⟨u,?_,by simp[Rd]⟩;have J:binOp op t (.string m) (.string n)=Op.stringOp op m n:=by cases op<;>simp[binOp]at hop|-
  simp[execOp,h,i.val,j.val,eqGuard_at_string,J,I]
mutual
def SV.ren(a:Nat->Nat):SV->SV
 | .ptr k o=>.ptr (a k) o
 | .rpt k sz i o=>.rpt (a k) sz i o
 | .osl k=>.osl (a k)
 | .agg l=>.agg (S8 a l)
 | .tup l=>.tup (S8 a l)
 | .ifc t x=>.ifc t (x.ren a)
 | .clo fn f l=>.clo fn (S8 a f) (S8 a l)
 | .top=>.top
 | .val v=>.val v
 | .sl sz e l=>.sl sz e l
 | .ref sz x o=>.ref sz x o
def S8(k:Nat->Nat):List SV->List SV
 |[]=>[]
 |x::l=>x.ren k::S8 k l
end
def Yq(K:List Nat)(k:Nat):Bool:=match K with
 |[]=>false
 |x::l=>Nat.beq x k||Yq l k
def Em{K:List Nat}{k:Nat}:Yq K k=true↔k∈K:=by
 induction K with
 |nil=>simp[Yq]
 |cons x l g=>
  have i:Nat.beq x k=true↔x=k:=⟨yN,λh=>by subst h;simp⟩
  simp only[Yq,yR,yH,g,i];constructor
  .rintro (h|h)
   .exact .inl h.symm
   .exact .inr h
  .rintro (h|h)
   .exact .inl h.symm
   .exact .inr h
mutual
def SV.inn(K:List Nat):SV->Bool
 | .ptr k _=>Yq K k
 | .rpt k _ _ _=>Yq K k
 | .osl k=>Yq K k
 | .agg l=>C7 K l
 | .tup l=>C7 K l
 | .ifc _ x=>x.inn K
 | .clo _ f l=>C7 K f&&C7 K l
 |_=>true
def C7(K:List Nat):List SV->Bool
 |[]=>true
 |x::l=>x.inn K&&C7 K l
end
def Ob.ren(k:Nat->Nat):Ob->Ob
 | .box l=>.box (S8 k l)
 | .rown sz e l i g=>.rown sz e l i (S8 k g)
 | .tbox T l=>.tbox T (S8 k l)
 |o=>o
def Ob.inn(K:List Nat):Ob->Bool
 | .box l=>C7 K l
 | .rown _ _ _ _ g=>C7 K g
 | .tbox _ l=>C7 K l
 |_=>true
structure Ren(ρ:Nat->Nat)(K:List Nat)(κ κ₂:Ka):Prop where
 bd:∀k,k∈K->κ₂ k=κ (ρ k)
mutual
theorem Rd.unren{ρ:Nat->Nat}{K:List Nat}{κ κ₂:Ka}{w:World}(r:Ren ρ K κ κ₂)(g:∀b,b<w.heap.size->¬Own κ b->¬Own κ₂ b):∀(x:SV) (v:Value),x.inn K=true->Rd κ w (x.ren ρ) v->Rd κ₂ w x v
 | .top,_,_,_=>by simp[Rd]
 | .val u,v,_,h=>by simpa [Rd,SV.ren] using h
 | .agg l,v,hi,h=>by
  simp only[Rd,SV.ren,SV.inn]at h hi|-;obtain ⟨cs,j,I,o⟩:=h;exact⟨cs,j,I,B8.unren r g l cs hi o⟩
 | .tup l,v,hi,h=>by
  simp only[Rd,SV.ren,SV.inn]at h hi|-;obtain ⟨cs,j,o⟩:=h;exact⟨cs,j,B8.unren r g l cs hi o⟩
 | .sl sz e l,v,_,h=>by
  simp only[Rd,SV.ren]at h|-;exact D3.keep ⟨yG _,λ_ _ _=>rfl,g⟩ _ _ h
 | .ref sz x off,v,_,h=>by
  simp only[Rd,SV.ren]at h|-;exact D3.keep ⟨yG _,λ_ _ _=>rfl,g⟩ _ _ h
 | .ptr k off,v,hi,h=>by
  simp only[Rd,SV.ren,SV.inn]at h hi|-;rw[r.bd k (Em.1 hi)];exact h
 | .rpt k sz i off,v,hi,h=>by
  simp only[Rd,SV.ren,SV.inn]at h hi|-;rw[r.bd k (Em.1 hi)];exact h
 | .osl k,v,hi,h=>by
  simp only[Rd,SV.ren,SV.inn]at h hi|-;rw[r.bd k (Em.1 hi)];exact h
 | .ifc t x,v,hi,h=>by
  simp only[Rd,SV.ren,SV.inn]at h hi|-;obtain ⟨u,j,o⟩:=h;exact⟨u,j,Rd.unren r g x u hi o⟩
 | .clo fn first cap,v,hi,h=>by
  simp only[Rd,SV.ren,SV.inn,zG]at h hi|-;obtain ⟨p,cs,j,o,J⟩:=h;exact⟨p,cs,j,B8.unren r g first p hi.1 o,B8.unren r g cap cs hi.2 J⟩
theorem B8.unren{ρ:Nat->Nat}{K:List Nat}{κ κ₂:Ka}{w:World}(r:Ren ρ K κ κ₂)(g:∀b,b<w.heap.size->¬Own κ b->¬Own κ₂ b):∀(l:List SV) (vs:List Value),C7 K l=true->B8 κ w (S8 ρ l) vs->B8 κ₂ w l vs
 |[],_,_,h=>by simpa [B8,S8] using h
 |x::l,vs,hi,h=>by
  simp only[B8,S8,C7,zG]at h hi|-;obtain ⟨v,q,i,j,o⟩:=h;exact⟨v,q,i,Rd.unren r g x v hi.1 j,B8.unren r g l q hi.2 o⟩
end
mutual
theorem Rd.ren{m:Nat->Nat}{K:List Nat}{a a₂:Ka}{w:World}(r:Ren m K a a₂)(g:∀b,b<w.heap.size->¬Own a₂ b->¬Own a b):∀(x:SV) (v:Value),x.inn K=true->Rd a₂ w x v->Rd a w (x.ren m) v
 | .top,_,_,_=>by simp[Rd,SV.ren]
 | .val u,v,_,h=>by simpa [Rd,SV.ren] using h
 | .agg l,v,hi,h=>by
  simp only[Rd,SV.ren,SV.inn]at h hi|-;obtain ⟨cs,j,I,o⟩:=h;exact⟨cs,j,I,B8.ren r g l cs hi o⟩
 | .tup l,v,hi,h=>by
  simp only[Rd,SV.ren,SV.inn]at h hi|-;obtain ⟨cs,j,o⟩:=h;exact⟨cs,j,B8.ren r g l cs hi o⟩
 | .sl sz e l,v,_,h=>by
  simp only[Rd,SV.ren]at h|-;exact D3.keep ⟨yG _,λ_ _ _=>rfl,g⟩ _ _ h
 | .ref sz x off,v,_,h=>by
  simp only[Rd,SV.ren]at h|-;exact D3.keep ⟨yG _,λ_ _ _=>rfl,g⟩ _ _ h
 | .ptr k off,v,hi,h=>by
  simp only[Rd,SV.ren,SV.inn]at h hi|-;rw[<-r.bd k (Em.1 hi)];exact h
 | .rpt k sz i off,v,hi,h=>by
  simp only[Rd,SV.ren,SV.inn]at h hi|-;rw[<-r.bd k (Em.1 hi)];exact h
 | .osl k,v,hi,h=>by
  simp only[Rd,SV.ren,SV.inn]at h hi|-;rw[<-r.bd k (Em.1 hi)];exact h
 | .ifc t x,v,hi,h=>by
  simp only[Rd,SV.ren,SV.inn]at h hi|-;obtain ⟨u,j,o⟩:=h;exact⟨u,j,Rd.ren r g x u hi o⟩
 | .clo fn first cap,v,hi,h=>by
  simp only[Rd,SV.ren,SV.inn,zG]at h hi|-;obtain ⟨p,cs,j,o,J⟩:=h;exact⟨p,cs,j,B8.ren r g first p hi.1 o,B8.ren r g cap cs hi.2 J⟩
theorem B8.ren{a:Nat->Nat}{K:List Nat}{k k₂:Ka}{w:World}(r:Ren a K k k₂)(g:∀b,b<w.heap.size->¬Own k₂ b->¬Own k b):∀(l:List SV) (vs:List Value),C7 K l=true->B8 k₂ w l vs->B8 k w (S8 a l) vs
 |[],_,_,h=>by simpa [B8,S8] using h
 |x::l,vs,hi,h=>by
  simp only[B8,S8,C7,zG]at h hi|-;obtain ⟨v,q,i,j,o⟩:=h;exact⟨v,q,i,Rd.ren r g x v hi.1 j,B8.ren r g l q hi.2 o⟩
end
theorem Hn.bc{a a₂:Ka}{w:World}{k k₂ sz n:Nat}{f:Nat->SV->Prop}(h:Hn a w k sz n f)(g:a₂ k₂=a k)(j:∀b,b<w.heap.size->¬Own a b->¬Own a₂ b):Hn a₂ w k₂ sz n f:=by
 obtain ⟨b,cap,cs,T,l,o,p,r,t,I,J⟩:=h;refine⟨b,cap,cs,T,l,g.trans o,p,r,t,I,λi x hi=>?_⟩;obtain ⟨P,u,R,h8⟩:=J i x hi;exact⟨P,u,D3.keep ⟨yG _,λ_ _ _=>rfl,j⟩ _ _ R,h8⟩
theorem B3.unren{ρ:Nat->Nat}{K:List Nat}{κ κ₂:Ka}{w:World}(r:Ren ρ K κ κ₂)(t:∀b,b<w.heap.size->¬Own κ b->¬Own κ₂ b){k:Nat}(p:k∈K):∀{o:Ob},o.inn K=true->B3 κ w (ρ k) (o.ren ρ)->B3 κ₂ w k o
 | .fresh,_,h=>(r.bd k p).trans h
 | .non,_,_=>trivial
 | .box l,hi,h=>by
  obtain ⟨b,cs,T,I,J,P,R,h4,h5⟩:=h;exact⟨b,cs,T,I,(r.bd k p).trans J,P,R,h4,B8.unren r t l cs hi h5⟩
 | .tbox T l,hi,h=>by
  obtain ⟨b,cs,I,J,P,R,h4,h5⟩:=h;exact⟨b,cs,I,(r.bd k p).trans J,P,R,h4,B8.unren r t l cs hi h5⟩
 | .trow T l,_,h=>h.imp (λh=>⟨(r.bd k p).trans h.1,h.2⟩) (λ⟨h0,b,cap,cs,I,J,P⟩=>⟨h0,b,cap,cs,I,(r.bd k p).trans J,P⟩)
 | .row sz e l,_,h=>h.imp (λh=>⟨(r.bd k p).trans h.1,h.2⟩) (λh=>h.bc (r.bd k p) t)
 | .lit sz l,_,h=>Hn.bc h (r.bd k p) t
 | .pin b n cap sz e l,_,h=>⟨(r.bd k p).trans h.1,Hn.bc h.2 (r.bd k p) t⟩
 | .glob sz x g,_,h=>by
  simp only[Ob.ren,B3,Rd]at h|-;exact D3.keep ⟨yG _,λ_ _ _=>rfl,t⟩ _ _ h
 | .dat v sz e l,_,h=>by
  simp only[Ob.ren,B3,Rd]at h|-;exact D3.keep ⟨yG _,λ_ _ _=>rfl,t⟩ _ _ h
 | .rown sz e l i cl,hi,h=>by
  obtain ⟨b,cap,cs,T,I,J,P,R,h4,h5,h6,h7,us,u1,u2,u3,u4⟩:=h;refine⟨b,cap,cs,T,I,(r.bd k p).trans J,P,R,h4,h5,λj x hj hx=>?_,h7,us,u1,u2,B8.unren r t cl us hi u3,u4⟩;obtain ⟨g0,u,g7,g8⟩:=h6 j x hj hx;exact⟨g0,u,D3.keep ⟨yG _,λ_ _ _=>rfl,t⟩ _ _ g7,g8⟩
theorem B3.ren{m:Nat->Nat}{K:List Nat}{a a₂:Ka}{w:World}(r:Ren m K a a₂)(t:∀b,b<w.heap.size->¬Own a₂ b->¬Own a b){k:Nat}(p:k∈K):∀{o:Ob},o.inn K=true->B3 a₂ w k o->B3 a w (m k) (o.ren m)
 | .fresh,_,h=>(r.bd k p).symm.trans h
 | .non,_,_=>trivial
 | .box l,hi,h=>by
  obtain ⟨b,cs,T,I,J,P,R,h4,h5⟩:=h;exact⟨b,cs,T,I,(r.bd k p).symm.trans J,P,R,h4,B8.ren r t l cs hi h5⟩
 | .tbox T l,hi,h=>by
  obtain ⟨b,cs,I,J,P,R,h4,h5⟩:=h;exact⟨b,cs,I,(r.bd k p).symm.trans J,P,R,h4,B8.ren r t l cs hi h5⟩
 | .trow T l,_,h=>h.imp (λh=>⟨(r.bd k p).symm.trans h.1,h.2⟩) (λ⟨h0,b,cap,cs,I,J,P⟩=>⟨h0,b,cap,cs,I,(r.bd k p).symm.trans J,P⟩)
 | .row sz e l,_,h=>h.imp (λh=>⟨(r.bd k p).symm.trans h.1,h.2⟩) (λh=>h.bc (r.bd k p).symm t)
 | .lit sz l,_,h=>Hn.bc h (r.bd k p).symm t
 | .pin b n cap sz e l,_,h=>⟨(r.bd k p).symm.trans h.1,Hn.bc h.2 (r.bd k p).symm t⟩
 | .glob sz x g,_,h=>by
  simp only[Ob.ren,B3,Rd]at h|-;exact D3.keep ⟨yG _,λ_ _ _=>rfl,t⟩ _ _ h
 | .dat v sz e l,_,h=>by
  simp only[Ob.ren,B3,Rd]at h|-;exact D3.keep ⟨yG _,λ_ _ _=>rfl,t⟩ _ _ h
 | .rown sz e l i cl,hi,h=>by
  obtain ⟨b,cap,cs,T,I,J,P,R,h4,h5,h6,h7,us,u1,u2,u3,u4⟩:=h;refine⟨b,cap,cs,T,I,((r.bd k p).symm).trans J,P,R,h4,h5,λj x hj hx=>?_,h7,us,u1,u2,B8.ren r t cl us hi u3,u4⟩;obtain ⟨g0,u,g7,g8⟩:=h6 j x hj hx;exact⟨g0,u,D3.keep ⟨yG _,λ_ _ _=>rfl,t⟩ _ _ g7,g8⟩
abbrev It:=List (Nat×Ob)
def It.keys(H:It):List Nat:=H.map (·.1)
def It.ok(k:Ka)(w:World)(H:It):Prop:=∀p∈H,B3 k w p.1 p.2
def Spec(P:Program)(f:FuncId)(A:List SV)(H:It)(R:SV)(H':It):Prop :=
 ∀(a:Ka) (w:World) (vs:List Value),Inv a w->(∀k,a k≠.new->k∈H.keys)->B8 a w A vs->H.ok a w ->
  Calls P f vs.toArray w λe w'=>∃v a',e=.returned v/\bG ⟨w,a,[]⟩ a' w'/\Inv a' w'/\Rd a' w' R v/\H'.ok a' w'
inductive KI
 |code (c:Code)
 |ops (all:Array Oper) (rest:List Oper)
 |blk (id:Nat)
 |inv (I:Act->World->Prop)
 |scp
def den(P:Program)(B:Exit->Act->World->Prop):List KI->Exit->Act->World->Prop
 |[]=>B
 | .code c::k=>Exit.then (c.wp P (den P B k)) (den P B k)
 | .ops all g::k=>Exit.then (wpList P all (den P B k) g) (den P B k)
 | .blk id::k=>Exit.inBlock id (den P B k)
 | .inv I::k=>Exit.then I (den P B k)
 | .scp::k=>Exit.noGoto (den P B k)
structure Cx where
 P:Program
 Γ:Ty P
 F:Fr
 n:Nat
 B:Exit->Act->World->Prop
 bn:List Nat
 db:∀k,F.k0 k≠.new->k∈bn
def G(C:Cx)(k:List KI)(s:SS):Prop:=∀b a w,St C.F C.n s b a w->den C.P C.B k .normal a w
theorem St.ev{F:Fr}{n:Nat}{s:SS}{k:Ka}{a:Act}{w:World}(h:St F n s k a w)(x:Operand):Rd k w (ev s x) (a.eval x):=by
 cases x with
 |tmp t=>exact h.ax t
 |const v=>simp[Sy.ev,Act.eval,Rd]
 |global g=>simp[Sy.ev,Act.eval,Rd]
 |func f=>simp only[Sy.ev,Act.eval,Rd];exact⟨[],[],rfl,by simp[B8],by simp[B8]⟩
def aY(h:Nat->Ob):List (Nat×Ob)->Nat->Ob
 |[]=>h
 |(k,o)::r=>aY (upd h k o) r
def SS.upd(s:SS)(dst:Option Nat)(U:Up):SS:=⟨match dst with|some d=>Sy.upd s.σ d U.v|none=>s.σ,aY s.h U.bp⟩
def Ahw{h:Nat->Ob}:∀{l:List (Nat×Ob)} {k:Nat},k∉l.map (·.1)->aY h l k=h k
 |[],k,_=>rfl
 |(j,o)::r,k,g=>by
  simp only[xR,yH,vY]at g;rw[aY,Ahw g.2,D7 _ _ g.1]
def Apk{a:Ka}{w:World}:∀(l:List (Nat×Ob)) (h:Nat->Ob) (k:Nat),(∀p∈l,B3 a w p.1 p.2)->(k∉l.map (·.1)->B3 a w k (h k))->B3 a w k (aY h l k)
 |[],h,k,_,g=>g qx
 |(j,o)::r,h,k,t,g=>by
  refine Apk r (Sy.upd h j o) k (λp hp=>t p (by simp[hp])) (λI=>?_);by_cases i:k=j
  .subst i;rw[C2];exact t (k,o) qx
  .rw[D7 _ _ i];exact g (by simp[i];simpa using I)
theorem St.put{F:Fr}{n:Nat}{s:SS}{b b':Ka}{a:Act}{w w':World}(h:St F n s b a w){dst:Option Nat}{U:Up}{v:Value}(g:∀d,dst=some d->d<n)(st:En (·∈U.ws) b w b' w')(hi:Inv b' w')(j:Rd b' w' U.v v)(l:∀x∈U.bp,B3 b' w' x.1 x.2):St F n (s.upd dst U) b' (a.put dst v) w' where
 defers:=by cases dst<;>exact h.defers
 size:=by cases dst<;>simp[Act.put,h.size]
 inv:=hi
 ctx:=h.ctx.step hi st
 ax i:=by
  cases dst with
  |none=>exact Rd.step st _ _ (h.ax i)
  |some d=>
   have o:=g d rfl;by_cases hi':i=d
   .subst hi';simp only[SS.upd,C2,Act.put];have p:i<a.tmps.size:=by rw[h.size];exact o
    simpa [p] using j
   .simp only[SS.upd,D7 _ _ hi',Act.put];have:(a.tmps.setIfInBounds d v).getD i undef=a.tmps.getD i undef:=by
     simp[Array.getElem?_setIfInBounds_ne (Ne.symm hi')]
    rw[this];exact Rd.step st _ _ (h.ax i)
 obj k:=Apk _ _ _ l (λr=>B3.step st r _ (h.obj k))
variable {C:Cx} {k:List KI} {s:SS}
theorem G_seq{x y:Code}(h:G C (.code x::.code y::k) s):G C (.code (.seq x y)::k) s:=λb a w g=>wp_seq (h b a w g)
theorem G_skip(h:G C k s):G C (.code .skip::k) s:=λb a w g=>wp_skip (h b a w g)
theorem Bgn{id:Nat}{c:Code}(h:G C (.code c::.blk id::k) s):G C (.code (.block id c)::k) s:=λb a w g=>wp_block (h b a w g)
theorem G_blk{id:Nat}(h:G C k s):G C (.blk id::k) s:=λb a w g=>h b a w g
theorem Bgk{c:Code}(h:G C (.code c::.scp::k) s):G C (.code (.scope c)::k) s:=λb a w g=>wp_scope_straight (h b a w g)
theorem G_scp(h:G C k s):G C (.scp::k) s:=λb a w g=>h b a w g
theorem Bgl{l:Nat}(h:G C k s):G C (.code (.label l)::k) s:=λb a w g=>wp_label (h b a w g)
theorem G_nil(h:∀k a w,St C.F C.n s k a w->C.B .normal a w):G C [] s:=λk a w g=>h k a w g
theorem G_cond{c:Operand}{x y:Code}{b:Bool}(j:ev s c=.val (.bool b))(l:b=true->G C (.code x::k) s)(o:b=false->G C (.code y::k) s):G C (.code (.cond c x y)::k) s:=λr a w g=>by
 have h:=g.ev c;rw[j]at h;exact wp_cond_split h.val (λi=>l i r a w g) (λi=>o i r a w g)
def nP(id:Nat):List KI->Option (List KI)
 |[]=>none
 | .blk i::k=>bif Nat.beq i id then some k else nP id k
 | .code _::k=>nP id k
 | .ops _ _::k=>nP id k
 | .inv _::k=>nP id k
 | .scp::k=>nP id k
theorem Y5{P:Program}{B:Exit->Act->World->Prop}{id:Nat}{a:Act}{w:World}:∀{k j:List KI},nP id k=some j->den P B j .normal a w->den P B k (.exit id) a w
 |[],j,h,_=>by simp[nP]at h
 | .blk i::k,j,h,g=>by
  simp only[nP,uL]at h;split at h
  .rename_i l;have:=yN l;subst this;simp only[Option.some.injEq]at h;subst h;simp only[den,Exit.inBlock,if_true];exact g
  .rename_i l;have o:id≠i:=λe=>l (by subst e;simp)
   simp only[den,Exit.inBlock,zD o];exact Y5 h g
 | .code _::k,j,h,g=>Y5 (k:=k) h g
 | .ops _ _::k,j,h,g=>Y5 (k:=k) h g
 | .inv _::k,j,h,g=>Y5 (k:=k) h g
 | .scp::k,j,h,g=>Y5 (k:=k) h g
theorem G_exit{id:Nat}{g:List KI}(h:nP id k=some g)(i:G C g s):G C (.code (.exit id)::k) s:=λb a w j=>wp_exit (Y5 h (i b a w j))
theorem fX{P:Program}{B:Exit->Act->World->Prop}{a:Act}{w:World}:∀{k:List KI},B .ret a w->den P B k .ret a w
 |[],h=>h
 | .blk _::k,h=>fX (k:=k) h
 | .code _::k,h=>fX (k:=k) h
 | .ops _ _::k,h=>fX (k:=k) h
 | .inv _::k,h=>fX (k:=k) h
 | .scp::k,h=>fX (k:=k) h
theorem Bgz(h:∀b a w,St C.F C.n s b a w->C.B .ret a w):G C (.code .ret::k) s:=λb a w g=>wp_ret (fX (h b a w g))
theorem Bdu{id:Nat}{ops:Array Oper}(h:G C (.ops ops ops.toList::k) s):G C (.code (.region id ops false)::k) s:=λb a w g=>wp_region_list (h b a w g)
theorem A8i{all:Array Oper}(h:G C k s):G C (.ops all []::k) s:=λb a w g=>wpList_nil (P:=C.P) (ops:=all) (h b a w g)
def Aa9(all:Array Oper)(s:SS)(g:Option (Nat×Bool))(b:Bool):Prop :=
 match g with
 |none=>b=true
 |some (j,i)=>∃d,((all[j]?).bind (·.dst))=some d/\((∃c,s.σ d=.val (.bool c)/\b=(c==i))\/(s.σ d=.val undef/\b=false))
theorem eY{F:Fr}{n:Nat}{k:Ka}{a:Act}{w:World}(h:St F n s k a w){all:Array Oper}{o:Oper}{b:Bool}(J:∀j g,o.guard=some (j,g)->∀d,((all[j]?).bind (·.dst))=some d->d<n)(i:Aa9 all s o.guard b):Region.wanted o (yielded all a.tmps)=b:=by
 unfold Aa9 at i;unfold Region.wanted;cases r:o.guard with
 |none=>rw[r]at i;simp[i]
 |some p=>
  obtain ⟨j,g⟩:=p;rw[r]at i;obtain ⟨d,I,P⟩:=i;have R:=J j g r d I;have l:=h.ax d;have a8:a.tmps[d]? = some (a.tmps.getD d undef):=by simp[h.size,R]
  simp only[yielded,I,Option.bind_some,a8];rcases P with ⟨c,t,rfl⟩|⟨t,rfl⟩
  .rw[t]at l;rw[l.val];rfl
  .rw[t]at l;rw[l.val];rfl
theorem G_op{all:Array Oper}{o:Oper}{g:List Oper}{U:Up}(l:Good C.P o s U)(p:∀b a w,St C.F C.n s b a w->Region.wanted o (yielded all a.tmps)=true)(r:∀d,o.dst=some d->d<C.n)(h:G C (.ops all g::k) (s.upd o.dst U)):G C (.ops all (o::g)::k) s:=λb a w i=>
 wpList_step λK t=>by
  rw[zE (p b a w i)];exact l b a w i.inv (λx _=>i.ev x) (λj _=>i.obj j) K _ (λv b' w' st hi I J=>t _ _ (h b' _ w' (i.put r st hi I J)))
theorem A8j{all:Array Oper}{o:Oper}{g:List Oper}(j:∀b a w,St C.F C.n s b a w->Region.wanted o (yielded all a.tmps)=false)(l:∀d,o.dst=some d->d<C.n)(h:G C (.ops all g::k) (s.upd o.dst ⟨.val undef,[],[]⟩)):G C (.ops all (o::g)::k) s:=λb a w i=>
 wpList_step λK r=>by
  rw[zD (by rw[j b a w i];simp)];exact r _ _ (h b _ w (i.put (U:=⟨.val undef,[],[]⟩) l (En.refl _ b w) i.inv (by simp[Rd]) (λp hp=>by cases hp)))
def Bs:List (Nat×Nat)->Nat->Nat
 |[],k=>k
 |(a,b)::r,k=>bif Nat.beq a k then b else Bs r k
def mkσ:List (Nat×SV)->Nat->SV
 |[],_=>.top
 |(i,x)::r,j=>bif Nat.beq i j then x else mkσ r j
def mkh:List (Nat×Ob)->Nat->Ob
 |[],_=>.fresh
 |(i,x)::r,j=>bif Nat.beq i j then x else mkh r j
def mkS(L:List (Nat×SV))(O:It):SS:=⟨mkσ L,mkh O⟩
def A18(k:List (Nat×Nat))(K:List Nat)(s:SS):List (Nat×SV)->Prop
 |[]=>True
 |(i,x)::r=>x.ren (Bs k)=s.σ i/\x.inn K=true/\A18 k K s r
def A8h(k:List (Nat×Nat))(K:List Nat)(s:SS):It->Prop
 |[]=>True
 |(i,x)::r=>(x.ren (Bs k)=s.h (Bs k i)\/x=.non)/\x.inn K=true/\A8h k K s r
def lU(a:List (Nat×Nat))(g:List Nat):List Nat->Bool
 |[]=>g.all λk=>Nat.beq (Bs a k) k
 |k::r=>(r.all λj=>Nat.beq j k||!(Nat.beq (Bs a j) (Bs a k)))&&lU a g r
theorem fD{a:List (Nat×Nat)}{l:List Nat}:∀{K:List Nat},lU a l K=true->(∀i∈K,∀j∈K,Bs a i=Bs a j->i=j)/\∀k∈l,Bs a k=k
 | [],h=>⟨by simp,λ k p=>by
   simp only[lU,yX]at h;exact yN (h k p)⟩
 |k::r,h=>by
  simp only[lU,zG,yX,yR,xH]at h;obtain ⟨o,t⟩:=h;obtain ⟨I,J⟩:=fD t;refine⟨λi hi j g e=>?_,J⟩;simp only[yH]at hi g;rcases hi with rfl|hi<;>rcases g with rfl|g
  .rfl
  .rcases o j g with h|h
   .exact(yN h).symm
   .rw[e]at h;simp at h
  .rcases o i hi with h|h
   .exact yN h
   .rw[e]at h;simp at h
  .exact I i hi j g e
def Abx(a:Ka)(b:Nat->Nat)(K:List Nat):Ka:=⟨λk=>bif Yq K k then a (b k) else .new,a.M⟩
theorem Abw{a:Ka}{b:Nat->Nat}{K:List Nat}{k:Nat}(h:k∈K):Abx a b K k=a (b k):=by simp[Abx,Em.2 h]
theorem Ati{a:Ka}{b:Nat->Nat}{K:List Nat}{k:Nat}(h:k∉K):Abx a b K k=.new:=by
 have:Yq K k=false:=by
  cases hm:Yq K k with
  |false=>rfl
  |true=>exact zW (Em.1 hm) h
 simp[Abx,this]
theorem S9{a:Ka}{r:Nat->Nat}{K:List Nat}{k b:Nat}(h:(Abx a r K k).block? = some b):k∈K/\(a (r k)).block? = some b:=by
 by_cases g:k∈K
 .rw[Abw g]at h;exact⟨g,h⟩
 .rw[Ati g]at h;cases h
theorem Abv{a:Ka}{r:Nat->Nat}{K:List Nat}(b:Nat)(h:¬Own a b):¬Own (Abx a r K) b:=by
 rintro (⟨k,g⟩|g)
 .exact h (.inl ⟨_,(S9 g).2⟩)
 .exact h (.inr g)
theorem A93{a:Ka}{w:World}{m:Nat->Nat}{K:List Nat}(hi:Inv a w)(g:∀i∈K,∀j∈K,m i=m j->i=j):Inv (Abx a m K) w :=
 ⟨λ i j b l o=>by
   obtain ⟨p,r⟩:=S9 l;obtain ⟨t,I⟩:=S9 o;exact g i p j t (hi.inj _ _ b r I),
  λ k b h=>hi.bf _ b (S9 h).2,λ k b h=>hi.apart _ b (S9 h).2,hi.bh⟩
theorem A94{F:Fr}{a:Ka}{w:World}{r:Nat->Nat}{K i:List Nat}(c:bG F a w)(g:∀k,F.k0 k≠.new->k∈i)(l:∀k∈i,k∈K/\r k=k):bG F (Abx a r K) w :=
 ⟨c.size,c.os,c.tape,c.output,c.M,c.ci,λ k b h=>c.bc _ b (S9 h).2,λ k j=>by
  obtain ⟨o,p⟩:=l k (g k j);rw[Abw o,p];exact c.cc k j⟩
def Aps(g K:List Nat):Bool:=g.all (Yq K)
structure Sub(C:Cx)(s:SS)(ρ:List (Nat×Nat))(L:List (Nat×SV))(O:It):Prop where
 cu:A18 ρ O.keys s L
 bp:A8h ρ O.keys s O
 names:lU ρ C.bn O.keys=true/\Aps C.bn O.keys=true
theorem Sub.st{s:SS}{c:List (Nat×Nat)}{L:List (Nat×SV)}{O:It}(h:Sub C s c L O){m:Ka}{a:Act}{w:World}(t:St C.F C.n s m a w):St C.F C.n (mkS L O) (Abx m (Bs c) O.keys) a w:=by
 obtain ⟨iu,J⟩:=fD h.names.1;have a6:∀k∈C.bn,k∈O.keys:=λk l=>by
  have:=h.names.2;simp only[Aps,yX]at this;exact Em.1 (this k l)
 have ln:Ren (Bs c) O.keys m (Abx m (Bs c) O.keys):=⟨λk l=>Abw l⟩
 refine⟨t.defers,t.size,A93 t.inv iu,A94 t.ctx C.db (λk l=>⟨a6 k l,J k l⟩),?_,?_⟩
 .intro i;have g:=h.cu;revert g;simp only[mkS];generalize hL:L=L';clear hL
  induction L' with
  |nil=>intro _;simp[mkσ,Rd]
  |cons p r P=>
   obtain ⟨j,x⟩:=p;intro g;simp only[A18]at g;simp only[mkσ,uL];split
   .rename_i o;have:=yN o;subst this;have I:=t.ax j;rw[<-g.1]at I;exact Rd.unren ln (λb _=>Abv b) _ _ g.2.1 I
   .exact P g.2.2
 .intro i;have g:=h.bp;have hK:∀p∈O,p.1∈O.keys:=λp hp=>yT.2 ⟨p,hp,rfl⟩
  have key:∀O':It,(∀p∈O',p.1∈O.keys)->A8h c O.keys s O'->(i∈O'.map (·.1)->B3 (Abx m (Bs c) O.keys) w i (mkh O' i))/\(i∉O'.map (·.1)->mkh O' i=.fresh):=by
   intro O'
   induction O' with
   |nil=>intro _ _;exact⟨by simp,λ_=>rfl⟩
   |cons p r P=>
    obtain ⟨j,x⟩:=p;intro l g;simp only[A8h]at g;obtain ⟨I,R⟩:=P (λp hp=>l p (by simp[hp])) g.2.2;simp only[mkh,uL,xR,yH,vY];constructor
    .intro hm;split
     .rename_i o;have:=yN o;subst this;rcases g.1 with h4|h4
      .have h5:=t.obj (Bs c j);rw[<-h4]at h5;exact B3.unren ln (λb _=>Abv b) (l (j,x) qx) g.2.1 h5
      .rw[h4];trivial
     .rename_i o;exact I (hm.resolve_left (λe=>o (by subst e;simp)))
    .rintro ⟨bq,bx⟩;rw[zD (λo=>bq (yN o).symm)];exact R bx
  obtain ⟨I,R⟩:=key O hK g;by_cases hi:i∈O.map (·.1)
  .exact I hi
  .simp only[mkS];rw[R hi];exact Ati hi
theorem eW{body:Code}{α:Type}(L:α->List (Nat×SV))(O:α->It)(f:α->Nat)(x₀:α)(d:List (Nat×Nat))(j:Sub C s d (L x₀) (O x₀))(h:∀x,G C (.code body::.inv (λa w=>∃g b,f g<f x/\St C.F C.n (mkS (L g) (O g)) b a w)::k) (mkS (L x) (O x))):G C (.code (.loop body)::k) s:=λb a w o=>by
 refine wp_loop_ghost (λm a w=>∃x b,f x=m/\St C.F C.n (mkS (L x) (O x)) b a w) (f x₀) ⟨x₀,_,q_,j.st o⟩ ?_;rintro m p w' ⟨x,b',rfl,r⟩;refine wp_mono (h x b' p w' r) ?_;intro e t P i;cases e with
 |normal=>
  obtain ⟨g,b'',I,J⟩:=i;exact⟨f g,I,g,b'',q_,J⟩
 |exit id=>exact i
 |goto l=>exact i
 |ret=>exact i
 |panic c=>exact i
 |outgrown=>exact i
theorem oA{α:Type}{L:α->List (Nat×SV)}{O:α->It}{μ:α->Nat}{x:α}(g:α)(r:List (Nat×Nat))(hμ:μ g<μ x)(i:Sub C s r (L g) (O g)):G C (.inv (λa w=>∃g b,μ g<μ x/\St C.F C.n (mkS (L g) (O g)) b a w)::k) s:=λ_ _ _ j=>⟨g,_,hμ,i.st j⟩
end Go.Sy
