/-
  Sy1 I1 I2 I3 I4 Sy2 Sy3 Sy4 Sy5 Sy6 Sy7 Sy8: parts of a proof, joined by program.
-/
import Derived.WalkKit
import Derived.KernelRfl
import Derived.Scope
import Derived.Deep.LoopGhost
set_option linter.all false
set_option linter.unusedVariables false
set_option linter.unusedSimpArgs false
set_option linter.deprecated false
namespace Go.Sy
theorem E {α : Sort _} {a : α} : a = a := rfl
theorem Y : True := trivial
theorem q_ {p:Prop} (h:p:=by omega):p:=h
theorem z_ {α:Sort _} {a b:α} (h:a=b:=by kernel_rfl):a=b:=h
theorem j_ {p:Prop} (h:p:=by decide):p:=h
theorem y_ {p:Prop} (h:p:=by simp):p:=h
inductive SV:Type 1
 | top
 | val (v:Value)
 | agg (l:List SV)
 | tup (l:List SV)
 | sl (sz:Nat) {α:Type} (e:α→SV) (l:List α)
 | ref (sz:Nat) (x:SV) (off:Nat)
 | ptr (k:Nat) (off:Nat)
 | rpt (k:Nat) (sz i off:Nat)
 | osl (k:Nat)
 | ifc (t:TypeId) (x:SV)
 | clo (fn:Fn) (first cap:List SV)
inductive Ent
 | new
 | dead
 | blk (b:Nat)
 | row (b len cap:Nat)
 | nil
def Ent.block?:Ent→Option Nat
 | .blk b=>some b
 | .row b _ _=>some b
 | _=>none
structure Ka where
 ent:Nat→Ent
 M:Nat→Prop
instance:CoeFun Ka (fun _=>Nat→Ent):=⟨Ka.ent⟩
def Own (κ:Ka) (b:Nat):Prop:=(∃ k,(κ k).block? = some b)∨κ.M b
def Ones (cs:List Value):Prop:=∀ c∈cs,c.oneCell'=true
def LaidAt (w:World) (b off sz:Nat) (u:Value):Prop:=u.cells.size=sz∧Ones u.cells.toList∧∀ j,j<sz→w.cell? ⟨b,off+j,none⟩=u.cells[j]?
mutual
def RdD (M:Nat→Prop) (w:World):SV→Value→Prop
 | .top,_=>True
 | .val u,v=>v=u
 | .agg l,v=>∃ cs:List Value,v=.agg cs.toArray∧Ones cs∧RdDL M w l cs
 | .tup l,v=>∃ cs:List Value,v=.tuple cs.toArray∧RdDL M w l cs
 | .sl sz e l,v=>(l=[]∧∃ a cap,v=.slice a 0 cap) ∨
   ∃ b off cap,v=.slice (some ⟨b,off,none⟩) l.length cap∧l.length≤cap∧¬ M b∧b<w.heap.size∧∀ i (h:i<l.length),∃ u,RdD M w (e l[i]) u∧LaidAt w b (off+i * sz) sz u
 | .ref sz x off,v=>∃ b o u,v=.pointer (some ⟨b,o+off,none⟩)∧¬ M b∧b<w.heap.size∧RdD M w x u∧LaidAt w b o sz u
 | .ptr _ _,_=>False
 | .rpt _ _ _ _,_=>False
 | .osl _,_=>False
 | .ifc t x,v=>∃ u,v=.iface t u∧RdD M w x u
 | .clo fn first cap,v=>∃ fs cs:List Value,v=.func fn fs.toArray cs.toArray∧RdDL M w first fs∧RdDL M w cap cs
def RdDL (M:Nat→Prop) (w:World):List SV→List Value→Prop
 | [],vs=>vs=[]
 | x::l,vs=>∃ v r,vs=v::r∧RdD M w x v∧RdDL M w l r
end
mutual
def Rd (κ:Ka) (w:World):SV→Value→Prop
 | .top,_=>True
 | .val u,v=>v=u
 | .agg l,v=>∃ cs:List Value,v=.agg cs.toArray∧Ones cs∧RdL κ w l cs
 | .tup l,v=>∃ cs:List Value,v=.tuple cs.toArray∧RdL κ w l cs
 | .sl sz e l,v=>RdD (Own κ) w (.sl sz e l) v
 | .ref sz x off,v=>RdD (Own κ) w (.ref sz x off) v
 | .ptr k off,v=>match κ k with
  | .dead=>v.oneCell'=true
  | .blk b=>v=.pointer (some ⟨b,off,none⟩)
  | _=>False
 | .rpt k sz i off,v=>match κ k with
  | .dead=>v.oneCell'=true
  | .row b _ _=>v=.pointer (some ⟨b,i * sz+off,none⟩)
  | _=>False
 | .osl k,v=>match κ k with
  | .dead=>v.oneCell'=true
  | .row b len cap=>v=.slice (some ⟨b,0,none⟩) len cap
  | .nil=>v=.slice none 0 0
  | _=>False
 | .ifc t x,v=>∃ u,v=.iface t u∧Rd κ w x u
 | .clo fn first cap,v=>∃ fs cs:List Value,v=.func fn fs.toArray cs.toArray∧RdL κ w first fs∧RdL κ w cap cs
def RdL (κ:Ka) (w:World):List SV→List Value→Prop
 | [],vs=>vs=[]
 | x::l,vs=>∃ v r,vs=v::r∧Rd κ w x v∧RdL κ w l r
end
structure Keeps (M M':Nat→Prop) (w w':World):Prop where
 size:w.heap.size≤w'.heap.size
 blk:∀ b,b<w.heap.size→¬ M b→w'.heap[b]? = w.heap[b]?
 out:∀ b,b<w.heap.size→¬ M b→¬ M' b
theorem LaidAt.keep {w w':World} {b off sz:Nat} {u:Value} (h:LaidAt w b off sz u) (hb:w'.heap[b]? = w.heap[b]?):LaidAt w' b off sz u :=
 ⟨h.1,h.2.1,fun j hj=>(World.cell?_of_block (w:=w) (a:=⟨b,off+j,none⟩) hb).trans (h.2.2 j hj)⟩
mutual
theorem RdD.keep {M M':Nat→Prop} {w w':World} (k:Keeps M M' w w'):∀ (x:SV) (v:Value),RdD M w x v→RdD M' w' x v
 | .top,_,_=>by simp[RdD]
 | .val u,v,h=>by simpa [RdD] using h
 | .agg l,v,h=>by
  simp only[RdD]at h ⊢
  obtain ⟨cs,h1,h0,h2⟩:=h
  exact⟨cs,h1,h0,RdDL.keep k l cs h2⟩
 | .tup l,v,h=>by
  simp only[RdD]at h ⊢
  obtain ⟨cs,h1,h2⟩:=h
  exact⟨cs,h1,RdDL.keep k l cs h2⟩
 | .sl sz e l,v,h=>by
  simp only[RdD]at h ⊢
  rcases h with h | ⟨b,off,cap,h1,h0,h2,h3,h4⟩
  ·exact .inl h
  ·refine .inr ⟨b,off,cap,h1,h0,k.out b h3 h2,Nat.lt_of_lt_of_le h3 k.size,fun i hi=>?_⟩
   obtain ⟨u,h5,h6⟩:=h4 i hi
   exact⟨u,RdD.keep k (e l[i]) u h5,h6.keep (k.blk b h3 h2)⟩
 | .ref sz x off,v,h=>by
  simp only[RdD]at h ⊢
  obtain ⟨b,o,u,h1,h2,h3,h4,h5⟩:=h
  exact⟨b,o,u,h1,k.out b h3 h2,Nat.lt_of_lt_of_le h3 k.size,RdD.keep k x u h4,h5.keep (k.blk b h3 h2)⟩
 | .ptr _ _,_,h=>by simp[RdD]at h
 | .rpt _ _ _ _,_,h=>by simp[RdD]at h
 | .osl _,_,h=>by simp[RdD]at h
 | .ifc t x,v,h=>by
  simp only[RdD]at h ⊢
  obtain ⟨u,h1,h2⟩:=h
  exact⟨u,h1,RdD.keep k x u h2⟩
 | .clo fn first cap,v,h=>by
  simp only[RdD]at h ⊢
  obtain ⟨fs,cs,h1,h2,h3⟩:=h
  exact⟨fs,cs,h1,RdDL.keep k first fs h2,RdDL.keep k cap cs h3⟩
theorem RdDL.keep {M M':Nat→Prop} {w w':World} (k:Keeps M M' w w'):∀ (l:List SV) (vs:List Value),RdDL M w l vs→RdDL M' w' l vs
 | [],_,h=>by simpa [RdDL] using h
 | x::l,vs,h=>by
  simp only[RdDL]at h ⊢
  obtain ⟨v,r,h1,h2,h3⟩:=h
  exact⟨v,r,h1,RdD.keep k x v h2,RdDL.keep k l r h3⟩
end
mutual
theorem Rd.of_data {κ:Ka} {w:World}:∀ (x:SV) (v:Value),RdD (Own κ) w x v→Rd κ w x v
 | .top,_,_=>by simp[Rd]
 | .val u,v,h=>by simpa [RdD,Rd] using h
 | .agg l,v,h=>by
  simp only[RdD,Rd]at h ⊢
  obtain ⟨cs,h1,h0,h2⟩:=h
  exact⟨cs,h1,h0,RdL.of_data l cs h2⟩
 | .tup l,v,h=>by
  simp only[RdD,Rd]at h ⊢
  obtain ⟨cs,h1,h2⟩:=h
  exact⟨cs,h1,RdL.of_data l cs h2⟩
 | .sl sz e l,v,h=>by simpa only [Rd] using h
 | .ref sz x off,v,h=>by simpa only [Rd] using h
 | .ptr _ _,_,h=>by simp[RdD]at h
 | .rpt _ _ _ _,_,h=>by simp[RdD]at h
 | .osl _,_,h=>by simp[RdD]at h
 | .ifc t x,v,h=>by
  simp only[RdD,Rd]at h ⊢
  obtain ⟨u,h1,h2⟩:=h
  exact⟨u,h1,Rd.of_data x u h2⟩
 | .clo fn first cap,v,h=>by
  simp only[RdD,Rd]at h ⊢
  obtain ⟨fs,cs,h1,h2,h3⟩:=h
  exact⟨fs,cs,h1,RdL.of_data first fs h2,RdL.of_data cap cs h3⟩
theorem RdL.of_data {κ:Ka} {w:World}:∀ (l:List SV) (vs:List Value),RdDL (Own κ) w l vs→RdL κ w l vs
 | [],_,h=>by simpa [RdDL,RdL] using h
 | x::l,vs,h=>by
  simp only[RdDL,RdL]at h ⊢
  obtain ⟨v,r,h1,h2,h3⟩:=h
  exact⟨v,r,h1,Rd.of_data x v h2,RdL.of_data l r h3⟩
end
structure Inv (κ:Ka) (w:World):Prop where
 inj:∀ i j b,(κ i).block? = some b→(κ j).block? = some b→i=j
 bnd:∀ k b,(κ k).block? = some b→b<w.heap.size
 apart:∀ k b,(κ k).block? = some b→¬ κ.M b
 mbnd:∀ b,κ.M b→b<w.heap.size
structure Step (K:Nat→Prop) (κ:Ka) (w:World) (κ':Ka) (w':World):Prop where
 size:w.heap.size≤w'.heap.size
 os:w'.os=w.os
 tape:w'.tape=w.tape
 output:w'.output=w.output
 M:κ'.M=κ.M
 mkeep:∀ b,κ.M b→w'.heap[b]? = w.heap[b]?
 blk:∀ b,b<w.heap.size→¬ Own κ b→w'.heap[b]? = w.heap[b]?
 own:∀ k b,¬ K k→(κ k).block? = some b→w'.heap[b]? = w.heap[b]?
 ent:∀ k,¬ K k→κ' k=κ k
 mv:∀ k,K k→κ k=.new∨κ' k=κ k∨κ' k=.dead
 fresh:∀ b,Own κ' b→Own κ b∨w.heap.size≤b
theorem Step.refl (K:Nat→Prop) (κ:Ka) (w:World):Step K κ w κ w :=
 ⟨Nat.le_refl _,rfl,rfl,rfl,rfl,fun _ _=>rfl,fun _ _ _=>rfl,fun _ _ _ _=>rfl,fun _ _=>rfl,fun _ _=>.inr (.inl rfl),fun _ h=>.inl h⟩
theorem Step.ent_any {K:Nat→Prop} {κ κ':Ka} {w w':World} (s:Step K κ w κ' w') (k:Nat):κ k=.new∨κ' k=κ k∨κ' k=.dead:=by
 by_cases h:K k
 ·exact s.mv k h
 ·exact .inr (.inl (s.ent k h))
theorem Step.keeps {K:Nat→Prop} {κ κ':Ka} {w w':World} (s:Step K κ w κ' w'):Keeps (Own κ) (Own κ') w w' :=
 ⟨s.size,s.blk,fun b hb h h'=>(s.fresh b h').elim h (fun h2=>Nat.lt_irrefl _ (Nat.lt_of_lt_of_le hb h2))⟩
theorem Step.weaken {K K':Nat→Prop} {κ κ':Ka} {w w':World} (s:Step K κ w κ' w') (h:∀ k,K k→K' k):Step K' κ w κ' w' :=
 ⟨s.size,s.os,s.tape,s.output,s.M,s.mkeep,s.blk,fun k b hk=>s.own k b (fun h'=>hk (h k h')),fun k hk=>s.ent k (fun h'=>hk (h k h')),fun k _=>s.ent_any k,s.fresh⟩
theorem Step.trans {K:Nat→Prop} {κ₁ κ₂ κ₃:Ka} {w₁ w₂ w₃:World} (s:Step K κ₁ w₁ κ₂ w₂) (t:Step K κ₂ w₂ κ₃ w₃):Step K κ₁ w₁ κ₃ w₃ where
 size:=Nat.le_trans s.size t.size
 os:=t.os.trans s.os
 tape:=t.tape.trans s.tape
 output:=t.output.trans s.output
 M:=t.M.trans s.M
 mkeep b hb:=(t.mkeep b (by rw[s.M];exact hb)).trans (s.mkeep b hb)
 blk b hb h:=by
  rw[t.blk b (Nat.lt_of_lt_of_le hb s.size) (s.keeps.out b hb h),s.blk b hb h]
 own k b hk hb:=by
  rw[t.own k b hk (by rw[s.ent k hk];exact hb),s.own k b hk hb]
 ent k hk:=(t.ent k hk).trans (s.ent k hk)
 mv k _:=by
  rcases s.ent_any k with h | h | h
  ·exact .inl h
  ·rcases t.ent_any k with h' | h' | h'
   ·exact .inl (h ▸ h')
   ·exact .inr (.inl (h'.trans h))
   ·exact .inr (.inr h')
  ·rcases t.ent_any k with h' | h' | h'
   ·rw[h]at h';cases h'
   ·exact .inr (.inr (h'.trans h))
   ·exact .inr (.inr h')
 fresh b h:=by
  rcases t.fresh b h with h | h
  ·exact s.fresh b h
  ·exact .inr (Nat.le_trans s.size h)
mutual
theorem Rd.step {K:Nat→Prop} {κ κ':Ka} {w w':World} (s:Step K κ w κ' w'):∀ (x:SV) (v:Value),Rd κ w x v→Rd κ' w' x v
 | .top,_,_=>by simp[Rd]
 | .val u,v,h=>by simpa [Rd] using h
 | .agg l,v,h=>by
  simp only[Rd]at h ⊢
  obtain ⟨cs,h1,h0,h2⟩:=h
  exact⟨cs,h1,h0,RdL.step s l cs h2⟩
 | .tup l,v,h=>by
  simp only[Rd]at h ⊢
  obtain ⟨cs,h1,h2⟩:=h
  exact⟨cs,h1,RdL.step s l cs h2⟩
 | .sl sz e l,v,h=>by
  simp only[Rd]at h ⊢
  exact RdD.keep s.keeps _ _ h
 | .ref sz x off,v,h=>by
  simp only[Rd]at h ⊢
  exact RdD.keep s.keeps _ _ h
 | .ptr k off,v,h=>by
  simp only[Rd]at h ⊢
  rcases s.ent_any k with e | e | e
  ·rw[e]at h;exact h.elim
  ·rw[e];exact h
  ·rw[e]
   show v.oneCell'=true
   cases hk:κ k<;>simp only[hk]at h<;>first | exact h.elim | exact h | (subst h;rfl)
 | .rpt k sz i off,v,h=>by
  simp only[Rd]at h ⊢
  rcases s.ent_any k with e | e | e
  ·rw[e]at h;exact h.elim
  ·rw[e];exact h
  ·rw[e]
   show v.oneCell'=true
   cases hk:κ k<;>simp only[hk]at h<;>first | exact h.elim | exact h | (subst h;rfl)
 | .osl k,v,h=>by
  simp only[Rd]at h ⊢
  rcases s.ent_any k with e | e | e
  ·rw[e]at h;exact h.elim
  ·rw[e];exact h
  ·rw[e]
   show v.oneCell'=true
   cases hk:κ k<;>simp only[hk]at h<;>first | exact h.elim | exact h | (subst h;rfl)
 | .ifc t x,v,h=>by
  simp only[Rd]at h ⊢
  obtain ⟨u,h1,h2⟩:=h
  exact⟨u,h1,Rd.step s x u h2⟩
 | .clo fn first cap,v,h=>by
  simp only[Rd]at h ⊢
  obtain ⟨fs,cs,h1,h2,h3⟩:=h
  exact⟨fs,cs,h1,RdL.step s first fs h2,RdL.step s cap cs h3⟩
theorem RdL.step {K:Nat→Prop} {κ κ':Ka} {w w':World} (s:Step K κ w κ' w'):∀ (l:List SV) (vs:List Value),RdL κ w l vs→RdL κ' w' l vs
 | [],_,h=>by simpa [RdL] using h
 | x::l,vs,h=>by
  simp only[RdL]at h ⊢
  obtain ⟨v,r,h1,h2,h3⟩:=h
  exact⟨v,r,h1,Rd.step s x v h2,RdL.step s l r h3⟩
end
inductive Ob:Type 1
 | fresh
 | non
 | box (l:List SV)
 | row (sz:Nat) {α:Type} (e:α→SV) (l:List α)
 | lit (sz:Nat) (svs:List SV)
 | glob (sz:Nat) (x:SV) (g:Nat)
 | pin (b n cap sz:Nat) {α:Type} (e:α→SV) (l:List α)
 | dat (v:Value) (sz:Nat) {α:Type} (e:α→SV) (l:List α)
 | rown (sz:Nat) {α:Type} (e:α→SV) (l:List α) (i:Nat) (cl:List SV)
 | tbox (T:TypeId) (l:List SV)
def NoFr (fr:Nat × Nat) (n:Nat):Prop:=fr.1=fr.2∨n≤fr.1
def Ei {α:Type 1}:List α→Nat→Option α
 | [],_=>none
 | x::_,0=>some x
 | _::l,n+1=>Ei l n
def RowAt (κ:Ka) (w:World) (k sz n:Nat) (f:Nat→SV→Prop):Prop :=
 ∃ b cap cs T fr,κ k=.row b n cap∧w.heap[b]? = some (.cells (List.toArray cs) T fr)∧NoFr fr cs.length∧cap * sz≤cs.length∧n≤cap ∧
  ∀ i x,f i x→i<n∧∃ u:Value,RdD (Own κ) w x u∧u.cells.size=sz∧Ones u.cells.toList∧∀ j,j<sz→cs[i * sz+j]? = u.cells[j]?
def RowN (κ:Ka) (w:World) (k sz n:Nat) (f:Nat→SV→Prop) (i:Nat) (cl:List SV):Prop :=
 ∃ b cap cs T fr,κ k=.row b n cap∧w.heap[b]? = some (.cells (List.toArray cs) T fr)∧NoFr fr cs.length∧cap * sz≤cs.length∧n≤cap ∧
  (∀ j x,j≠i→f j x→j<n∧∃ u:Value,RdD (Own κ) w x u∧u.cells.size=sz∧Ones u.cells.toList∧∀ m,m<sz→cs[j * sz+m]? = u.cells[m]?) ∧
  i<n∧∃ us:List Value,us.length=sz∧Ones us∧RdL κ w cl us∧∀ m,m<sz→cs[i * sz+m]? = us[m]?
def rowF {α:Type} (e:α→SV) (l:List α) (i:Nat) (x:SV):Prop:=∃ h:i<l.length,x=e l[i]
def Aa0 (svs:List SV) (i:Nat) (x:SV):Prop:=Ei svs i=some x
def ObOK (κ:Ka) (w:World) (k:Nat):Ob→Prop
 | .fresh=>κ k=.new
 | .non=>True
 | .box l=>∃ b cs T fr,κ k=.blk b∧w.heap[b]? = some (.cells (List.toArray cs) T fr)∧NoFr fr cs.length∧Ones cs∧RdL κ w l cs
 | .row sz e l=>(κ k=.nil∧l=[])∨RowAt κ w k sz l.length (rowF e l)
 | .lit sz svs=>RowAt κ w k sz svs.length (Aa0 svs)
 | .glob sz x g=>Rd κ w (.ref sz x 0) (.pointer (some ⟨g,0,none⟩))
 | .pin b n cap sz e l=>κ k=.row b n cap∧RowAt κ w k sz n (rowF e l)
 | .dat v sz e l=>Rd κ w (.sl sz e l) v
 | .rown sz e l i cl=>RowN κ w k sz l.length (rowF e l) i cl
 | .tbox T l=>∃ b cs fr,κ k=.blk b∧w.heap[b]? = some (.cells (List.toArray cs) T fr)∧NoFr fr cs.length∧Ones cs∧RdL κ w l cs
theorem RowAt.step {K:Nat→Prop} {κ κ':Ka} {w w':World} (s:Step K κ w κ' w') {k sz n:Nat} {f:Nat→SV→Prop} (hk:¬ K k) (h:RowAt κ w k sz n f):RowAt κ' w' k sz n f:=by
 obtain ⟨b,cap,cs,T,fr,h1,h2,h3,h4,h5,h6⟩:=h
 refine⟨b,cap,cs,T,fr,(s.ent k hk).trans h1,(s.own k b hk (by rw[h1];rfl)).trans h2,h3,h4,h5,fun i x hi=>?_⟩
 obtain ⟨h0,u,h7,h8⟩:=h6 i x hi
 exact⟨h0,u,RdD.keep s.keeps _ _ h7,h8⟩
theorem RowN.step {K:Nat→Prop} {κ κ':Ka} {w w':World} (s:Step K κ w κ' w') {k sz n:Nat} {f:Nat→SV→Prop} {i:Nat} {cl:List SV} (hk:¬ K k) (h:RowN κ w k sz n f i cl):RowN κ' w' k sz n f i cl:=by
 obtain ⟨b,cap,cs,T,fr,h1,h2,h3,h4,h5,h6,h7,us,u1,u2,u3,u4⟩:=h
 refine⟨b,cap,cs,T,fr,(s.ent k hk).trans h1,(s.own k b hk (by rw[h1];rfl)).trans h2,h3,h4,h5,fun j x hj hi=>?_,h7,us,u1,u2,RdL.step s cl us u3,u4⟩
 obtain ⟨h0,u,h7,h8⟩:=h6 j x hj hi
 exact⟨h0,u,RdD.keep s.keeps _ _ h7,h8⟩
theorem ObOK.step {K:Nat→Prop} {κ κ':Ka} {w w':World} (s:Step K κ w κ' w') {k:Nat} (hk:¬ K k):∀ (o:Ob),ObOK κ w k o→ObOK κ' w' k o
 | .fresh,h=>(s.ent k hk).trans h
 | .non,_=>trivial
 | .box l,h=>by
  obtain ⟨b,cs,T,fr,h1,h2,h3,h0,h4⟩:=h
  exact⟨b,cs,T,fr,(s.ent k hk).trans h1,(s.own k b hk (by rw[h1];rfl)).trans h2,h3,h0,RdL.step s l cs h4⟩
 | .row sz e l,h=>h.imp (fun ⟨h1,h2⟩=>⟨(s.ent k hk).trans h1,h2⟩) (RowAt.step s hk)
 | .lit sz svs,h=>RowAt.step s hk h
 | .glob sz x g,h=>Rd.step s _ _ h
 | .pin b n cap sz e l,h=>⟨(s.ent k hk).trans h.1,RowAt.step s hk h.2⟩
 | .dat v sz e l,h=>Rd.step s _ _ h
 | .rown sz e l i cl,h=>RowN.step s hk h
 | .tbox T l,h=>by
  obtain ⟨b,cs,fr,h1,h2,h3,h0,h4⟩:=h
  exact⟨b,cs,fr,(s.ent k hk).trans h1,(s.own k b hk (by rw[h1];rfl)).trans h2,h3,h0,RdL.step s l cs h4⟩
structure Fr where
 w0:World
 k0:Ka
 ds:List Deferred
structure Ctx (F:Fr) (κ:Ka) (w:World):Prop where
 size:F.w0.heap.size≤w.heap.size
 os:w.os=F.w0.os
 tape:w.tape=F.w0.tape
 output:w.output=F.w0.output
 M:κ.M=F.k0.M
 old:∀ b,b<F.w0.heap.size→(∀ k,(F.k0 k).block? ≠ some b)→w.heap[b]? = F.w0.heap[b]?
 own:∀ k b,(κ k).block? = some b→F.w0.heap.size≤b∨∃ j,(F.k0 j).block? = some b
 nam:∀ k,F.k0 k≠.new→κ k=F.k0 k∨κ k=.dead
theorem Ctx.refl (κ:Ka) (w:World):Ctx ⟨w,κ,[]⟩ κ w :=
 ⟨Nat.le_refl _,rfl,rfl,rfl,rfl,fun _ _ _=>rfl,fun k _ h=>.inr ⟨k,h⟩,fun _ _=>.inl rfl⟩
theorem Ctx.step {F:Fr} {K:Nat→Prop} {κ κ':Ka} {w w':World} (c:Ctx F κ w) (hi:Inv κ' w') (s:Step K κ w κ' w'):Ctx F κ' w' where
 size:=Nat.le_trans c.size s.size
 os:=s.os.trans c.os
 tape:=s.tape.trans c.tape
 output:=s.output.trans c.output
 M:=s.M.trans c.M
 old b hb h:=by
  by_cases hm:κ.M b
  ·rw[s.mkeep b hm,c.old b hb h]
  ·rw[s.blk b (Nat.lt_of_lt_of_le hb c.size) ?_,c.old b hb h]
   rintro (⟨k,hk⟩ | hk)
   ·rcases c.own k b hk with h2 | ⟨j,h2⟩
    ·exact Nat.lt_irrefl _ (Nat.lt_of_lt_of_le hb h2)
    ·exact h j h2
   ·exact hm hk
 own k b h:=by
  rcases s.fresh b (.inl ⟨k,h⟩) with (⟨j,h1⟩ | h1) | h1
  ·exact c.own j b h1
  ·exact absurd (by rw[s.M];exact h1) (hi.apart k b h)
  ·exact .inl (Nat.le_trans c.size h1)
 nam k hk:=by
  rcases s.ent_any k with h | h | h
  ·rcases c.nam k hk with h' | h'
   ·exact absurd (h'.symm.trans h) hk
   ·rw[h]at h';cases h'
  ·rw[h];exact c.nam k hk
  ·exact .inr h
structure SS:Type 1 where
 σ:Nat→SV
 h:Nat→Ob
structure St (F:Fr) (n:Nat) (s:SS) (κ:Ka) (a:Act) (w:World):Prop where
 defers:a.defers=F.ds
 size:a.tmps.size=n
 inv:Inv κ w
 ctx:Ctx F κ w
 slot:∀ i,Rd κ w (s.σ i) (a.tmps.getD i undef)
 obj:∀ k,ObOK κ w k (s.h k)
end Go.Sy
namespace Go.Sy.YtcflgpijohhfbaaGreat
section
variable {α:Type}
def Ak3 (p:α→Bool):List α→Nat
 | []=>0
 | a::l=>if Ak3 p l=l.length∧p a=true then l.length+1 else Ak3 p l
def insE (lt:α→α→Bool) (x:α) (l:List α):List α:=l.take (l.length-Ak3 (lt x) l)++x::l.drop (l.length-Ak3 (lt x) l)
def Afb (lt:α→α→Bool):List α→List α→List α
 | out,[]=>out
 | out,x::l=>Afb lt (insE lt x out) l
def Au3 (lt:α→α→Bool) (l:List α):List α:=Afb lt [] l
end
end Go.Sy.YtcflgpijohhfbaaGreat
namespace Go.Sy.YtcflgpijohhfbaaGreat
section
variable {α:Type}
def bs (lt:α→α→Bool) (s:Nat) (l:List α):List α :=
 if h:s=0∨l.length≤s then Au3 lt l else Au3 lt (l.take s)++bs lt s (l.drop s)
termination_by l.length
decreasing_by
 simp only[List.length_drop];omega
end
end Go.Sy.YtcflgpijohhfbaaGreat
namespace Go.Sy.YtcflgpijohhfbaaGreat
section
variable {α:Type}
end
end Go.Sy.YtcflgpijohhfbaaGreat
namespace Go.Sy.YtcflgpijohhfbaaGreat
section
variable {α β:Type}
structure CmpOK (c:α→α→Int):Prop where
 anti:∀ x y,c x y<0↔0<c y x
 trans:∀ x y z,c x y≤0→c y z≤0→c x z≤0∧(c x z=0→c x y=0∧c y z=0)
theorem CmpOK.self {c:α→α→Int} (h:CmpOK c) (x:α):c x x=0:=by
 have:=h.anti x x;omega
theorem CmpOK.zero {c:α→α→Int} (h:CmpOK c) {x y:α} (hx:c x y=0):c y x=0:=by
 have h1:=h.anti x y;have h2:=h.anti y x;omega
theorem CmpOK.alike {c:α→α→Int} (h:CmpOK c) {x y z:α} (h1:c x y=0) (h2:c y z=0):c x z=0:=by
 have a:=(h.trans x y z q_ q_).1
 have b:=(h.trans z y x (by rw[h.zero h2];omega) (by rw[h.zero h1];omega)).1
 have d:=h.anti x z
 have e:=h.anti z x
 omega
def Wd (a b:Int):Int:=if a≠0 then a else b
theorem CmpOK.then {c d:α→α→Int} (hc:CmpOK c) (hd:CmpOK d):CmpOK (fun x y=>Wd (c x y) (d x y)) where
 anti x y:=by
  have h1:=hc.anti x y
  have h2:=hc.anti y x
  have h3:=hd.anti x y
  unfold Wd
  by_cases h:c x y=0
  ·rw[if_neg q_,if_neg q_];exact h3
  ·rw[if_pos h,if_pos q_];exact h1
 trans x y z:=by
  unfold Wd
  intro h1 h2
  have t:=hc.trans x y z
  by_cases hxy:c x y=0
  ·rw[if_neg q_]at h1
   by_cases hyz:c y z=0
   ·rw[if_neg q_]at h2
    have hxz:=hc.alike hxy hyz
    rw[if_neg q_,if_neg q_,if_neg q_]
    exact hd.trans x y z h1 h2
   ·rw[if_pos hyz]at h2
    have t:=t q_ h2
    have h0:c x z≠0:=fun e=>hyz (t.2 e).2
    rw[if_pos h0]
    exact⟨t.1,fun e=>absurd e h0⟩
  ·rw[if_pos hxy]at h1
   have hyz:c y z≤0:=by
    by_cases hyz:c y z=0
    ·omega
    ·rw[if_pos hyz]at h2;exact h2
   have t:=t h1 hyz
   have h0:c x z≠0:=fun e=>hxy (t.2 e).1
   rw[if_pos h0]
   exact⟨t.1,fun e=>absurd e h0⟩
def En (c:α→α→Int):List α→List α→Int
 | [],[]=>0
 | [],_::_=>-1
 | _::_,[]=>1
 | x::a,y::b=>Wd (c x y) (En c a b)
theorem Z6 {c:α→α→Int} (h:CmpOK c):∀ (a b:List α),En c a b<0↔0<En c b a
 | [],[]=>by simp[En]
 | [],_::_=>by simp[En]
 | _::_,[]=>by simp[En]
 | x::a,y::b=>by
  have ih:=Z6 h a b
  have h1:=h.anti x y
  have h2:=h.anti y x
  rw[En,En]
  unfold Wd
  by_cases h0:c x y=0
  ·rw[if_neg q_,if_neg q_];exact ih
  ·rw[if_pos h0,if_pos q_];exact h1
theorem W3 {c:α→α→Int} (h:CmpOK c):∀ (a b d:List α),En c a b≤0→En c b d≤0→En c a d≤0∧(En c a d=0→En c a b=0∧En c b d=0)
 | [],[],[],_,_=>by simp[En]
 | [],[],_::_,_,_=>by simp[En]
 | [],_::_,[],_,h2=>by simp[En]at h2
 | [],_::_,_::_,_,_=>by simp[En]
 | _::_,[],_,h1,_=>by simp[En]at h1
 | _::_,_::_,[],_,h2=>by simp[En]at h2
 | x::a,y::b,z::d,h1,h2=>by
  have ih:=W3 h a b d
  rw[En]at h1 h2 ⊢
  rw[En,En]
  unfold Wd at h1 h2 ⊢
  have t:=h.trans x y z
  by_cases hxy:c x y=0
  ·rw[if_neg q_]at h1
   by_cases hyz:c y z=0
   ·rw[if_neg q_]at h2
    have hxz:=h.alike hxy hyz
    rw[if_neg q_,if_neg q_,if_neg q_]
    exact ih h1 h2
   ·rw[if_pos hyz]at h2
    have t:=t q_ h2
    have h0:c x z≠0:=fun e=>hyz (t.2 e).2
    rw[if_pos h0]
    exact⟨t.1,fun e=>absurd e h0⟩
  ·rw[if_pos hxy]at h1
   have hyz:c y z≤0:=by
    by_cases hyz:c y z=0
    ·omega
    ·rw[if_pos hyz]at h2;exact h2
   have t:=t h1 hyz
   have h0:c x z≠0:=fun e=>hxy (t.2 e).1
   rw[if_pos h0]
   exact⟨t.1,fun e=>absurd e h0⟩
theorem CmpOK.list {c:α→α→Int} (h:CmpOK c):CmpOK (En c):=⟨Z6 h,W3 h⟩
end
end Go.Sy.YtcflgpijohhfbaaGreat
namespace Go.Sy
inductive TK
 | bool | int (k:IntKind) | string
 | slice (e:TypeId) (esz ebytes:Nat) (ez:List Value)
 | struct (fs:List (Nat × Nat))
 | array (e len esz:Nat)
 | ptr | iface | func | other
structure TI where
 k:TK
 size:Nat
 zero:List Value
def TI.agg (i:TI):Bool:=match i.k with | .struct _=>true | .array _ _ _=>true | _=>false
def Ed (P:Program):List Field→List (Nat × Nat)→Prop
 | [],[]=>True
 | f::fs,(o,n)::r=>f.offset=o∧(P.info? f.type).map (·.size)=some n∧Ed P fs r
 | _,_=>False
def TK.ok (P:Program):TypeDesc→TK→Prop
 | d,.bool=>d=.bool
 | d,.int k=>d=.int k
 | d,.string=>d=.string
 | d,.slice e esz eb ez=>d=.slice e∧∃ i z,P.info? e=some i∧i.size=esz∧i.bytes=eb∧i.zero=some z∧z.cells.toList=ez
 | d,.struct fs=>∃ a,d=.struct a∧Ed P a.toList fs
 | d,.array e len esz=>d=.array len e∧∃ i,P.info? e=some i∧i.size=esz
 | d,.ptr=>∃ e,d=.pointer e
 | d,.iface=>∃ m,d=.interface m
 | d,.func=>∃ a b c,d=.func a b c
 | _,.other=>False
def TI.ok (P:Program) (t:TypeId) (i:TI):Prop :=
 ∃ d info z,P.underlying t=some d∧TK.ok P d i.k∧P.info? t=some info∧info.size=i.size∧info.zero=some z∧z.cells.toList=i.zero
structure Ty (P:Program) where
 get:TypeId→Option TI
 ok:∀ t i,get t=some i→i.ok P t
def upd {β:Type 1} (f:Nat→β) (d:Nat) (v:β):Nat→β:=fun i=>bif Nat.beq i d then v else f i
theorem Bi {β:Type 1} (f:Nat→β) (d:Nat) (v:β):upd f d v d=v:=by simp[upd]
theorem B6 {β:Type 1} (f:Nat→β) {d i:Nat} (v:β) (h:i≠d):upd f d v i=f i:=by
 have:Nat.beq i d=false:=by
  cases hb:Nat.beq i d with
  | false=>rfl
  | true=>exact absurd (Nat.eq_of_beq_eq_true hb) h
 simp[upd,this]
def ev (s:SS):Operand→SV
 | .tmp t=>s.σ t
 | .const v=>.val v
 | .global g=>.val (.pointer (some ⟨g,0,none⟩))
 | .func f=>.clo (.func f) [] []
structure Up:Type 1 where
 v:SV
 rd:List Nat
 objs:List (Nat × Ob)
def Up.ws (U:Up):List Nat:=U.objs.map (·.1)
def Good (P:Program) (o:Oper) (s:SS) (U:Up):Prop :=
 ∀ (κ:Ka) (a:Act) (w:World),Inv κ w→(∀ x∈o.op.operands,Rd κ w (ev s x) (a.eval x))→(∀ k,k∈U.rd∨k∈U.ws→ObOK κ w k (s.h k)) →
  ∀ (N:Act→World→Prop) (Q:Exit→Act→World→Prop),
   (∀ v κ' w',Step (·∈U.ws) κ w κ' w'→Inv κ' w'→Rd κ' w' U.v v→(∀ x∈U.objs,ObOK κ' w' x.1 x.2)→N (a.put o.dst v) w')→o.wp P a w N Q
theorem Good.pure {P:Program} {o:Oper} {s:SS} {x:SV} {rd:List Nat}
  (h:∀ (κ:Ka) (a:Act) (w:World),Inv κ w→(∀ x∈o.op.operands,Rd κ w (ev s x) (a.eval x))→(∀ k,k∈rd→ObOK κ w k (s.h k))→∃ v,(execOp a.eval o).run P w=.ok (.value v) w∧Rd κ w x v):Good P o s ⟨x,rd,[]⟩:=by
 intro κ a w hi hr ho N Q hN
 obtain ⟨v,h1,h2⟩:=h κ a w hi hr (fun k hk=>ho k (.inl hk))
 simp only[Oper.wp,h1,Oper.upon]
 exact hN v κ w (Step.refl _ κ w) hi h2 (fun x hx=>by cases hx)
theorem Acf {P:Program} {o:Oper} {s:SS} {x:Operand} (h:o.op=.move x∨o.op=.assign x):Good P o s ⟨ev s x,[],[]⟩ :=
 Good.pure fun κ a w _ hr _=>by
  refine⟨a.eval x,?_,hr x ?_⟩
  ·rcases h with h | h<;>simp[execOp,h]
  ·rcases h with h | h<;>simp[h,Op.operands]
theorem Rd.val {κ:Ka} {w:World} {u v:Value} (h:Rd κ w (.val u) v):v=u:=by simpa [Rd] using h
theorem Ace {P:Program} {o:Oper} {s:SS} {c x y:Operand} {b:Bool} (h:o.op=.pick c x y) (hc:ev s c=.val (.bool b)):Good P o s ⟨if b then ev s x else ev s y,[],[]⟩ :=
 Good.pure fun κ a w _ hr _=>by
  have h1:=hr c (by simp[h,Op.operands])
  rw[hc]at h1
  refine⟨if b then a.eval x else a.eval y,?_,?_⟩
  ·simp[execOp,h,h1.val,asBool]
  ·cases b
   ·exact hr y (by simp[h,Op.operands])
   ·exact hr x (by simp[h,Op.operands])
theorem Aru {P:Program} {o:Oper} {s:SS} {op:BinOp} {t yt:TypeId} {x y:Operand} {k:IntKind} {m n:Int} {u:Value} (h:o.op=.binOp op t x y yt)
  (hx:ev s x=.val (.int k m)) (hy:ev s y=.val (.int k n)) (hr:∀ w,(binOp op t (.int k m) (.int k n)).run P w=.ok u w):Good P o s ⟨.val u,[],[]⟩ :=
 Good.pure fun κ a w _ hrd _=>by
  have h1:=hrd x (by simp[h,Op.operands])
  have h2:=hrd y (by simp[h,Op.operands])
  rw[hx]at h1
  rw[hy]at h2
  refine⟨u,?_,by simp[Rd]⟩
  simp[execOp,h,h1.val,h2.val,eqGuard_at_int,hr]
def C4 (κ:Ka) (d:Nat) (e:Ent):Ka:=⟨fun i=>if i=d then e else κ i,κ.M⟩
theorem Ar (κ:Ka) (d:Nat) (e:Ent):C4 κ d e d=e:=by simp[C4]
theorem Bt (κ:Ka) {d i:Nat} (e:Ent) (h:i≠d):C4 κ d e i=κ i:=by simp[C4,h]
structure Grew (w w':World):Prop where
 os:w'.os=w.os
 tape:w'.tape=w.tape
 output:w'.output=w.output
 size:w.heap.size≤w'.heap.size
 blk:∀ b,b<w.heap.size→w'.heap[b]? = w.heap[b]?
theorem Grew.refl (w:World):Grew w w:=⟨rfl,rfl,rfl,Nat.le_refl _,fun _ _=>rfl⟩
theorem Grew.alloc (w:World) (o:Obj):Grew w (w.alloc o):=⟨rfl,rfl,rfl,by simp,fun b hb=>RowKit.Below.heap_alloc w o b hb⟩
theorem Grew.drew (w:World):Grew w w.drew:=⟨rfl,rfl,rfl,Nat.le_refl _,fun _ _=>rfl⟩
theorem Grew.trans {a b c:World} (h:Grew a b) (k:Grew b c):Grew a c :=
 ⟨k.os.trans h.os,k.tape.trans h.tape,k.output.trans h.output,Nat.le_trans h.size k.size,fun i hi=>(k.blk i (Nat.lt_of_lt_of_le hi h.size)).trans (h.blk i hi)⟩
theorem Hu {κ:Ka} {w w':World} {d:Nat} {e:Ent} (hi:Inv κ w) (hd:κ d=.new) (g:Grew w w') (he:∀ b,e.block? = some b→w.heap.size≤b∧b<w'.heap.size) :
  Step (·=d) κ w (C4 κ d e) w'∧Inv (C4 κ d e) w':=by
 have key:∀ k b,((C4 κ d e) k).block? = some b→(k=d∧e.block? = some b)∨(k≠d∧(κ k).block? = some b):=by
  intro k b h
  by_cases hk:k=d
  ·subst hk;rw[Ar]at h;exact .inl ⟨rfl,h⟩
  ·rw[Bt κ e hk]at h;exact .inr ⟨hk,h⟩
 refine⟨⟨g.size,g.os,g.tape,g.output,E,fun b hb=>g.blk b (hi.mbnd b hb),fun b hb _=>g.blk b hb,fun k b _ hb=>g.blk b (hi.bnd k b hb),fun k hk=>Bt κ e hk,fun k hk=>.inl (by rw[hk];exact hd),?_⟩,⟨?_,?_,?_,fun b hb=>Nat.lt_of_lt_of_le (hi.mbnd b hb) g.size⟩⟩
 ·rintro b (⟨k,hk⟩ | hk)
  ·rcases key k b hk with ⟨_,h⟩ | ⟨_,h⟩
   ·exact .inr (he b h).1
   ·exact .inl (.inl ⟨k,h⟩)
  ·exact .inl (.inr hk)
 ·intro i j b h1 h2
  rcases key i b h1 with ⟨n1,g1⟩ | ⟨n1,g1⟩<;>rcases key j b h2 with ⟨n2,g2⟩ | ⟨n2,g2⟩
  ·exact n1.trans n2.symm
  ·have:=(he b g1).1;have:=hi.bnd j b g2;omega
  ·have:=(he b g2).1;have:=hi.bnd i b g1;omega
  ·exact hi.inj i j b g1 g2
 ·intro k b h
  rcases key k b h with ⟨_,h⟩ | ⟨_,h⟩
  ·exact(he b h).2
  ·exact Nat.lt_of_lt_of_le (hi.bnd k b h) g.size
 ·intro k b h hm
  rcases key k b h with ⟨_,h⟩ | ⟨_,h⟩
  ·have:=(he b h).1;have:=hi.mbnd b hm;omega
  ·exact hi.apart k b h hm
theorem Ls {κ:Ka} {w w':World} {k b:Nat} (hi:Inv κ w) (hk:(κ k).block? = some b) (hos:w'.os=w.os) (ht:w'.tape=w.tape) (ho:w'.output=w.output)
  (hs:w'.heap.size=w.heap.size) (hb:∀ i,i≠b→w'.heap[i]? = w.heap[i]?):Step (·=k) κ w κ w'∧Inv κ w':=by
 refine⟨⟨by omega,hos,ht,ho,E,fun i hm=>hb i (fun e=>hi.apart k b hk (e ▸ hm)),fun i _ hn=>hb i (fun e=>hn (.inl ⟨k,e ▸ hk⟩)),fun j i hj hji=>hb i (fun e=>hj (hi.inj j k b (e ▸ hji) hk)),fun _ _=>rfl,fun _ _=>.inr (.inl E),fun _ h=>.inl h⟩,⟨hi.inj,fun j i h=>?_,hi.apart,fun i h=>?_⟩⟩
 ·rw[hs];exact hi.bnd j i h
 ·rw[hs];exact hi.mbnd i h
theorem Ul {P:Program} {o:Oper} {s:SS} {d:Nat} {x:SV} {ob:Ob} {rd:List Nat} (hd:s.h d=.fresh)
  (h:∀ (κ:Ka) (a:Act) (w:World),Inv κ w→(∀ x∈o.op.operands,Rd κ w (ev s x) (a.eval x))→(∀ k,k∈rd→ObOK κ w k (s.h k))→κ d=.new →
   ∃ v w' e,(execOp a.eval o).run P w=.ok (.value v) w'∧Grew w w'∧(∀ b,e.block? = some b→w.heap.size≤b∧b<w'.heap.size) ∧
    (Step (·=d) κ w (C4 κ d e) w'→Rd (C4 κ d e) w' x v∧ObOK (C4 κ d e) w' d ob)):Good P o s ⟨x,rd,[(d,ob)]⟩:=by
 intro κ a w hi hr ho N Q hN
 have hnew:κ d=.new:=by have:=ho d (.inr (by simp[Up.ws]));rwa [hd]at this
 obtain ⟨v,w',e,h1,h2,h3,h4⟩:=h κ a w hi hr (fun k hk=>ho k (.inl hk)) hnew
 have hst:=Hu hi hnew h2 h3
 obtain ⟨h5,h6⟩:=h4 hst.1
 simp only[Oper.wp,h1,Oper.upon]
 exact hN v _ w' (hst.1.weaken (by simp[Up.ws])) hst.2 h5 (fun y hy=>by simp only[List.mem_singleton]at hy;subst hy;exact h6)
def cellsOf:SV→List SV
 | .agg l=>l
 | x=>[x]
def SV.one:SV→Bool
 | .val v=>v.oneCell'
 | .top=>false
 | .agg _=>false
 | .tup _=>false
 | _=>true
theorem Rd.one {κ:Ka} {w:World}:∀ {x:SV} {v:Value},Rd κ w x v→x.one=true→v.oneCell'=true
 | .val u,v,h,h1=>by rw[h.val];exact h1
 | .sl sz e l,v,h,_=>by
  simp only[Rd,RdD]at h
  rcases h with ⟨_,a,c,rfl⟩ | ⟨b,off,cap,rfl,_⟩<;>rfl
 | .ref sz x off,v,h,_=>by
  simp only[Rd,RdD]at h
  obtain ⟨b,o,u,rfl,_⟩:=h
  rfl
 | .ptr k off,v,h,_=>by
  simp only[Rd]at h
  cases hk:κ k<;>simp only[hk]at h<;>first | exact h.elim | exact h | (subst h;rfl)
 | .rpt k sz i off,v,h,_=>by
  simp only[Rd]at h
  cases hk:κ k<;>simp only[hk]at h<;>first | exact h.elim | exact h | (subst h;rfl)
 | .osl k,v,h,_=>by
  simp only[Rd]at h
  cases hk:κ k<;>simp only[hk]at h<;>first | exact h.elim | exact h | (subst h;rfl)
 | .ifc t x,v,h,_=>by
  simp only[Rd]at h
  obtain ⟨u,rfl,_⟩:=h
  rfl
 | .clo fn first cap,v,h,_=>by
  simp only[Rd]at h
  obtain ⟨u,u',rfl,_⟩:=h
  rfl
def SV.boxed:SV→Bool
 | .agg _=>true
 | x=>x.one
theorem Value.cells_one {v:Value} (h:v.oneCell'=true):v.cells=#[v]:=by
 cases v<;>simp_all[Value.oneCell',Value.cells]
theorem Rd.cells {κ:Ka} {w:World} {x:SV} {v:Value} (h:Rd κ w x v) (hb:x.boxed=true):Ones v.cells.toList∧RdL κ w (cellsOf x) v.cells.toList:=by
 have plain:x.one=true→Ones v.cells.toList∧RdL κ w [x] v.cells.toList:=fun h1=>by
  have h2:=h.one h1
  rw[Value.cells_one h2]
  refine⟨fun c hc=>by simp at hc;subst hc;exact h2,?_⟩
  simp only[RdL]
  exact⟨v,[],E,h,E⟩
 cases x with
 | agg l =>
  simp only[Rd]at h
  obtain ⟨cs,rfl,h1,h2⟩:=h
  exact⟨by simpa [Value.cells] using h1,by simpa [Value.cells,cellsOf] using h2⟩
 | top=>exact plain hb
 | val v=>exact plain hb
 | tup l=>simp[SV.boxed,SV.one]at hb
 | sl sz e l=>exact plain hb
 | ref sz x off=>exact plain hb
 | ptr k off=>exact plain hb
 | rpt k sz i off=>exact plain hb
 | osl k=>exact plain hb
 | ifc t x=>exact plain hb
 | clo fn first cap=>exact plain hb
theorem NoFr.zero (n:Nat):NoFr (0,0) n:=.inl rfl
theorem Ur {P:Program} {o:Oper} {s:SS} {t:TypeId} {x:Operand} {d:Nat} (h:o.op=.box t x) (hd:s.h d=.fresh) (hb:(ev s x).boxed=true) :
  Good P o s ⟨.ptr d 0,[],[(d,.box (cellsOf (ev s x)))]⟩ :=
 Ul hd fun κ a w hi hr _ hn=>by
  have h1:=hr x (by simp[h,Op.operands])
  have h2:=h1.cells hb
  refine⟨.pointer (some ⟨w.heap.size,0,none⟩),w.alloc (.cells (a.eval x).cells t),.blk w.heap.size,?_,Grew.alloc w _,?_,?_⟩
  ·simp[execOp,h,Instr.box,newVar,newRow]
  ·intro b hb;simp only[Ent.block?,Option.some.injEq]at hb;subst hb;simp
  ·intro st
   refine⟨by simp[Rd,Ar],w.heap.size,(a.eval x).cells.toList,t,(0,0),Ar _ _ _,?_,NoFr.zero _,h2.1,RdL.step st _ _ h2.2⟩
   rw[heap_alloc_new]
theorem Va {κ:Ka} {w:World}:∀ l:List Value,RdL κ w (l.map .val) l
 | []=>by simp[RdL]
 | v::l=>by simp only[List.map_cons,RdL];exact⟨v,l,rfl,by simp[Rd],Va l⟩
def Wq (l:List Value):Bool:=l.all (·.oneCell')
theorem Oc {l:List Value} (h:Wq l=true):Ones l:=by simpa [Wq,Ones] using h
theorem Ajz {P:Program} (Γ:Ty P) {o:Oper} {s:SS} {t:TypeId} {i:TI} {d:Nat} (h:o.op=.alloc t) (hd:s.h d=.fresh) (ht:Γ.get t=some i) (h1:Wq i.zero=true) :
  Good P o s ⟨.ptr d 0,[],[(d,.box (i.zero.map .val))]⟩ :=
 Ul hd fun κ a w hi hr _ hn=>by
  obtain ⟨dd,info,z,k1,k2,k3,k4,k5,k6⟩:=Γ.ok t i ht
  refine⟨.pointer (some ⟨w.heap.size,0,none⟩),w.alloc (.cells z.cells t),.blk w.heap.size,?_,Grew.alloc w _,?_,?_⟩
  ·simp[execOp,h,Instr.alloc,newVar,newRow,zeroValue,typeInfo,k3,k5]
  ·intro b hb;simp only[Ent.block?,Option.some.injEq]at hb;subst hb;simp
  ·intro st
   refine⟨by simp[Rd,Ar],w.heap.size,i.zero,t,(0,0),Ar _ _ _,?_,NoFr.zero _,Oc h1,Va _⟩
   rw[heap_alloc_new,← k6]
def Ve (κ:Ka) (w:World) (b o:Nat) (l:List SV):Prop:=∃ cs:List Value,RdL κ w l cs∧Ones cs∧∀ j,j<cs.length→w.cell? ⟨b,o+j,none⟩=cs[j]?
theorem RdL.length {κ:Ka} {w:World}:∀ {l:List SV} {cs:List Value},RdL κ w l cs→cs.length=l.length
 | [],cs,h=>by simp only[RdL]at h;subst h;rfl
 | x::l,cs,h=>by
  simp only[RdL]at h
  obtain ⟨v,r,rfl,_,h⟩:=h
  simp[h.length]
theorem RdL.drop {κ:Ka} {w:World}:∀ (n:Nat) {l:List SV} {cs:List Value},RdL κ w l cs→RdL κ w (l.drop n) (cs.drop n)
 | 0,l,cs,h=>by simpa using h
 | n+1,[],cs,h=>by simp only[RdL]at h;subst h;simp[RdL]
 | n+1,x::l,cs,h=>by
  simp only[RdL]at h
  obtain ⟨v,r,rfl,_,h⟩:=h
  simpa using h.drop n
theorem RdL.take {κ:Ka} {w:World}:∀ (n:Nat) {l:List SV} {cs:List Value},RdL κ w l cs→RdL κ w (l.take n) (cs.take n)
 | 0,l,cs,h=>by simp[RdL]
 | n+1,[],cs,h=>by simp only[RdL]at h;subst h;simp[RdL]
 | n+1,x::l,cs,h=>by
  simp only[RdL]at h
  obtain ⟨v,r,rfl,h1,h⟩:=h
  simp only[List.take_succ_cons,RdL]
  exact⟨v,_,E,h1,h.take n⟩
theorem RdL.append {κ:Ka} {w:World}:∀ {l m:List SV} {cs ds:List Value},RdL κ w l cs→RdL κ w m ds→RdL κ w (l++m) (cs++ds)
 | [],m,cs,ds,h,h'=>by simp only[RdL]at h;subst h;simpa using h'
 | x::l,m,cs,ds,h,h'=>by
  simp only[RdL]at h
  obtain ⟨v,r,rfl,h1,h⟩:=h
  simp only[List.cons_append,RdL]
  exact⟨v,_,E,h1,h.append h'⟩
theorem RdL.get {κ:Ka} {w:World}:∀ {n:Nat} {l:List SV} {cs:List Value} {x:SV},RdL κ w l cs→Ei l n=some x→∃ v,cs[n]? = some v∧Rd κ w x v
 | n,[],cs,x,h,hg=>by cases n<;>simp[Ei]at hg
 | 0,y::l,cs,x,h,hg=>by
  simp only[RdL]at h
  obtain ⟨v,r,rfl,h1,h⟩:=h
  simp only[Ei,Option.some.injEq]at hg
  subst hg
  exact⟨v,by simp,h1⟩
 | n+1,y::l,cs,x,h,hg=>by
  simp only[RdL]at h
  obtain ⟨v,r,rfl,h1,h⟩:=h
  obtain ⟨u,h2,h3⟩:=h.get (n:=n) hg
  exact⟨u,by simpa using h2,h3⟩
theorem Ones.drop {cs:List Value} (h:Ones cs) (n:Nat):Ones (cs.drop n):=fun c hc=>h c (List.mem_of_mem_drop hc)
theorem Ones.take {cs:List Value} (h:Ones cs) (n:Nat):Ones (cs.take n):=fun c hc=>h c (List.mem_of_mem_take hc)
theorem Ones.append {cs ds:List Value} (h:Ones cs) (h':Ones ds):Ones (cs++ds):=fun c hc=>by
 rcases List.mem_append.1 hc with hc | hc
 ·exact h c hc
 ·exact h' c hc
theorem Anb {P:Program} (Γ:Ty P) {t:TypeId} {i:TI} (ht:Γ.get t=some i) (w:World) (hk:i.k matches .bool | .int _ | .string | .slice .. | .struct _ | .array .. | .ptr | .iface | .func) :
  (isAgg t).run P w=.ok i.agg w:=by
 obtain ⟨d,info,z,k1,k2,k3,k4,k5,k6⟩:=Γ.ok t i ht
 obtain ⟨k,n,zz⟩:=i
 cases k<;>simp only[TK.ok]at k2<;>first
  | (subst k2;simp[isAgg,run_underlying k1,TI.agg];done)
  | (obtain ⟨a,rfl,_⟩:=k2;simp[isAgg,run_underlying k1,TI.agg];done)
  | (obtain ⟨rfl,_⟩:=k2;simp[isAgg,run_underlying k1,TI.agg];done)
  | (obtain ⟨a,rfl⟩:=k2;simp[isAgg,run_underlying k1,TI.agg];done)
  | (obtain ⟨a,b,c,rfl⟩:=k2;simp[isAgg,run_underlying k1,TI.agg];done)
  | simp at hk
theorem TK.plain {P:Program} {d:TypeDesc}:∀ {k:TK},TK.ok P d k→(k matches .bool | .int _ | .string | .slice .. | .struct _ | .array .. | .ptr | .iface | .func)
 | .bool,_=>rfl | .int _,_=>rfl | .string,_=>rfl | .slice ..,_=>rfl | .struct _,_=>rfl | .array ..,_=>rfl | .ptr,_=>rfl | .iface,_=>rfl | .func,_=>rfl
 | .other,h=>by simp[TK.ok]at h
theorem Aff {P:Program} (Γ:Ty P) {κ:Ka} {w:World} {t:TypeId} {i:TI} (ht:Γ.get t=some i) {b o off:Nat} {l:List SV} (hc:Ve κ w b o l) :
  (i.agg=true→off+i.size≤l.length→∃ v,(loadVar t ⟨b,o+off,none⟩).run P w=.ok v w∧Rd κ w (.agg ((l.drop off).take i.size)) v) ∧
  (i.agg=false→∀ x,Ei l off=some x→∃ v,(loadVar t ⟨b,o+off,none⟩).run P w=.ok v w∧Rd κ w x v):=by
 obtain ⟨cs,h1,h2,h3⟩:=hc
 obtain ⟨d,info,z,k1,k2,k3,k4,k5,k6⟩:=Γ.ok t i ht
 have hia:=Anb Γ ht w (TK.plain k2)
 constructor
 ·intro ha hl
  have hlen:=h1.length
  have hload:=run_loadCells_list (P:=P) w ⟨b,o+off,none⟩ ((cs.drop off).take i.size) (fun j v hj=>by
   rw[List.getElem?_take]at hj
   split at hj
   ·rw[List.getElem?_drop]at hj
    have hlt:off+j<cs.length:=by
     rcases Nat.lt_or_ge (off+j) cs.length with h | h
     ·exact h
     ·rw[List.getElem?_eq_none h]at hj;cases hj
    rw[Addr.add_lit,Nat.add_assoc,h3 _ hlt];exact hj
   ·cases hj)
  have hn:((cs.drop off).take i.size).length=i.size:=by simp;omega
  rw[hn]at hload
  refine⟨.agg ((cs.drop off).take i.size).toArray,?_,?_⟩
  ·simp[loadVar,hia,ha,sizeOf,typeInfo,k3,k4,hload]
  ·simp only[Rd]
   exact⟨_,E,(h2.drop off).take _,(h1.drop off).take _⟩
 ·intro ha x hx
  obtain ⟨v,h4,h5⟩:=h1.get hx
  have hlt:off<cs.length:=by
   rcases Nat.lt_or_ge off cs.length with h | h
   ·exact h
   ·rw[List.getElem?_eq_none h]at h4;cases h4
  exact⟨v,by simp[loadVar,hia,ha,h3 off hlt,h4],h5⟩
def Jz (i:TI) (l:List SV) (off:Nat):Option SV :=
 match i.agg with
 | true=>bif Nat.ble (off+i.size) l.length then some (.agg ((l.drop off).take i.size)) else none
 | false=>Ei l off
theorem Jp {P:Program} (Γ:Ty P) {κ:Ka} {w:World} {t:TypeId} {i:TI} (ht:Γ.get t=some i) {b o off:Nat} {l:List SV} (hc:Ve κ w b o l) {x:SV} (hx:Jz i l off=some x) :
  ∃ v,(loadVar t ⟨b,o+off,none⟩).run P w=.ok v w∧Rd κ w x v:=by
 obtain ⟨h1,h2⟩:=Aff (off:=off) Γ ht hc
 unfold Jz at hx
 cases ha:i.agg with
 | false=>rw[ha]at hx;exact h2 ha x hx
 | true =>
  rw[ha]at hx
  simp only[Bool.cond_eq_ite]at hx
  split at hx
  ·rename_i hb
   simp only[Option.some.injEq]at hx
   subst hx
   exact h1 ha (Nat.le_of_ble_eq_true hb)
  ·cases hx
theorem ObOK.cellsAt {κ:Ka} {w:World} {k:Nat} {l:List SV} (h:ObOK κ w k (.box l)):∃ b,κ k=.blk b∧Ve κ w b 0 l:=by
 obtain ⟨b,cs,T,fr,h1,h2,h3,h4,h5⟩:=h
 refine⟨b,h1,cs,h5,h4,fun j hj=>?_⟩
 rw[Nat.zero_add,cell_of_row w b j cs.toArray T fr h2]
 simp
theorem RdD.toRd {κ:Ka} {w:World} {x:SV} {v:Value} (h:RdD (Own κ) w x v):Rd κ w x v:=Rd.of_data x v h
theorem LaidAt.cellsAt {κ:Ka} {w:World} {b o sz:Nat} {x:SV} {u:Value} (h:LaidAt w b o sz u) (hr:Rd κ w x u) (hb:x.boxed=true):Ve κ w b o (cellsOf x):=by
 obtain ⟨h1,h2,h3⟩:=h
 refine⟨u.cells.toList,(hr.cells hb).2,h2,fun j hj=>?_⟩
 rw[h3 j (by simpa [h1] using hj)]
 simp
theorem Aa8 {P:Program} (Γ:Ty P) {o:Oper} {s:SS} {t:TypeId} {i:TI} {x:Operand} {k off:Nat} {l:List SV} {y:SV} (h:o.op=.load t x) (hx:ev s x=.ptr k off)
  (ht:Γ.get t=some i) (hk:s.h k=.box l) (hy:Jz i l off=some y):Good P o s ⟨y,[k],[]⟩ :=
 Good.pure fun κ a w _ hr ho=>by
  have h1:=hr x (by simp[h,Op.operands])
  have h2:=ho k y_
  rw[hk]at h2
  obtain ⟨b,h3,h4⟩:=h2.cellsAt
  rw[hx]at h1
  simp only[Rd,h3]at h1
  obtain ⟨v,h5,h6⟩:=Jp Γ ht h4 hy
  rw[Nat.zero_add]at h5
  exact⟨v,by simp[execOp,h,h1,Instr.loadAt,Instr.sureAddr,h5],h6⟩
theorem Aa7 {P:Program} (Γ:Ty P) {o:Oper} {s:SS} {t:TypeId} {i:TI} {x:Operand} {sz off:Nat} {z y:SV} (h:o.op=.load t x) (hx:ev s x=.ref sz z off)
  (ht:Γ.get t=some i) (hz:z.boxed=true) (hy:Jz i (cellsOf z) off=some y):Good P o s ⟨y,[],[]⟩ :=
 Good.pure fun κ a w _ hr _=>by
  have h1:=hr x (by simp[h,Op.operands])
  rw[hx]at h1
  simp only[Rd,RdD]at h1
  obtain ⟨b,oo,u,h2,h3,h4,h5,h6⟩:=h1
  obtain ⟨v,h7,h8⟩:=Jp Γ ht (h6.cellsAt h5.toRd hz) hy
  exact⟨v,by simp[execOp,h,h2,Instr.loadAt,Instr.sureAddr,h7],h8⟩
theorem RowAt.cellsAt {κ:Ka} {w:World} {k sz n:Nat} {f:Nat→SV→Prop} (h:RowAt κ w k sz n f) {i:Nat} {x:SV} (hx:f i x) (hb:x.boxed=true) :
  ∃ b cap,κ k=.row b n cap∧Ve κ w b (i * sz) (cellsOf x):=by
 obtain ⟨b,cap,cs,T,fr,h1,h2,h3,h4,h5,h6⟩:=h
 obtain ⟨h0,u,h7,h8,h9,h10⟩:=h6 i x hx
 refine⟨b,cap,h1,u.cells.toList,(h7.toRd.cells hb).2,h9,fun j hj=>?_⟩
 rw[cell_of_row w b _ cs.toArray T fr h2,List.getElem?_toArray,h10 j (by simpa [h8] using hj)]
 simp
theorem Sc {P:Program} (Γ:Ty P) {o:Oper} {s:SS} {t:TypeId} {ti:TI} {x:Operand} {k sz i off n:Nat} {f:Nat→SV→Prop} {z y:SV} (h:o.op=.load t x) (hx:ev s x=.rpt k sz i off)
  (ht:Γ.get t=some ti) (hk:∀ κ w,ObOK κ w k (s.h k)→RowAt κ w k sz n f) (hf:f i z) (hz:z.boxed=true) (hy:Jz ti (cellsOf z) off=some y):Good P o s ⟨y,[k],[]⟩ :=
 Good.pure fun κ a w _ hr ho=>by
  have h1:=hr x (by simp[h,Op.operands])
  have h2:=hk κ w (ho k y_)
  obtain ⟨b,cap,h3,h4⟩:=h2.cellsAt hf hz
  rw[hx]at h1
  simp only[Rd,h3]at h1
  obtain ⟨v,h5,h6⟩:=Jp Γ ht h4 hy
  exact⟨v,by simp[execOp,h,h1,Instr.loadAt,Instr.sureAddr,h5],h6⟩
theorem ObOK.rowAt {κ:Ka} {w:World} {k sz:Nat} {α:Type} {e:α→SV} {l:List α} (h:ObOK κ w k (.row sz e l)) (hl:l≠[]):RowAt κ w k sz l.length (rowF e l) :=
 h.resolve_left (fun h=>hl h.2)
def setAt {α:Type 1}:List α→Nat→List α→List α
 | l,_,[]=>l
 | [],_,_=>[]
 | _::l,0,v::vs=>v::setAt l 0 vs
 | x::l,n+1,v::vs=>x::setAt l n (v::vs)
def setV:List Value→Nat→List Value→List Value
 | l,_,[]=>l
 | [],_,_=>[]
 | _::l,0,v::vs=>v::setV l 0 vs
 | x::l,n+1,v::vs=>x::setV l n (v::vs)
theorem Kf:∀ (vs l:List Value) (n:Nat),n+vs.length≤l.length→setV l n vs=l.take n++vs++l.drop (n+vs.length)
 | [],l,n,_=>by cases l<;>simp[setV]
 | v::vs,[],n,h=>by simp at h
 | v::vs,x::l,0,h=>by
  have:=Kf vs l 0 (by simp at h ⊢;omega)
  simp only[setV,this]
  simp[Nat.add_comm]
 | v::vs,x::l,n+1,h=>by
  have:=Kf (v::vs) l n (by simp at h ⊢;omega)
  simp only[setV,this]
  simp[Nat.add_assoc,Nat.add_comm 1]
  rw[show n+(vs.length+2)=(n+(vs.length+1))+1 from by omega,List.drop_succ_cons]
theorem RdL.setAt {κ:Ka} {w:World}:∀ {ys l:List SV} {vs cs:List Value} (n:Nat),RdL κ w l cs→RdL κ w ys vs→RdL κ w (setAt l n ys) (setV cs n vs)
 | [],l,vs,cs,n,h,h'=>by
  simp only[RdL]at h'
  subst h'
  cases l<;>cases cs<;>simpa [Sy.setAt,setV] using h
 | y::ys,[],vs,cs,n,h,h'=>by
  simp only[RdL]at h h'
  obtain ⟨v,r,rfl,_,_⟩:=h'
  subst h
  simp[Sy.setAt,setV,RdL]
 | y::ys,x::l,vs,cs,0,h,h'=>by
  simp only[RdL]at h h'
  obtain ⟨v,r,rfl,h1,h2⟩:=h'
  obtain ⟨u,q,rfl,h3,h4⟩:=h
  simp only[Sy.setAt,setV,RdL]
  exact⟨v,_,E,h1,RdL.setAt 0 h4 h2⟩
 | y::ys,x::l,vs,cs,n+1,h,h'=>by
  have h'':=h'
  simp only[RdL]at h h'
  obtain ⟨v,r,rfl,h1,h2⟩:=h'
  obtain ⟨u,q,rfl,h3,h4⟩:=h
  simp only[Sy.setAt,setV,RdL]
  exact⟨u,_,E,h3,RdL.setAt n h4 h''⟩
theorem Ones.setV:∀ {vs cs:List Value} (n:Nat),Ones cs→Ones vs→Ones (setV cs n vs)
 | [],cs,n,h,_=>by cases cs<;>simpa [Sy.setV] using h
 | v::vs,[],n,h,h'=>by simpa [Sy.setV] using h
 | v::vs,x::l,0,h,h'=>by
  intro c hc
  simp only[Sy.setV,List.mem_cons]at hc
  rcases hc with rfl | hc
  ·exact h' _ y_
  ·exact Ones.setV 0 (fun c hc=>h c (by simp[hc])) (fun c hc=>h' c (by simp[hc])) c hc
 | v::vs,x::l,n+1,h,h'=>by
  intro c hc
  simp only[Sy.setV,List.mem_cons]at hc
  rcases hc with rfl | hc
  ·exact h _ y_
  ·exact Ones.setV n (fun c hc=>h c (by simp[hc])) h' c hc
theorem Bw:∀ (vs cs:List Value) (n:Nat),(setV cs n vs).length=cs.length
 | [],cs,n=>by cases cs<;>simp[setV]
 | v::vs,[],n=>by simp[setV]
 | v::vs,x::l,0=>by simp[setV,Bw vs l 0]
 | v::vs,x::l,n+1=>by simp[setV,Bw (v::vs) l n]
theorem Ck (P:Program) (g o:Nat) (t:TypeId) (fz:Nat × Nat):∀ (vs:List Value) (i:Nat) (cur:List Value) (w:World),w.heap[g]? = some (.cells cur.toArray t fz)→NoFr fz cur.length →
  o+i+vs.length≤cur.length→Ones vs →
  ∃ w',(storeCells ⟨g,o,none⟩ vs i).run P w=.ok () w'∧w'.heap[g]? = some (.cells (setV cur (o+i) vs).toArray t fz)∧w'.os=w.os∧w'.tape=w.tape∧w'.output=w.output∧w'.heap.size=w.heap.size∧∀ j,j≠g→w'.heap[j]? = w.heap[j]?
 | [],i,cur,w,hg,_,_,_=>⟨w,by simp[storeCells],by cases cur<;>simpa [setV] using hg,rfl,rfl,rfl,rfl,fun _ _=>rfl⟩
 | v::rest,i,cur,w,hg,hfz,hl,h1=>by
  have hi:o+i<cur.length:=by simp at hl;omega
  have hadd:(⟨g,o,none⟩:Addr).add i=⟨g,o+i,none⟩:=by unfold Addr.add;split<;>simp_all
  have hcell:w.cell? ⟨g,o+i,none⟩=some cur[o+i]:=by simp[World.cell?,hg,hi]
  have hfro:w.frozen? ⟨g,o+i,none⟩=false:=by
   obtain ⟨lo,hi'⟩:=fz
   simp only[World.frozen?,hg]
   rcases hfz with h | h
   ·simp only at h;subst h;simp
   ·simp only at h;simp;omega
  have hst:(store ((⟨g,o,none⟩:Addr).add i) v).run P w=.ok () (w.setCell ⟨g,o+i,none⟩ v):=by
   rw[hadd,run_store P w _ v _ (h1 v y_),hcell]
   simp[hfro]
  have hheap:(w.setCell ⟨g,o+i,none⟩ v).heap[g]? = some (.cells (cur.set (o+i) v).toArray t fz):=by
   simp only[World.setCell,Array.getElem?_modify,if_true,hg,Option.map_some]
   simp
  obtain ⟨w',e1,e2,e3,e4,e5,e6,e7⟩:=Ck P g o t fz rest (i+1) (cur.set (o+i) v) (w.setCell ⟨g,o+i,none⟩ v) hheap (by simpa using hfz) (by simp at hl ⊢;omega) (fun x hx=>h1 x (by simp[hx]))
  refine⟨w',?_,?_,e3,e4,e5,by simpa using e6,fun j hj=>(e7 j hj).trans (RowKit.Below.heap_setCell _ _ _ _ hj)⟩
  ·simp only[storeCells,Sem.run_bind,hst,Result.andThen_ok,e1]
  ·rw[e2]
   congr 3
   rw[Kf rest _ _ (by simp at hl ⊢;omega),Kf (v::rest) cur _ (by simp at hl ⊢;omega)]
   have:=list_seg_step cur (o+i) v rest (by simp at hl ⊢;omega)
   simpa [Nat.add_assoc] using this
theorem Tn {P:Program} {w:World} {t:TypeId} {info:TypeInfo} (hi:P.info? t=some info) {v:Value} {b o:Nat} {T:TypeId} {fz:Nat × Nat} {cur:List Value} (hg:w.heap[b]? = some (.cells cur.toArray T fz))
  (hfz:NoFr fz cur.length) (hn:v.cells.size=info.size) (hl:o+v.cells.size≤cur.length) (h1:Ones v.cells.toList) :
  ∃ w',(storeVar t ⟨b,o,none⟩ v).run P w=.ok () w'∧w'.heap[b]? = some (.cells (setV cur o v.cells.toList).toArray T fz)∧w'.os=w.os∧w'.tape=w.tape∧w'.output=w.output∧w'.heap.size=w.heap.size∧∀ j,j≠b→w'.heap[j]? = w.heap[j]?:=by
 obtain ⟨w',e1,e2,e3⟩:=Ck P b o T fz v.cells.toList 0 cur w hg hfz (by simpa using hl) h1
 refine⟨w',?_,by simpa using e2,e3⟩
 simp[storeVar,sizeOf,typeInfo,hi,hn,e1]
mutual
def SV.data:SV→Bool
 | .top=>true
 | .val _=>true
 | .agg l=>Lm l
 | .tup l=>Lm l
 | .sl _ _ _=>true
 | .ref _ _ _=>true
 | .ifc _ x=>x.data
 | .clo _ f l=>Lm f && Lm l
 | _=>false
def Lm:List SV→Bool
 | []=>true
 | x::l=>x.data && Lm l
end
mutual
theorem Rd.data {κ:Ka} {w:World}:∀ (x:SV) (v:Value),x.data=true→Rd κ w x v→RdD (Own κ) w x v
 | .top,_,_,_=>by simp[RdD]
 | .val u,v,_,h=>by simpa [RdD,Rd] using h
 | .agg l,v,hd,h=>by
  simp only[RdD,Rd,SV.data]at h hd ⊢
  obtain ⟨cs,h1,h0,h2⟩:=h
  exact⟨cs,h1,h0,RdL.data l cs hd h2⟩
 | .tup l,v,hd,h=>by
  simp only[RdD,Rd,SV.data]at h hd ⊢
  obtain ⟨cs,h1,h2⟩:=h
  exact⟨cs,h1,RdL.data l cs hd h2⟩
 | .sl sz e l,v,_,h=>by simpa only [Rd] using h
 | .ref sz x off,v,_,h=>by simpa only [Rd] using h
 | .ptr _ _,_,hd,_=>by simp[SV.data]at hd
 | .rpt _ _ _ _,_,hd,_=>by simp[SV.data]at hd
 | .osl _,_,hd,_=>by simp[SV.data]at hd
 | .ifc t x,v,hd,h=>by
  simp only[RdD,Rd,SV.data]at h hd ⊢
  obtain ⟨u,h1,h2⟩:=h
  exact⟨u,h1,Rd.data x u hd h2⟩
 | .clo fn first cap,v,hd,h=>by
  simp only[RdD,Rd,SV.data,Bool.and_eq_true]at h hd ⊢
  obtain ⟨fs,cs,h1,h2,h3⟩:=h
  exact⟨fs,cs,h1,RdL.data first fs hd.1 h2,RdL.data cap cs hd.2 h3⟩
theorem RdL.data {κ:Ka} {w:World}:∀ (l:List SV) (vs:List Value),Lm l=true→RdL κ w l vs→RdDL (Own κ) w l vs
 | [],_,_,h=>by simpa [RdDL,RdL] using h
 | x::l,vs,hd,h=>by
  simp only[RdDL,RdL,Lm,Bool.and_eq_true]at h hd ⊢
  obtain ⟨v,r,h1,h2,h3⟩:=h
  exact⟨v,r,h1,Rd.data x v hd.1 h2,RdL.data l r hd.2 h3⟩
end
theorem Rd.of_cells {κ:Ka} {w:World} {x:SV} {cs:List Value} (hb:x.boxed=true) (h1:Ones cs) (h:RdL κ w (cellsOf x) cs):∃ u:Value,Rd κ w x u∧u.cells.toList=cs:=by
 have plain:RdL κ w [x] cs→∃ u:Value,Rd κ w x u∧u.cells.toList=cs:=fun h=>by
  simp only[RdL]at h
  obtain ⟨v,r,rfl,h2,rfl⟩:=h
  exact⟨v,h2,by rw[Value.cells_one (h1 v y_)]⟩
 cases x with
 | agg l=>exact⟨.agg cs.toArray,by simp only[Rd];exact⟨cs,rfl,h1,h⟩,by simp[Value.cells]⟩
 | _=>exact plain h
theorem Jn (l vs:List Value) (n j:Nat) (h:n+vs.length≤l.length):(setV l n vs)[j]? = if n≤j∧j<n+vs.length then vs[j-n]? else l[j]?:=by
 rw[Kf vs l n h]
 by_cases h1:j<n
 ·rw[if_neg q_,List.append_assoc,List.getElem?_append_left (by simp;omega),List.getElem?_take,if_pos h1]
 ·by_cases h2:j<n+vs.length
  ·rw[if_pos q_,List.getElem?_append_left (by simp;omega),List.getElem?_append_right (by simp;omega)]
   congr 1
   simp;omega
  ·rw[if_neg q_,List.getElem?_append_right (by simp;omega),List.getElem?_drop]
   congr 1
   simp;omega
theorem Oq {P:Program} (Γ:Ty P) {o:Oper} {s:SS} {t:TypeId} {i:TI} {x y:Operand} {k off:Nat} {l:List SV} (h:o.op=.store t x y) (hx:ev s x=.ptr k off)
  (ht:Γ.get t=some i) (hk:s.h k=.box l) (hb:(ev s y).boxed=true) (hn:(cellsOf (ev s y)).length=i.size) (hl:off+i.size≤l.length) :
  Good P o s ⟨.val undef,[],[(k,.box (setAt l off (cellsOf (ev s y))))]⟩:=by
 intro κ a w hi hr ho N Q hN
 have h1:=hr x (by simp[h,Op.operands])
 have h2:=hr y (by simp[h,Op.operands])
 have h3:=ho k (.inr (by simp[Up.ws]))
 rw[hk]at h3
 obtain ⟨b,cs,T,fr,e1,e2,e3,e4,e5⟩:=h3
 rw[hx]at h1
 simp only[Rd,e1]at h1
 obtain ⟨h4,h5⟩:=h2.cells hb
 obtain ⟨d,info,z,k1,k2,k3,k4,k5,k6⟩:=Γ.ok t i ht
 have hsz:(a.eval y).cells.size=i.size:=by rw[← hn,← h5.length];simp
 obtain ⟨w',f1,f2,f3,f4,f5,f6,f7⟩:=Tn (P:=P) (t:=t) k3 (v:=a.eval y) (o:=off) e2 e3 (by rw[hsz,k4]) (by rw[hsz,e5.length];exact hl) h4
 obtain ⟨st,inv⟩:=Ls hi (k:=k) (b:=b) (by rw[e1];rfl) f3 f4 f5 f6 f7
 have hrun:(execOp a.eval o).run P w=.ok .skip w':=by simp[execOp,h,h1,Instr.storeAt,Instr.sureAddr,f1]
 simp only[Oper.wp,hrun,Oper.upon]
 refine hN undef κ w' (st.weaken (by simp[Up.ws])) inv (by simp[Rd]) (fun p hp=>?_)
 simp only[List.mem_singleton]at hp
 subst hp
 refine⟨b,_,T,fr,e1,f2,by rw[Bw];exact e3,e4.setV _ h4,(RdL.step st _ _ e5).setAt _ (RdL.step st _ _ h5)⟩
theorem RowAt.write {κ:Ka} {w:World} {k sz n:Nat} {f:Nat→SV→Prop} (h:RowAt κ w k sz n f) (hi:Inv κ w) {i off:Nat} {x z:SV} {vs:List Value} (hx:f i x) (hxb:x.boxed=true)
  {ys:List SV} (hys:RdL κ w ys vs) (h1:Ones vs) (hoff:off+ys.length≤sz) (hz:cellsOf z=setAt (cellsOf x) off ys) (hzb:z.boxed=true) (hzd:z.data=true) {P:Program} {t:TypeId} {info:TypeInfo} (ht:P.info? t=some info) (hinfo:info.size=vs.length)
  {v:Value} (hv:v.cells.toList=vs) :
  ∃ b cap w',κ k=.row b n cap∧(storeVar t ⟨b,i * sz+off,none⟩ v).run P w=.ok () w'∧Step (·=k) κ w κ w'∧Inv κ w' ∧
   RowAt κ w' k sz n (fun j y=>(j≠i∧f j y)∨(j=i∧y=z)):=by
 obtain ⟨b,cap,cs,T,fr,e1,e2,e3,e4,e5,e6⟩:=h
 obtain ⟨h0,u,g1,g2,g3,g4⟩:=e6 i x hx
 have hlen:=hys.length
 have hin:i * sz+sz≤cap * sz:=by
  have:(i+1) * sz≤cap * sz:=Nat.mul_le_mul_right sz q_
  rw[Nat.add_mul,Nat.one_mul]at this
  exact this
 have hvs:v.cells.size=vs.length:=by rw[← hv];simp
 obtain ⟨w',f1,f2,f3,f4,f5,f6,f7⟩:=Tn (P:=P) (t:=t) ht (v:=v) (o:=i * sz+off) e2 e3 (by rw[hvs,hinfo]) (by rw[hvs];omega) (by rw[hv];exact h1)
 rw[hv]at f2
 obtain ⟨st,inv⟩:=Ls hi (k:=k) (b:=b) (by rw[e1];rfl) f3 f4 f5 f6 f7
 refine⟨b,cap,w',e1,f1,st,inv,b,cap,_,T,fr,e1,f2,by rw[Bw];exact e3,by rw[Bw];exact e4,e5,?_⟩
 have hset:=Jn cs vs (i * sz+off)
 rintro j y (⟨hj,hy⟩ | ⟨rfl,rfl⟩)
 ·obtain ⟨q0,q,q1,q2,q3,q4⟩:=e6 j y hy
  refine⟨q0,q,RdD.keep st.keeps _ _ q1,q2,q3,fun m hm=>?_⟩
  rw[hset _ q_,if_neg,q4 m hm]
  rintro ⟨a1,a2⟩
  rcases Nat.lt_or_gt_of_ne hj with hlt | hgt
  ·have:(j+1) * sz≤i * sz:=Nat.mul_le_mul_right sz q_
   rw[Nat.add_mul,Nat.one_mul]at this
   omega
  ·have:(i+1) * sz≤j * sz:=Nat.mul_le_mul_right sz q_
   rw[Nat.add_mul,Nat.one_mul]at this
   omega
 ·obtain ⟨c1,c2⟩:=g1.toRd.cells hxb
  have c3:RdL κ w (cellsOf y) (setV u.cells.toList off vs):=by rw[hz];exact c2.setAt _ hys
  have c4:=c1.setV (vs:=vs) off h1
  obtain ⟨u',d1,d2⟩:=Rd.of_cells hzb c4 c3
  have d3:u'.cells.size=sz:=by
   have:u'.cells.toList.length=(setV u.cells.toList off vs).length:=by rw[d2]
   rw[Bw]at this
   simpa [g2] using this
  refine⟨h0,u',RdD.keep st.keeps _ _ (Rd.data _ _ hzd d1),d3,by rw[d2];exact c4,fun m hm=>?_⟩
  rw[hset _ q_,← Array.getElem?_toList,d2,Jn _ _ _ _ (by simp[g2];omega)]
  by_cases hm2:off≤m∧m<off+vs.length
  ·rw[if_pos q_,if_pos hm2]
   congr 1
   omega
  ·rw[if_neg q_,if_neg hm2,g4 m hm]
   simp
theorem Oo {P:Program} (Γ:Ty P) {o:Oper} {s:SS} {t:TypeId} {ti:TI} {x y:Operand} {k sz i off:Nat} {α:Type} {e:α→SV} {l:List α} (h:o.op=.store t x y) (hx:ev s x=.rpt k sz i off)
  (ht:Γ.get t=some ti) (hk:s.h k=.row sz e l) (hb:(ev s y).boxed=true) (hn:(cellsOf (ev s y)).length=ti.size) (hoff:off+ti.size≤sz)
  (hi:i<l.length) {z:α} (hz:cellsOf (e z)=setAt (cellsOf (e l[i])) off (cellsOf (ev s y))) (hxb:(e l[i]).boxed=true) (hzb:(e z).boxed=true) (hzd:(e z).data=true) :
  Good P o s ⟨.val undef,[],[(k,.row sz e (l.set i z))]⟩:=by
 intro κ a w hinv hr ho N Q hN
 have h1:=hr x (by simp[h,Op.operands])
 have h2:=hr y (by simp[h,Op.operands])
 have h3:=ho k (.inr (by simp[Up.ws]))
 rw[hk]at h3
 have hne:l≠[]:=by intro he;subst he;simp at hi
 have h4:=h3.rowAt hne
 obtain ⟨c1,c2⟩:=h2.cells hb
 obtain ⟨d,info,zz,k1,k2,k3,k4,k5,k6⟩:=Γ.ok t ti ht
 obtain ⟨b,cap,w',f1,f2,f3,f4,f5⟩:=h4.write hinv (i:=i) (off:=off) (z:=e z) ⟨hi,rfl⟩ hxb c2 c1 (by rw[hn];exact hoff) hz hzb hzd (P:=P) (t:=t) k3 (by rw[k4,← hn,← c2.length]) rfl
 rw[hx]at h1
 simp only[Rd,f1]at h1
 have hrun:(execOp a.eval o).run P w=.ok .skip w':=by simp[execOp,h,h1,Instr.storeAt,Instr.sureAddr,f2]
 simp only[Oper.wp,hrun,Oper.upon]
 refine hN undef κ w' (f3.weaken (by simp[Up.ws])) f4 (by simp[Rd]) (fun p hp=>?_)
 simp only[List.mem_singleton]at hp
 subst hp
 refine .inr ?_
 obtain ⟨b,cap,cs,T,fr,q1,q2,q3,q4,q5,q6⟩:=f5
 refine⟨b,cap,cs,T,fr,by simpa using q1,q2,q3,q4,by simpa using q5,fun j v hv=>?_⟩
 obtain ⟨hj,rfl⟩:=hv
 have hj':j<l.length:=by simpa using hj
 have:=q6 j (e (l.set i z)[j]) (by
  by_cases hji:j=i
  ·subst hji;right;simp
  ·left;refine⟨hji,hj',?_⟩;rw[List.getElem_set_ne q_])
 simpa using this
def Src (κ:Ka) (w:World) (v:Value) (m sz:Nat) (f:Nat→SV→Prop):Prop :=
 (m=0∧(∀ i x,¬ f i x)∧∃ a cap,v=.slice a 0 cap) ∨
 ∃ b o cap news,v=.slice (some ⟨b,o,none⟩) m cap∧news.length=m * sz∧Ones news∧(∀ j u,news[j]? = some u→w.cell? ⟨b,o+j,none⟩=some u) ∧
  ∀ i x,f i x→i<m∧∃ u:Value,RdD (Own κ) w x u∧u.cells.size=sz∧Ones u.cells.toList∧∀ j,j<sz→news[i * sz+j]? = u.cells[j]?
theorem Q3 {cs:List Value} {n sz:Nat} (hl:n * sz≤cs.length) (h:∀ i,i<n→∃ u:Value,u.cells.size=sz∧Ones u.cells.toList∧∀ j,j<sz→cs[i * sz+j]? = u.cells[j]?):Ones (cs.take (n * sz)):=by
 intro c hc
 obtain ⟨j,hj,rfl⟩:=List.mem_iff_getElem.1 hc
 have hj':j<n * sz:=by simp at hj;omega
 have hsz:0<sz:=by
  rcases Nat.eq_zero_or_pos sz with h0 | h0
  ·subst h0;simp at hj'
  ·exact h0
 have hi:j / sz<n:=(Nat.div_lt_iff_lt_mul hsz).2 hj'
 obtain ⟨u,h1,h2,h3⟩:=h (j / sz) hi
 have h4:=h3 (j % sz) (Nat.mod_lt _ hsz)
 rw[Nat.div_add_mod' j sz]at h4
 rw[List.getElem?_eq_getElem q_]at h4
 have h5:j % sz<u.cells.toList.length:=by simp[h1];exact Nat.mod_lt _ hsz
 rw[← Array.getElem?_toList,List.getElem?_eq_getElem h5]at h4
 simp only[Option.some.injEq]at h4
 rw[List.getElem_take,h4]
 exact h2 _ (List.getElem_mem h5)
theorem RowAt.src {κ:Ka} {w:World} {k sz n:Nat} {f:Nat→SV→Prop} (h:RowAt κ w k sz n f) (tot:∀ i,i<n→∃ x,f i x):∃ b cap,κ k=.row b n cap∧Src κ w (.slice (some ⟨b,0,none⟩) n cap) n sz f:=by
 obtain ⟨b,cap,cs,T,fr,e1,e2,e3,e4,e5,e6⟩:=h
 have hle:n * sz≤cs.length:=Nat.le_trans (Nat.mul_le_mul_right sz e5) e4
 refine⟨b,cap,e1,.inr ⟨b,0,cap,cs.take (n * sz),E,by simp;omega,?_,?_,?_⟩⟩
 ·exact Q3 hle (fun i hi=>by
   obtain ⟨x,hx⟩:=tot i hi
   obtain ⟨_,u,_,h2⟩:=e6 i x hx
   exact⟨u,h2⟩)
 ·intro j u hj
  rw[List.getElem?_take]at hj
  split at hj
  ·rw[Nat.zero_add,cell_of_row w b _ cs.toArray T fr e2];simpa using hj
  ·cases hj
 ·intro i x hx
  obtain ⟨h0,u,h1,h2,h3,h4⟩:=e6 i x hx
  refine⟨h0,u,h1,h2,h3,fun j hj=>?_⟩
  have:(i+1) * sz≤n * sz:=Nat.mul_le_mul_right sz q_
  rw[Nat.add_mul,Nat.one_mul]at this
  rw[List.getElem?_take,if_pos q_,h4 j hj]
theorem Rd.src {κ:Ka} {w:World} {sz:Nat} {α:Type} {e:α→SV} {l:List α} {v:Value} (h:Rd κ w (.sl sz e l) v):Src κ w v l.length sz (rowF e l):=by
 simp only[Rd,RdD]at h
 rcases h with ⟨rfl,a,cap,rfl⟩ | ⟨b,off,cap,rfl,h0,h1,h2,h3⟩
 ·exact .inl ⟨rfl,fun i x hx=>(by obtain ⟨h,_⟩:=hx;simp at h),a,cap,rfl⟩
 ·refine .inr ⟨b,off,cap,(List.range (l.length * sz)).map fun j=>(w.cell? ⟨b,off+j,none⟩).getD undef,E,by simp,?_,?_,?_⟩
  ·have:=Q3 (cs:=(List.range (l.length * sz)).map fun j=>(w.cell? ⟨b,off+j,none⟩).getD undef) (n:=l.length) (sz:=sz) y_ (fun i hi=>by
    obtain ⟨u,h4,h5,h6,h7⟩:=h3 i hi
    refine⟨u,h5,h6,fun j hj=>?_⟩
    have:(i+1) * sz≤l.length * sz:=Nat.mul_le_mul_right sz q_
    rw[Nat.add_mul,Nat.one_mul]at this
    have h8:=h7 j hj
    rw[Nat.add_assoc]at h8
    rw[List.getElem?_map,List.getElem?_range q_]
    simp only[Option.map_some,h8]
    rw[Array.getElem?_eq_getElem q_]
    rfl)
   rw[List.take_of_length_le y_]at this
   exact this
  ·intro j u hj
   rw[List.getElem?_map]at hj
   have hlt:j<l.length * sz:=by
    rcases Nat.lt_or_ge j (l.length * sz) with h | h
    ·exact h
    ·rw[List.getElem?_eq_none (by simpa using h)]at hj;cases hj
   rw[List.getElem?_range hlt]at hj
   simp only[Option.map_some,Option.some.injEq]at hj
   have hsz:0<sz:=by
    rcases Nat.eq_zero_or_pos sz with h0 | h0
    ·subst h0;simp at hlt
    ·exact h0
   have hi:j / sz<l.length:=(Nat.div_lt_iff_lt_mul hsz).2 hlt
   obtain ⟨q,h4,h5,h6,h7⟩:=h3 (j / sz) hi
   have h8:=h7 (j % sz) (Nat.mod_lt _ hsz)
   rw[Nat.add_assoc,Nat.div_add_mod' j sz,Array.getElem?_eq_getElem (by rw[h5];exact Nat.mod_lt _ hsz)]at h8
   rw[h8]at hj ⊢
   simpa using hj
  ·rintro i x ⟨hi,rfl⟩
   obtain ⟨u,h4,h5,h6,h7⟩:=h3 i hi
   refine⟨hi,u,h4,h5,h6,fun j hj=>?_⟩
   have:(i+1) * sz≤l.length * sz:=Nat.mul_le_mul_right sz q_
   rw[Nat.add_mul,Nat.one_mul]at this
   have h8:=h7 j hj
   rw[Nat.add_assoc]at h8
   rw[List.getElem?_map,List.getElem?_range q_]
   simp only[Option.map_some,h8]
   rw[Array.getElem?_eq_getElem q_]
   rfl
def Ao0 (n:Nat) (f g:Nat→SV→Prop) (i:Nat) (x:SV):Prop:=(i<n∧f i x)∨(n≤i∧g (i-n) x)
def Base (κ:Ka) (w:World) (v:Value) (n sz:Nat) (f:Nat→SV→Prop):Option Nat→Prop
 | none=>v=.slice none 0 0∧n=0
 | some k=>(κ k=.nil∧n=0∧v=.slice none 0 0)∨(RowAt κ w k sz n f∧(∀ i,i<n→∃ x,f i x)∧∃ b cap,κ k=.row b n cap∧v=.slice (some ⟨b,0,none⟩) n cap)
def Za (κ:Ka):Option Nat→Ka
 | none=>κ
 | some k=>C4 κ k .dead
theorem Iu {κ:Ka} {w:World} (hi:Inv κ w) (k:Option Nat):Inv (Za κ k) w:=by
 cases k with
 | none=>exact hi
 | some k =>
  have key:∀ j b,((C4 κ k .dead) j).block? = some b→(κ j).block? = some b:=fun j b h=>by
   by_cases hj:j=k
   ·subst hj;rw[Ar]at h;cases h
   ·rwa [Bt κ _ hj]at h
  exact⟨fun i j b h1 h2=>hi.inj i j b (key i b h1) (key j b h2),fun j b h=>hi.bnd j b (key j b h),fun j b h=>hi.apart j b (key j b h),hi.mbnd⟩
theorem Hl {κ:Ka} {w:World} (k:Option Nat):Step (fun j=>k=some j) κ w (Za κ k) w:=by
 cases k with
 | none=>exact Step.refl _ κ w
 | some k =>
  refine⟨Nat.le_refl _,E,E,E,E,fun _ _=>rfl,fun _ _ _=>rfl,fun _ _ _ _=>rfl,fun j hj=>Bt κ _ (fun e=>hj (by rw[e])),fun j hj=>.inr (.inr ?_),?_⟩
  ·simp only[Option.some.injEq]at hj;subst hj;exact Ar _ _ _
  ·rintro b (⟨j,hj⟩ | hj)
   ·left
    by_cases hjk:j=k
    ·subst hjk;simp only[Za]at hj;rw[Ar]at hj;cases hj
    ·simp only[Za]at hj;rw[Bt κ _ hjk]at hj;exact .inl ⟨j,hj⟩
   ·exact .inl (.inr hj)
theorem K5 {κ:Ka} {w w':World} {k d b n n' cap:Nat} (hi:Inv κ w) (hk:κ k=.row b n cap) (hd:κ d=.new) (hos:w'.os=w.os) (ht:w'.tape=w.tape) (ho:w'.output=w.output)
  (hs:w'.heap.size=w.heap.size) (hb:∀ i,i≠b→w'.heap[i]? = w.heap[i]?) :
  Step (fun j=>j=k∨j=d) κ w (C4 (C4 κ k .dead) d (.row b n' cap)) w'∧Inv (C4 (C4 κ k .dead) d (.row b n' cap)) w':=by
 have hkd:k≠d:=fun e=>by subst e;rw[hk]at hd;cases hd
 have hkb:(κ k).block? = some b:=by rw[hk];rfl
 have key:∀ j c,((C4 (C4 κ k .dead) d (.row b n' cap)) j).block? = some c→(j=d∧c=b)∨(j≠d∧j≠k∧(κ j).block? = some c):=by
  intro j c h
  by_cases hj:j=d
  ·subst hj;rw[Ar]at h;exact .inl ⟨rfl,by simpa [Ent.block?] using h.symm⟩
  ·rw[Bt _ _ hj]at h
   by_cases hj2:j=k
   ·subst hj2;rw[Ar]at h;cases h
   ·rw[Bt _ _ hj2]at h;exact .inr ⟨hj,hj2,h⟩
 refine⟨⟨by omega,hos,ht,ho,E,fun c hm=>hb c (fun e=>hi.apart k b hkb (e ▸ hm)),fun c _ hn=>hb c (fun e=>hn (.inl ⟨k,e ▸ hkb⟩)),fun j c hj hjc=>hb c (fun e=>?_),fun j hj=>?_,?_,?_⟩,⟨?_,?_,?_,fun c h=>?_⟩⟩
 ·subst e
  exact hj (.inl (hi.inj j k _ hjc hkb))
 ·rw[Bt _ _ (fun e=>hj (.inr e)),Bt _ _ (fun e=>hj (.inl e))]
 ·rintro j (rfl | rfl)
  ·exact .inr (.inr (by rw[Bt _ _ hkd,Ar]))
  ·exact .inl hd
 ·rintro c (⟨j,hj⟩ | hj)
  ·rcases key j c hj with ⟨_,rfl⟩ | ⟨_,_,h⟩
   ·exact .inl (.inl ⟨k,hkb⟩)
   ·exact .inl (.inl ⟨j,h⟩)
  ·exact .inl (.inr hj)
 ·intro i j c h1 h2
  rcases key i c h1 with ⟨a1,a2⟩ | ⟨a1,a2,a3⟩<;>rcases key j c h2 with ⟨b1,b2⟩ | ⟨b1,b2,b3⟩
  ·exact a1.trans b1.symm
  ·subst a2;exact absurd (hi.inj j k _ b3 hkb) b2
  ·subst b2;exact absurd (hi.inj i k _ a3 hkb) a2
  ·exact hi.inj i j c a3 b3
 ·intro j c h
  rw[hs]
  rcases key j c h with ⟨_,rfl⟩ | ⟨_,_,h⟩
  ·exact hi.bnd k _ hkb
  ·exact hi.bnd j c h
 ·intro j c h
  rcases key j c h with ⟨_,rfl⟩ | ⟨_,_,h⟩
  ·exact hi.apart k _ hkb
  ·exact hi.apart j c h
 ·rw[hs];exact hi.mbnd c h
theorem Q7 (z:Array Value) (n:Nat):(Builtin.zeroCells z n).size=n * z.size:=by simp[Builtin.zeroCells]
theorem Aht {P:Program} {κ:Ka} {w:World} (hi:Inv κ w) {t ty e:TypeId} {i:TypeInfo} {z:Value} {sz:Nat} (ht:P.underlying t=some (.slice e)) (hinfo:P.info? e=some i) (hz:i.zero=some z) (hsz:i.size=sz) (hzs:z.cells.size=sz)
  {v u:Value} {n m:Nat} {f g:Nat→SV→Prop} {k:Option Nat} {d:Nat} (hd:κ d=.new) (hb:Base κ w v n sz f k) (hs:Src κ w u m sz g) (h63:n+m≤9223372036854775807) (hbytes:(n+m) * i.bytes≤140737488355328) :
  ∃ v' w' κ',(Builtin.append_ #[t,t] ty #[v,u]).run P w=.ok v' w'∧Step (fun j=>k=some j∨j=d) κ w κ' w'∧Inv κ' w'∧Rd κ' w' (.osl d) v' ∧
   ((κ' d=.nil∧n+m=0)∨RowAt κ' w' d sz (n+m) (Ao0 n f g)):=by
 obtain ⟨a,c,news,hu,hnl,hn1,hnc,hng⟩:∃ (a:Option Addr) (c:Nat) (news:List Value),u=.slice a m c∧news.length=m * sz∧Ones news∧(∀ W:World,(∀ p:Addr,p.block<w.heap.size→W.cell? p=w.cell? p)→(Builtin.firstCells sz m u).run P W=.ok news.toArray W) ∧
   (∀ j x,g j x→j<m∧∃ q:Value,RdD (Own κ) w x q∧q.cells.size=sz∧Ones q.cells.toList∧∀ l,l<sz→news[j * sz+l]? = q.cells[l]?):=by
  rcases hs with ⟨rfl,hno,a,c,rfl⟩ | ⟨b,o,c,news,rfl,h1,h2,h3,h4⟩
  ·refine⟨a,c,[],E,by simp,by simp[Ones],fun W _=>?_,fun j x h=>absurd h (hno j x)⟩
   cases a<;>simp[Builtin.firstCells,loadCells,loadCellsFrom]
  ·refine⟨some ⟨b,o,none⟩,c,news,E,h1,h2,fun W hW=>?_,fun j x hx=>h4 j x hx⟩
   exact run_firstCells_some (P:=P) W sz m ⟨b,o,none⟩ m c news h1 (fun j q hj=>by
    rw[Addr.add_lit]
    have h5:=h3 j q hj
    rw[hW _ (by exact World.block_lt_of_cell? w _ h5),h5])
 subst hu
 have hcap:∀ old,n+m≤grownCap w (n+m) old e:=fun old=>grownCap_ge w (n+m) old e
 have hfits:∀ old,old<n+m→¬ (281474976710656<Builtin.nextslicecap (n+m) old * i.bytes):=fun old ho=>by have:=growslice_fits ho hbytes;omega
 have newrow:∀ (olds:List Value) (old:Nat) (hol:olds.length=n * sz) (hof:∀ j x,f j x→j<n→∃ q:Value,RdD (Own κ) w x q∧q.cells.size=sz∧Ones q.cells.toList∧∀ l,l<sz→olds[j * sz+l]? = q.cells[l]?),
   let w':=w.drew.alloc (.cells (olds.toArray++news.toArray++Builtin.zeroCells z.cells (grownCap w (n+m) old e-(n+m))) e)
   let κ':=C4 (Za κ k) d (.row w.heap.size (n+m) (grownCap w (n+m) old e))
   Step (fun j=>k=some j∨j=d) κ w κ' w'∧Inv κ' w'∧Rd κ' w' (.osl d) (.slice (some ⟨w.heap.size,0,none⟩) (n+m) (grownCap w (n+m) old e))∧RowAt κ' w' d sz (n+m) (Ao0 n f g):=by
  intro olds old hol hof w' κ'
  have s1:=Hl (κ:=κ) (w:=w) k
  have hdn:(Za κ k) d=.new:=by
   cases k with
   | none=>exact hd
   | some k =>
    by_cases hkd:d=k
    ·exfalso
     subst hkd
     rcases hb with ⟨h,_⟩ | ⟨_,_,b,cap,h,_⟩<;>rw[hd]at h<;>cases h
    ·simp only[Za];rw[Bt _ _ hkd];exact hd
  have g0:Grew w w':=(Grew.drew w).trans (Grew.alloc _ _)
  have s2:=Hu (Iu hi k) hdn (e:=.row w.heap.size (n+m) (grownCap w (n+m) old e)) g0 (fun b hb=>by
   simp only[Ent.block?,Option.some.injEq]at hb;subst hb;exact⟨Nat.le_refl _,by simp[w']⟩)
  have s3:Step (fun j=>k=some j∨j=d) κ w κ' w':=(s1.weaken (fun j hj=>.inl hj)).trans (s2.1.weaken (fun j hj=>.inr hj))
  refine⟨s3,s2.2,by simp[Rd,κ',Ar],?_⟩
  refine⟨w.heap.size,grownCap w (n+m) old e,olds++news++(Builtin.zeroCells z.cells (grownCap w (n+m) old e-(n+m))).toList,e,(0,0),Ar _ _ _,?_,NoFr.zero _,?_,hcap old,?_⟩
  ·have:w'.heap[w.heap.size]? = some (.cells (olds.toArray++news.toArray++Builtin.zeroCells z.cells (grownCap w (n+m) old e-(n+m))) e):=heap_alloc_new w.drew _
   rw[this]
   congr 2
   apply Array.ext'
   simp
  ·simp only[List.length_append,hol,hnl,Array.length_toList,Q7,hzs]
   rw[← Nat.add_mul,← Nat.add_mul]
   have:=hcap old
   rw[show n+m+(grownCap w (n+m) old e-(n+m))=grownCap w (n+m) old e from by omega]
   exact Nat.le_refl _
  ·rintro j x (⟨hj,hx⟩ | ⟨hj,hx⟩)
   ·obtain ⟨q,q1,q2,q3,q4⟩:=hof j x hx hj
    refine⟨by omega,q,RdD.keep s3.keeps _ _ q1,q2,q3,fun l hl=>?_⟩
    have:(j+1) * sz≤n * sz:=Nat.mul_le_mul_right sz q_
    rw[Nat.add_mul,Nat.one_mul]at this
    rw[List.append_assoc,List.getElem?_append_left q_,q4 l hl]
   ·obtain ⟨h0,q,q1,q2,q3,q4⟩:=hng _ x hx
    refine⟨by omega,q,RdD.keep s3.keeps _ _ q1,q2,q3,fun l hl=>?_⟩
    have e1:j * sz=n * sz+(j-n) * sz:=by rw[← Nat.add_mul];congr 1;omega
    have:(j-n+1) * sz≤m * sz:=Nat.mul_le_mul_right sz q_
    rw[Nat.add_mul,Nat.one_mul]at this
    rw[List.append_assoc,List.getElem?_append_right q_,List.getElem?_append_left q_,← q4 l hl]
    congr 1
    omega
 cases k with
 | none =>
  obtain ⟨rfl,rfl⟩:=hb
  by_cases hm:m=0
  ·subst hm
   have st:=Hu hi hd (e:=.nil) (Grew.refl w) (fun b hb=>by cases hb)
   refine⟨.slice none 0 0,w,C4 κ d .nil,?_,st.1.weaken (fun j hj=>.inr hj),st.2,by simp[Rd,Ar],.inl ⟨Ar _ _ _,E⟩⟩
   have hc:=hnc w (fun _ _=>rfl)
   simp[Builtin.append_,run_underlying ht,sizeOf,typeInfo,hinfo,hsz,Builtin.lenOf,hc]
  ·obtain ⟨q1,q2,q3,q4⟩:=newrow [] 0 y_ (fun j x _ hj=>absurd hj q_)
   refine⟨_,_,_,?_,q1,q2,q3,.inr q4⟩
   have hc:=hnc w.drew (fun _ _=>rfl)
   have h48:=hfits 0 q_
   have h63':¬ (9223372036854775807<(m:Int)):=by omega
   simp only[Nat.zero_add]at h48 ⊢
   simp[Builtin.append_,run_underlying ht,sizeOf,typeInfo,zeroValue,hinfo,hsz,hz,Builtin.lenOf,hm,h63',h48,Question.forced,run_firstCells_none,hc,newRow,grownCap]
 | some k =>
  rcases hb with ⟨hk,rfl,rfl⟩ | ⟨hrow,tot,b,cap,hk,rfl⟩
  ·by_cases hm:m=0
   ·subst hm
    have hkd:d≠k:=fun e=>by subst e;rw[hd]at hk;cases hk
    have st:=Hu (Iu hi (some k)) (by show C4 κ k .dead d=.new;rw[Bt _ _ hkd];exact hd) (e:=.nil) (Grew.refl w) (fun b hb=>by cases hb)
    refine⟨.slice none 0 0,w,_,?_,((Hl (some k)).weaken (fun j hj=>.inl hj)).trans (st.1.weaken (fun j hj=>.inr hj)),st.2,by simp[Rd,Ar],.inl ⟨Ar _ _ _,E⟩⟩
    have hc:=hnc w (fun _ _=>rfl)
    simp[Builtin.append_,run_underlying ht,sizeOf,typeInfo,hinfo,hsz,Builtin.lenOf,hc]
   ·obtain ⟨q1,q2,q3,q4⟩:=newrow [] 0 y_ (fun j x _ hj=>absurd hj q_)
    refine⟨_,_,_,?_,q1,q2,q3,.inr q4⟩
    have hc:=hnc w.drew (fun _ _=>rfl)
    have h48:=hfits 0 q_
    have h63':¬ (9223372036854775807<(m:Int)):=by omega
    simp only[Nat.zero_add]at h48 ⊢
    simp[Builtin.append_,run_underlying ht,sizeOf,typeInfo,zeroValue,hinfo,hsz,hz,Builtin.lenOf,hm,h63',h48,Question.forced,run_firstCells_none,hc,newRow,grownCap]
  ·obtain ⟨b',cap',hk',hsrc⟩:=hrow.src tot
   rw[hk]at hk'
   cases hk'
   have hrow':=hrow
   obtain ⟨b',cap',cs,T,fr,e1,e2,e3,e4,e5,e6⟩:=hrow'
   rw[hk]at e1
   cases e1
   by_cases hroom:n+m≤cap
   ·have hkd:k≠d:=fun e=>by subst e;rw[hk]at hd;cases hd
    have hcs:(n+m) * sz≤cs.length:=Nat.le_trans (Nat.mul_le_mul_right sz hroom) e4
    rw[Nat.add_mul]at hcs
    obtain ⟨w',f1,f2,f3,f4,f5,f6,f7⟩:=Ck P b (n * sz) T fr news 0 cs w e2 e3 q_ hn1
    obtain ⟨st,inv⟩:=K5 (n':=n+m) hi hk hd f3 f4 f5 f6 f7
    refine⟨.slice (some ⟨b,0,none⟩) (n+m) cap,w',_,?_,st.weaken (fun j hj=>hj.imp (fun h=>by rw[h]) id),inv,by simp[Rd,Ar],.inr ?_⟩
    ·have hc:=hnc w (fun _ _=>rfl)
     simp[Builtin.append_,run_underlying ht,sizeOf,typeInfo,hinfo,hsz,Builtin.lenOf,hroom,hc,Addr.add_lit,f1]
    ·refine⟨b,cap,_,T,fr,Ar _ _ _,by simpa using f2,by rw[Bw];exact e3,by rw[Bw];exact e4,hroom,?_⟩
     have hset:=Jn cs news (n * sz)
     rintro j x (⟨hj,hx⟩ | ⟨hj,hx⟩)
     ·obtain ⟨_,q,q1,q2,q3,q4⟩:=e6 j x hx
      refine⟨by omega,q,RdD.keep st.keeps _ _ q1,q2,q3,fun l hl=>?_⟩
      have:(j+1) * sz≤n * sz:=Nat.mul_le_mul_right sz q_
      rw[Nat.add_mul,Nat.one_mul]at this
      rw[hset _ q_,if_neg q_,q4 l hl]
     ·obtain ⟨h0,q,q1,q2,q3,q4⟩:=hng _ x hx
      refine⟨by omega,q,RdD.keep st.keeps _ _ q1,q2,q3,fun l hl=>?_⟩
      have e1:j * sz=n * sz+(j-n) * sz:=by rw[← Nat.add_mul];congr 1;omega
      have:(j-n+1) * sz≤m * sz:=Nat.mul_le_mul_right sz q_
      rw[Nat.add_mul,Nat.one_mul]at this
      rw[hset _ q_,if_pos q_,← q4 l hl]
      congr 1
      omega
   ·rcases hsrc with ⟨rfl,hno,a',c',he⟩ | ⟨b2,o2,c2,olds,he,g1,g2,g3,g4⟩
    ·obtain ⟨q1,q2,q3,q4⟩:=newrow [] cap y_ (fun j x _ hj=>absurd hj q_)
     refine⟨_,_,_,?_,q1,q2,q3,.inr q4⟩
     have hc:=hnc w.drew (fun _ _=>rfl)
     have h48:=hfits cap q_
     have h63':¬ (9223372036854775807<(m:Int)):=by omega
     have hroom':¬ (m≤cap):=by omega
     have hfo:=run_firstCells_some (P:=P) w.drew sz 0 ⟨b,0,none⟩ 0 cap [] y_ (fun j v hj=>by simp at hj)
     simp only[Nat.zero_add]at h48 ⊢
     simp[Builtin.append_,run_underlying ht,sizeOf,typeInfo,zeroValue,hinfo,hsz,hz,Builtin.lenOf,hroom',h63',h48,Question.forced,hfo,hc,newRow,grownCap]
    ·cases he
     obtain ⟨q1,q2,q3,q4⟩:=newrow olds cap g1 (fun j x hx hj=>(g4 j x hx).2)
     refine⟨_,_,_,?_,q1,q2,q3,.inr q4⟩
     have hc:=hnc w.drew (fun _ _=>rfl)
     have h48:=hfits cap q_
     have h63':¬ (9223372036854775807<(n:Int)+(m:Int)):=by omega
     have hfo:=run_firstCells_some (P:=P) w.drew sz n ⟨b,0,none⟩ n cap olds g1 (fun j v hj=>by
      have:=g3 j v hj
      rw[Addr.add_lit];simpa using this)
     simp[Builtin.append_,run_underlying ht,sizeOf,typeInfo,zeroValue,hinfo,hsz,hz,Builtin.lenOf,hroom,h63',h48,Question.forced,hfo,hc,newRow,grownCap]
     congr 2
     apply Array.ext'
     simp[List.append_assoc]
theorem Ut {P:Program}:∀ {fs:List Field} {r:List (Nat × Nat)} {f:Nat} {o n:Nat},Ed P fs r→r[f]? = some (o,n)→∃ x,fs[f]? = some x∧x.offset=o∧(P.info? x.type).map (·.size)=some n
 | [],[],f,o,n,_,h=>by simp at h
 | [],_::_,f,o,n,h,_=>by simp[Ed]at h
 | _::_,[],f,o,n,h,_=>by simp[Ed]at h
 | x::fs,(o',n')::r,0,o,n,h,h'=>by
  simp only[Ed]at h
  simp only[List.getElem?_cons_zero,Option.some.injEq,Prod.mk.injEq]at h'
  exact⟨x,by simp,by rw[h.1];exact h'.1,by rw[h.2.1,h'.2]⟩
 | x::fs,(o',n')::r,f+1,o,n,h,h'=>by
  simp only[Ed]at h
  obtain ⟨y,h1,h2⟩:=Ut (f:=f) h.2.2 (by simpa using h')
  exact⟨y,by simpa using h1,h2⟩
theorem M4 {P:Program} (Γ:Ty P) {t:TypeId} {ti:TI} {fs:List (Nat × Nat)} {f o n:Nat} (ht:Γ.get t=some ti) (hk:ti.k=.struct fs) (hf:fs[f]? = some (o,n)) (hn:n≠0) (w:World) (b off:Nat) :
  (Instr.fieldAt t (.pointer (some ⟨b,off,none⟩)) f).run P w=.ok (.pointer (some ⟨b,off+o,none⟩)) w:=by
 obtain ⟨d,info,z,k1,k2,k3,k4,k5,k6⟩:=Γ.ok t ti ht
 rw[hk]at k2
 simp only[TK.ok]at k2
 obtain ⟨a,rfl,k2⟩:=k2
 obtain ⟨x,h1,h2,h3⟩:=Ut k2 hf
 obtain ⟨ix,h4,h5⟩:∃ ix,P.info? x.type=some ix∧ix.size=n:=by
  cases hh:P.info? x.type with
  | none=>rw[hh]at h3;cases h3
  | some ix=>rw[hh]at h3;exact⟨ix,rfl,by simpa using h3⟩
 have h1':a[f]? = some x:=by simpa using h1
 simp[Instr.fieldAt,run_underlying k1,h1',Instr.sureAddr,fieldPlace,sizeOf,typeInfo,h4,h5,hn,Addr.add_lit,h2]
theorem H4 {P:Program} (Γ:Ty P) {o:Oper} {s:SS} {t:TypeId} {ti:TI} {fs:List (Nat × Nat)} {x:Operand} {f fo fn:Nat} (h:o.op=.fieldAddr t x f)
  (ht:Γ.get t=some ti) (hk:ti.k=.struct fs) (hf:fs[f]? = some (fo,fn)) (hn:fn≠0) {y:SV} {rd:List Nat}
  (hy:(∃ k off l,ev s x=.ptr k off∧s.h k=.box l∧rd=[k]∧y=.ptr k (off+fo))∨(∃ sz z off,ev s x=.ref sz z off∧rd=[]∧y=.ref sz z (off+fo)) ∨
   (∃ k sz i off,ev s x=.rpt k sz i off∧(∀ κ w,ObOK κ w k (s.h k)→∃ b n c,κ k=.row b n c)∧rd=[k]∧y=.rpt k sz i (off+fo))):Good P o s ⟨y,rd,[]⟩ :=
 Good.pure fun κ a w _ hr ho=>by
  have h1:=hr x (by simp[h,Op.operands])
  rcases hy with ⟨k,off,l,hx,hl,rfl,rfl⟩ | ⟨sz,z,off,hx,rfl,rfl⟩ | ⟨k,sz,i,off,hx,hl,rfl,rfl⟩
  ·have h2:=ho k y_
   rw[hl]at h2
   obtain ⟨b,cs,T,fr,e1,_⟩:=h2
   rw[hx]at h1
   simp only[Rd,e1]at h1
   exact⟨.pointer (some ⟨b,off+fo,none⟩),by simp[execOp,h,h1,M4 Γ ht hk hf hn],by simp[Rd,e1]⟩
  ·rw[hx]at h1
   simp only[Rd,RdD]at h1
   obtain ⟨b,oo,u,e1,e2⟩:=h1
   refine⟨.pointer (some ⟨b,oo+off+fo,none⟩),by simp[execOp,h,e1,M4 Γ ht hk hf hn],?_⟩
   simp only[Rd,RdD]
   exact⟨b,oo,u,by rw[Nat.add_assoc],e2⟩
  ·obtain ⟨b,n,c,e1⟩:=hl κ w (ho k y_)
   rw[hx]at h1
   simp only[Rd,e1]at h1
   exact⟨.pointer (some ⟨b,i * sz+off+fo,none⟩),by simp[execOp,h,h1,M4 Γ ht hk hf hn],by simp[Rd,e1,Nat.add_assoc]⟩
theorem Cd {P:Program} {o:Oper} {s:SS} {x:Operand} {rd:List Nat} (h:o.op=.nilCheck x)
  (hy:(∃ k off l,ev s x=.ptr k off∧s.h k=.box l∧rd=[k])∨(∃ sz z off,ev s x=.ref sz z off∧rd=[])∨(∃ f first cap,ev s x=.clo (.func f) first cap∧rd=[]) ∨
   (∃ k sz i off,ev s x=.rpt k sz i off∧(∀ κ w,ObOK κ w k (s.h k)→∃ b n c,κ k=.row b n c)∧rd=[k])):Good P o s ⟨ev s x,rd,[]⟩ :=
 Good.pure fun κ a w _ hr ho=>by
  have h1:=hr x (by simp[h,Op.operands])
  refine⟨a.eval x,?_,h1⟩
  rcases hy with ⟨k,off,l,hx,hl,rfl⟩ | ⟨sz,z,off,hx,rfl⟩ | ⟨f,first,cap,hx,rfl⟩ | ⟨k,sz,i,off,hx,hl,rfl⟩
  ·have h2:=ho k y_
   rw[hl]at h2
   obtain ⟨b,cs,T,fr,e1,_⟩:=h2
   rw[hx]at h1
   simp only[Rd,e1]at h1
   simp[execOp,h,h1]
  ·rw[hx]at h1
   simp only[Rd,RdD]at h1
   obtain ⟨b,oo,u,e1,e2⟩:=h1
   simp[execOp,h,e1]
  ·rw[hx]at h1
   simp only[Rd]at h1
   obtain ⟨fs,cs,e1,_⟩:=h1
   simp[execOp,h,e1]
  ·obtain ⟨b,n,c,e1⟩:=hl κ w (ho k y_)
   rw[hx]at h1
   simp only[Rd,e1]at h1
   simp[execOp,h,h1]
theorem B7 {P:Program} (Γ:Ty P) {t:TypeId} {ti:TI} {e:TypeId} {sz eb:Nat} {ez:List Value} (ht:Γ.get t=some ti) (hk:ti.k=.slice e sz eb ez) :
  P.underlying t=some (.slice e)∧∃ i z,P.info? e=some i∧i.size=sz∧i.bytes=eb∧i.zero=some z∧z.cells.toList=ez:=by
 obtain ⟨d,info,z,k1,k2,k3,k4,k5,k6⟩:=Γ.ok t ti ht
 rw[hk]at k2
 simp only[TK.ok]at k2
 obtain ⟨rfl,k2⟩:=k2
 exact⟨k1,k2⟩
theorem H3 {P:Program} (Γ:Ty P) {o:Oper} {s:SS} {t:TypeId} {ti:TI} {et:TypeId} {sz eb:Nat} {ez:List Value} {x y:Operand} {ik:IntKind} {n:Int} {α:Type} {e:α→SV} {l:List α}
  (h:o.op=.indexAddr t x y) (ht:Γ.get t=some ti) (hk:ti.k=.slice et sz eb ez) (hx:ev s x=.sl sz e l) (hy:ev s y=.val (.int ik n)) (h0:0≤n) (hn:n.toNat<l.length) :
  Good P o s ⟨.ref sz (e l[n.toNat]) 0,[],[]⟩ :=
 Good.pure fun κ a w _ hr _=>by
  have h1:=hr x (by simp[h,Op.operands])
  have h2:=hr y (by simp[h,Op.operands])
  rw[hx]at h1
  rw[hy]at h2
  obtain ⟨hu,i,z,q1,q2,q3,q4,q5⟩:=B7 Γ ht hk
  simp only[Rd,RdD]at h1
  rcases h1 with ⟨rfl,_⟩ | ⟨b,off,cap,e1,e0,e2,e3,e4⟩
  ·simp at hn
  ·obtain ⟨u,e5,e6⟩:=e4 n.toNat hn
   have hlt:n<l.length:=by omega
   refine⟨.pointer (some ⟨b,off+n.toNat * sz,none⟩),?_,?_⟩
   ·simp[execOp,h,e1,h2.val,Instr.indexAt,run_underlying hu,asIntOf,h0,hlt,sizeOf,typeInfo,q1,q2,Addr.add_lit]
   ·simp only[Rd,RdD]
    exact⟨b,off+n.toNat * sz,u,E,e2,e3,e5,e6⟩
def Ob.len:Ob→Option Nat
 | .row _ _ l=>some l.length
 | .lit _ svs=>some svs.length
 | .rown _ _ l _ _=>some l.length
 | _=>none
theorem Ob.len_ok {κ:Ka} {w:World} {k n:Nat}:∀ {ob:Ob} {v:Value},ob.len=some n→ObOK κ w k ob→Rd κ w (.osl k) v→∃ a cap,v=.slice a n cap∧(n≠0→∃ b c,κ k=.row b n c∧a=some ⟨b,0,none⟩)
 | .row sz e l,v,hn,h,hv=>by
  simp only[Ob.len,Option.some.injEq]at hn
  rcases h with ⟨h1,h2⟩ | ⟨b,cap,cs,T,fr,h1,_⟩
  ·simp only[Rd,h1]at hv
   subst h2
   simp at hn
   exact⟨none,0,by rw[hv,hn],fun h=>absurd hn.symm h⟩
  ·simp only[Rd,h1]at hv
   rw[hn]at h1 hv
   exact⟨_,cap,hv,fun _=>⟨b,cap,h1,E⟩⟩
 | .lit sz l,v,hn,h,hv=>by
  simp only[Ob.len,Option.some.injEq]at hn
  obtain ⟨b,cap,cs,T,fr,h1,_⟩:=h
  simp only[Rd,h1]at hv
  rw[hn]at h1 hv
  exact⟨_,cap,hv,fun _=>⟨b,cap,h1,E⟩⟩
 | .fresh,_,hn,_,_=>by cases hn
 | .non,_,hn,_,_=>by cases hn
 | .box _,_,hn,_,_=>by cases hn
 | .glob ..,_,hn,_,_=>by cases hn
 | .pin ..,_,hn,_,_=>by cases hn
 | .dat ..,_,hn,_,_=>by cases hn
 | .tbox ..,_,hn,_,_=>by cases hn
 | .rown sz e l i cl,v,hn,h,hv=>by
  simp only[Ob.len,Option.some.injEq]at hn
  obtain ⟨b,cap,cs,T,fr,h1,_⟩:=h
  simp only[Rd,h1]at hv
  rw[hn]at h1 hv
  exact⟨_,cap,hv,fun _=>⟨b,cap,h1,E⟩⟩
theorem Hi {P:Program} (Γ:Ty P) {o:Oper} {s:SS} {t:TypeId} {ti:TI} {et:TypeId} {sz eb len:Nat} {ez:List Value} {x y:Operand} {ik:IntKind} {n:Int} {k:Nat}
  (h:o.op=.indexAddr t x y) (ht:Γ.get t=some ti) (hk:ti.k=.slice et sz eb ez) (hx:ev s x=.osl k) (hl:(s.h k).len=some len) (hy:ev s y=.val (.int ik n)) (h0:0≤n) (hn:n.toNat<len) :
  Good P o s ⟨.rpt k sz n.toNat 0,[k],[]⟩ :=
 Good.pure fun κ a w _ hr ho=>by
  have h1:=hr x (by simp[h,Op.operands])
  have h2:=hr y (by simp[h,Op.operands])
  rw[hx]at h1
  rw[hy]at h2
  obtain ⟨hu,i,z,q1,q2,q3,q4,q5⟩:=B7 Γ ht hk
  obtain ⟨ad,cap,e1,e2⟩:=Ob.len_ok hl (ho k y_) h1
  obtain ⟨b,c,e3,rfl⟩:=e2 q_
  have hlt:n<len:=by omega
  refine⟨.pointer (some ⟨b,n.toNat * sz,none⟩),?_,by simp[Rd,e3]⟩
  simp[execOp,h,e1,h2.val,Instr.indexAt,run_underlying hu,asIntOf,h0,hlt,sizeOf,typeInfo,q1,q2,Addr.add_lit]
theorem Zl {P:Program} (Γ:Ty P) {o:Oper} {s:SS} {t:TypeId} {ti:TI} {x:Operand} {at_:Array TypeId} {n:Nat} {rd:List Nat} (h:o.op=.call ⟨.builtin .len,#[x],at_⟩) (hat:at_[0]? = some t)
  (ht:Γ.get t=some ti) {et:TypeId} {sz eb:Nat} {ez:List Value} (hk:ti.k=.slice et sz eb ez)
  (hx:(∃ (z:Nat) (α:Type) (e:α→SV) (l:List α),ev s x=.sl z e l∧n=l.length∧rd=[])∨(∃ k,ev s x=.osl k∧(s.h k).len=some n∧rd=[k])∨(∃ a c,ev s x=.val (.slice a n c)∧rd=[])) :
  Good P o s ⟨.val (.int .i64 n),rd,[]⟩ :=
 Good.pure fun κ a w _ hr ho=>by
  have h1:=hr x (by simp[h,Op.operands,Call.operands])
  obtain ⟨hu,i,z,q1,q2,q3,q4,q5⟩:=B7 Γ ht hk
  have key:∃ ad cap,a.eval x=.slice ad n cap:=by
   rcases hx with ⟨z,α,e,l,hx,rfl,rfl⟩ | ⟨k,hx,hl,rfl⟩ | ⟨ad,c,hx,rfl⟩
   ·rw[hx]at h1
    simp only[Rd,RdD]at h1
    rcases h1 with ⟨rfl,ad,cap,e1⟩ | ⟨b,off,cap,e1,_⟩
    ·exact⟨ad,cap,e1⟩
    ·exact⟨_,cap,e1⟩
   ·rw[hx]at h1
    obtain ⟨ad,cap,e1,_⟩:=Ob.len_ok hl (ho k y_) h1
    exact⟨ad,cap,e1⟩
   ·rw[hx]at h1
    exact⟨ad,c,h1.val⟩
  obtain ⟨ad,cap,e1⟩:=key
  refine⟨.int .i64 n,?_,by simp[Rd]⟩
  simp[execOp,h,resolve,invoke,builtin,Builtin.len_,hat,e1,run_underlying hu,goInt]
theorem Xm {P:Program} (Γ:Ty P) {o:Oper} {s:SS} {t:TypeId} {ti:TI} {x:Operand} {at_:Array TypeId} {b:ByteArray} (h:o.op=.call ⟨.builtin .len,#[x],at_⟩) (hat:at_[0]? = some t)
  (ht:Γ.get t=some ti) (hk:ti.k=.string) (hx:ev s x=.val (.string b)):Good P o s ⟨.val (.int .i64 b.size),[],[]⟩ :=
 Good.pure fun κ a w _ hr ho=>by
  have h1:=hr x (by simp[h,Op.operands,Call.operands])
  rw[hx]at h1
  obtain ⟨d,info,z,k1,k2,k3,k4,k5,k6⟩:=Γ.ok t ti ht
  rw[hk]at k2
  simp only[TK.ok]at k2
  subst k2
  refine⟨.int .i64 b.size,?_,by simp[Rd]⟩
  simp[execOp,h,resolve,invoke,builtin,Builtin.len_,hat,h1.val,run_underlying k1,goInt]
theorem Arr {P:Program} {o:Oper} {s:SS} {t:TypeId} {x:Operand} {b:Bool} (h:o.op=.unOp .not t x) (hx:ev s x=.val (.bool b)):Good P o s ⟨.val (.bool (!b)),[],[]⟩ :=
 Good.pure fun κ a w _ hr _=>by
  have h1:=hr x (by simp[h,Op.operands])
  rw[hx]at h1
  exact⟨.bool (!b),by simp[execOp,h,h1.val,Op.unary],by simp[Rd]⟩
theorem Ars {P:Program} {o:Oper} {s:SS} {t:TypeId} {x:Operand} {k:IntKind} {n:Int} (h:o.op=.unOp .neg t x) (hx:ev s x=.val (.int k n)):Good P o s ⟨.val (.int k (k.wrap (0-n))),[],[]⟩ :=
 Good.pure fun κ a w _ hr _=>by
  have h1:=hr x (by simp[h,Op.operands])
  rw[hx]at h1
  exact⟨.int k (k.wrap (0-n)),by simp[execOp,h,h1.val,Op.unary,Op.intArith],by simp[Rd]⟩
theorem V5 {P:Program} (Γ:Ty P) {o:Oper} {s:SS} {src dst:TypeId} {si di:TI} {x:Operand} {k k':IntKind} {n:Int} (h:o.op=.convert src dst x) (hs:Γ.get src=some si) (hd:Γ.get dst=some di)
  (hk:di.k=.int k') (hx:ev s x=.val (.int k n)):Good P o s ⟨.val (.int k' (k'.wrap n)),[],[]⟩ :=
 Good.pure fun κ a w _ hr _=>by
  have h1:=hr x (by simp[h,Op.operands])
  rw[hx]at h1
  obtain ⟨d,info,z,k1,k2,_⟩:=Γ.ok dst di hd
  obtain ⟨d',info',z',k1',_⟩:=Γ.ok src si hs
  rw[hk]at k2
  simp only[TK.ok]at k2
  subst k2
  exact⟨.int k' (k'.wrap n),by simp[execOp,h,h1.val,convert,run_underlying k1,run_underlying k1',Conv.intToInt],by simp[Rd]⟩
theorem Qr {P:Program} (Γ:Ty P) {o:Oper} {s:SS} {src dst:TypeId} {si di:TI} {x:Operand} {b:ByteArray} (h:o.op=.convert src dst x) (hs:Γ.get src=some si) (hd:Γ.get dst=some di)
  (hk':si.k=.string) (hk:di.k=.string) (hx:ev s x=.val (.string b)):Good P o s ⟨.val (.string b),[],[]⟩ :=
 Good.pure fun κ a w _ hr _=>by
  have h1:=hr x (by simp[h,Op.operands])
  rw[hx]at h1
  obtain ⟨d,info,z,k1,k2,_⟩:=Γ.ok dst di hd
  obtain ⟨d',info',z',k1',k2',_⟩:=Γ.ok src si hs
  rw[hk]at k2
  rw[hk']at k2'
  simp only[TK.ok]at k2 k2'
  subst k2 k2'
  exact⟨.string b,by simp[execOp,h,h1.val,convert,run_underlying k1,run_underlying k1'],by simp[Rd]⟩
theorem RdL.getT {κ:Ka} {w:World} {n:Nat} {l:List SV} {cs:List Value} {x:SV} (h:RdL κ w l cs) (hg:Ei l n=some x):∃ v,cs.toArray[n]? = some v∧Rd κ w x v:=by
 obtain ⟨v,h1,h2⟩:=h.get hg
 exact⟨v,by simpa using h1,h2⟩
theorem Ady {P:Program} {o:Oper} {s:SS} {x:Operand} {i:Nat} {l:List SV} {y:SV} (h:o.op=.extract x i) (hx:ev s x=.tup l) (hy:Ei l i=some y):Good P o s ⟨y,[],[]⟩ :=
 Good.pure fun κ a w _ hr _=>by
  have h1:=hr x (by simp[h,Op.operands])
  rw[hx]at h1
  simp only[Rd]at h1
  obtain ⟨cs,e1,e2⟩:=h1
  obtain ⟨v,e3,e4⟩:=e2.getT hy
  exact⟨v,by simp[execOp,h,e1,Instr.extract]at e3 ⊢;simp[e3],e4⟩
theorem Sx {P:Program} (Γ:Ty P) {o:Oper} {s:SS} {t:TypeId} {ti:TI} {x:Operand} (h:o.op=.makeInterface t x) (ht:Γ.get t=some ti) (hk:ti.k matches .bool | .int _ | .string | .slice .. | .struct _ | .ptr | .func) :
  Good P o s ⟨.ifc t (ev s x),[],[]⟩ :=
 Good.pure fun κ a w _ hr _=>by
  have h1:=hr x (by simp[h,Op.operands])
  obtain ⟨d,info,z,k1,k2,_⟩:=Γ.ok t ti ht
  refine⟨.iface t (a.eval x),?_,by simp only[Rd];exact⟨_,E,h1⟩⟩
  obtain ⟨k,n,zz⟩:=ti
  cases k<;>simp only[TK.ok]at k2<;>first
   | (subst k2;simp[execOp,h,Instr.makeInterface,run_underlying k1];done)
   | (obtain ⟨a,rfl,_⟩:=k2;simp[execOp,h,Instr.makeInterface,run_underlying k1];done)
   | (obtain ⟨rfl,_⟩:=k2;simp[execOp,h,Instr.makeInterface,run_underlying k1];done)
   | (obtain ⟨a,b,c,rfl⟩:=k2;simp[execOp,h,Instr.makeInterface,run_underlying k1];done)
   | (obtain ⟨a,rfl⟩:=k2;simp[execOp,h,Instr.makeInterface,run_underlying k1];done)
   | simp at hk
theorem Ko {κ:Ka} {w:World} {s:SS} {a:Act}:∀ (xs:List Operand),(∀ x∈xs,Rd κ w (ev s x) (a.eval x))→RdL κ w (xs.map (ev s)) (xs.map a.eval)
 | [],_=>by simp[RdL]
 | x::xs,h=>by
  simp only[List.map_cons,RdL]
  exact⟨_,_,E,h x y_,Ko xs (fun y hy=>h y (by simp[hy]))⟩
theorem Aa6 {P:Program} {o:Oper} {s:SS} {fn:Fn} {ys xs:List Operand} (h:o.op=.makeFunc fn ys.toArray xs.toArray):Good P o s ⟨.clo fn (ys.map (ev s)) (xs.map (ev s)),[],[]⟩ :=
 Good.pure fun κ a w _ hr _=>by
  refine⟨.func fn (ys.map a.eval).toArray (xs.map a.eval).toArray,by simp[execOp,h,Instr.makeFunc],?_⟩
  simp only[Rd]
  exact⟨_,_,E,Ko ys (fun x hx=>hr x (by simp[h,Op.operands,hx])),Ko xs (fun x hx=>hr x (by simp[h,Op.operands,hx]))⟩
theorem Aci (off:Nat):∀ (vs:List Value) (n:Nat) (cs:Array Value),off+n+vs.length≤cs.size →
  ((vs.zipIdx n).foldl (fun (cs:Array Value) (p:Value × Nat)=>cs.setIfInBounds (off+p.2) p.1) cs).toList=setV cs.toList (off+n) vs
 | [],n,cs,_=>by cases h:cs.toList<;>simp[setV,h]
 | v::vs,n,cs,h=>by
  simp only[List.zipIdx_cons,List.foldl_cons]
  rw[Aci off vs (n+1) _ (by simp at h ⊢;omega)]
  simp only[Array.toList_setIfInBounds]
  rw[Kf _ _ _ (by simp at h ⊢;omega),Kf _ _ _ (by simp at h ⊢;omega)]
  have:=list_seg_step cs.toList (off+n) v vs (by simp at h ⊢;omega)
  simpa [Nat.add_assoc] using this
theorem Ack (v:Value) (off:Nat) (cs:Array Value) (h:off+v.cells.size≤cs.size) :
  (v.cells.zipIdx.foldl (fun cs (c,j)=>cs.setIfInBounds (off+j) c) cs).toList=setV cs.toList off v.cells.toList:=by
 have:=Aci off v.cells.toList 0 cs (by simpa using h)
 rw[Nat.add_zero]at this
 rw[← this,← Array.foldl_toList,Array.toList_zipIdx]
def Zs (places:List (Nat × Nat)):List SV→List (Nat × SV)→Option (List SV)
 | cells,[]=>some cells
 | cells,(i,v)::r =>
  match places[i]? with
  | none=>none
  | some (off,size)=>bif Nat.beq (cellsOf v).length size && Nat.ble (off+size) cells.length && v.boxed then Zs places (setAt cells off (cellsOf v)) r else none
theorem Ad5 {κ:Ka} {w:World} {s:SS} {a:Act} {places:List (Nat × Nat)}:∀ (ps:List (Nat × Operand)) (cells out:List SV) (cs:Array Value),RdL κ w cells cs.toList→Ones cs.toList→(∀ p∈ps,Rd κ w (ev s p.2) (a.eval p.2)) →
  Zs places cells (ps.map fun p=>(p.1,ev s p.2))=some out→∃ r:Array Value,Instr.fill (fun i=>places[i]?) cs (ps.map fun p=>(p.1,a.eval p.2))=some r∧RdL κ w out r.toList∧Ones r.toList
 | [],cells,out,cs,h,h1,_,hf=>by
  simp only[List.map_nil,Zs,Option.some.injEq]at hf
  subst hf
  exact⟨cs,by simp[Instr.fill],h,h1⟩
 | (i,x)::ps,cells,out,cs,h,h1,hr,hf=>by
  simp only[List.map_cons,Zs]at hf
  cases hp:places[i]? with
  | none=>rw[hp]at hf;cases hf
  | some os =>
   obtain ⟨off,size⟩:=os
   rw[hp]at hf
   simp only[Bool.cond_eq_ite]at hf
   split at hf
   ·rename_i hc
    simp only[Bool.and_eq_true]at hc
    obtain ⟨⟨c1,c2⟩,c3⟩:=hc
    have c1:=Nat.eq_of_beq_eq_true c1
    have c2:=Nat.le_of_ble_eq_true c2
    have hx:=(hr (i,x) y_).cells c3
    have hlen:=hx.2.length
    have hl2:=h.length
    have hsz:(a.eval x).cells.size=size:=by rw[← c1,← hlen];simp
    have hfit:off+(a.eval x).cells.size≤cs.size:=by rw[hsz];simp at hl2;omega
    have hstep:=Ack (a.eval x) off cs hfit
    obtain ⟨r,r1,r2,r3⟩:=Ad5 ps _ out _ (by rw[hstep];exact h.setAt off hx.2) (by rw[hstep];exact h1.setV off hx.1) (fun p hp=>hr p (by simp[hp])) hf
    refine⟨r,?_,r2,r3⟩
    simp only[List.map_cons,Instr.fill,hp]
    rw[if_neg]
    ·exact r1
    ·simp only[Bool.or_eq_true,decide_eq_true_eq,not_or]
     exact⟨by simpa using hsz,by omega⟩
   ·cases hf
theorem Yd {P:Program} (w:World):∀ (fs:List Field) (r:List (Nat × Nat)),Ed P fs r→(fs.mapM (fun f=>do pure (f.offset,← sizeOf f.type)):Sem (List (Nat × Nat))).run P w=.ok r w
 | [],[],_=>by simp
 | [],_::_,h=>by simp[Ed]at h
 | _::_,[],h=>by simp[Ed]at h
 | f::fs,(o,n)::r,h=>by
  simp only[Ed]at h
  have ih:=Yd w fs r h.2.2
  obtain ⟨ix,h4,h5⟩:∃ ix,P.info? f.type=some ix∧ix.size=n:=by
   have h3:=h.2.1
   cases hh:P.info? f.type with
   | none=>rw[hh]at h3;cases h3
   | some ix=>rw[hh]at h3;exact⟨ix,rfl,by simpa using h3⟩
  simp only[List.mapM_cons,Sem.run_bind,sizeOf,typeInfo,run_program,Result.andThen_ok,h4,Sem.run_pure,h5,h.1]at ih ⊢
  rw[ih]
  simp
theorem Ajy {P:Program} (Γ:Ty P) {o:Oper} {s:SS} {t:TypeId} {ti:TI} {fs:List (Nat × Nat)} {ps:List (Nat × Operand)} {out:List SV} (h:o.op=.build t ps.toArray) (ht:Γ.get t=some ti) (hk:ti.k=.struct fs)
  (h1:Wq ti.zero=true) (hf:Zs fs (ti.zero.map .val) (ps.map fun p=>(p.1,ev s p.2))=some out):Good P o s ⟨.agg out,[],[]⟩ :=
 Good.pure fun κ a w _ hr _=>by
  obtain ⟨d,info,z,k1,k2,k3,k4,k5,k6⟩:=Γ.ok t ti ht
  rw[hk]at k2
  simp only[TK.ok]at k2
  obtain ⟨fa,rfl,k2⟩:=k2
  have hops:∀ p∈ps,Rd κ w (ev s p.2) (a.eval p.2):=fun p hp=>hr p.2 (by
   simp only[h,Op.operands]
   simp only[List.mem_toArray,List.mem_map]
   exact⟨p,hp,E⟩)
  obtain ⟨r,r1,r2,r3⟩:=Ad5 (κ:=κ) (w:=w) (a:=a) ps _ out z.cells (by rw[k6];exact Va _) (by rw[k6];exact Oc h1) hops hf
  have hpl:(fa.mapM (fun f=>do pure (f.offset,← sizeOf f.type)):Sem (Array (Nat × Nat))).run P w=.ok fs.toArray w:=by
   rw[Array.mapM_eq_mapM_toList]
   simp only[Sem.run_map,Yd w _ _ k2,Result.andThen_ok]
  refine⟨.agg r,?_,?_⟩
  ·have hfun:(fun (i:Nat)=>fs.toArray[i]?)=(fun (i:Nat)=>fs[i]?):=by funext i;simp
   simp only[execOp,h,Sem.run_bind,Instr.build,zeroValue,typeInfo,run_program,Result.andThen_ok,k3,k5,Sem.run_pure,run_underlying k1,hpl,hfun,List.map_toArray]
   rw[r1]
   simp
  ·simp only[Rd]
   exact⟨r.toList,by simp,r3,r2⟩
def Jo:Nat→List (Nat × Operand)→Option (List Operand)
 | _,[]=>some []
 | k,(i,x)::r=>bif Nat.beq i k then (Jo (k+1) r).map (x::·) else none
theorem Wi:∀ (ps:List (Nat × Operand)) (k:Nat) (xs:List Operand),Jo k ps=some xs→ps=(xs.zipIdx k).map fun p=>(p.2,p.1)
 | [],k,xs,h=>by simp only[Jo,Option.some.injEq]at h;subst h;rfl
 | (i,x)::r,k,xs,h=>by
  simp only[Jo,Bool.cond_eq_ite]at h
  split at h
  ·rename_i hb
   have:=Nat.eq_of_beq_eq_true hb
   subst this
   cases hs:Jo (i+1) r with
   | none=>rw[hs]at h;cases h
   | some ys =>
    rw[hs]at h
    simp only[Option.map_some,Option.some.injEq]at h
    subst h
    simp[List.zipIdx_cons,Wi r _ ys hs]
  ·cases h
theorem Ag5 (sz:Nat):∀ (vs:List Value) (k:Nat) (cs:Array Value),cs.size=(k+vs.length) * sz→(∀ v∈vs,v.cells.size=sz) →
  ∃ r:Array Value,Instr.fill (fun i=>some (i * sz,sz)) cs ((vs.zipIdx k).map fun p=>(p.2,p.1))=some r∧r.toList=cs.toList.take (k * sz)++vs.flatMap (·.cells.toList)
 | [],k,cs,h,_=>⟨cs,by simp[Instr.fill],by
   simp only[List.flatMap_nil,List.append_nil]
   rw[List.take_of_length_le]
   simp[h]⟩
 | v::vs,k,cs,h,hv=>by
  have hsz:=hv v y_
  have e1:(k+(v::vs).length) * sz=k * sz+sz+vs.length * sz:=by
   simp only[List.length_cons,Nat.add_mul,Nat.one_mul];omega
  have hfit:k * sz+v.cells.size≤cs.size:=by rw[h,e1,hsz];omega
  have hstep:=Ack v (k * sz) cs hfit
  have hsize:(v.cells.zipIdx.foldl (fun cs (c,j)=>cs.setIfInBounds (k * sz+j) c) cs).size=cs.size:=by
   rw[← Array.length_toList,hstep,Bw,Array.length_toList]
  obtain ⟨r,r1,r2⟩:=Ag5 sz vs (k+1) (v.cells.zipIdx.foldl (fun cs (c,j)=>cs.setIfInBounds (k * sz+j) c) cs) (by
   rw[hsize,h,e1];simp only[Nat.add_mul,Nat.one_mul]) (fun u hu=>hv u (by simp[hu]))
  refine⟨r,?_,?_⟩
  ·simp only[List.zipIdx_cons,List.map_cons,Instr.fill]
   rw[if_neg]
   ·exact r1
   ·simp only[Bool.or_eq_true,decide_eq_true_eq,not_or]
    exact⟨by simpa using hsz,by omega⟩
  ·rw[r2,hstep,Kf _ _ _ (by simpa using hfit)]
   have:(k+1) * sz=(cs.toList.take (k * sz)++v.cells.toList).length:=by
    rw[List.length_append,List.length_take,Array.length_toList,Array.length_toList,hsz,Nat.add_mul,Nat.one_mul]
    omega
   rw[this,List.take_append_of_le_length y_,List.take_of_length_le (Nat.le_refl _),List.flatMap_cons,List.append_assoc]
theorem Ag4 {sz:Nat}:∀ (vs:List Value) (i j:Nat),(∀ v∈vs,v.cells.size=sz)→j<sz→∀ u,vs[i]? = some u→(vs.flatMap (·.cells.toList))[i * sz+j]? = u.cells[j]?
 | [],i,j,_,_,u,h=>by simp at h
 | v::vs,0,j,hv,hj,u,h=>by
  simp only[List.getElem?_cons_zero,Option.some.injEq]at h
  subst h
  have:=hv v y_
  rw[List.flatMap_cons,Nat.zero_mul,Nat.zero_add,List.getElem?_append_left (by simpa [this] using hj)]
  simp
 | v::vs,i+1,j,hv,hj,u,h=>by
  have h0:=hv v y_
  rw[List.flatMap_cons,List.getElem?_append_right (by simp only[Array.length_toList,h0,Nat.add_mul,Nat.one_mul];omega)]
  have:=Ag4 vs i j (fun x hx=>hv x (by simp[hx])) hj u (by simpa using h)
  rw[← this]
  congr 1
  simp only[Array.length_toList,h0,Nat.add_mul,Nat.one_mul]
  omega
def Abz (sz:Nat):List SV→Bool
 | []=>true
 | x::l=>x.boxed && x.data && Nat.beq (cellsOf x).length sz && Abz sz l
theorem V0 {sz:Nat}:∀ {l:List SV} {i:Nat} {x:SV},Abz sz l=true→Ei l i=some x→x.boxed=true∧x.data=true∧(cellsOf x).length=sz
 | [],i,x,_,h=>by cases i<;>simp[Ei]at h
 | y::l,0,x,h,h'=>by
  simp only[Abz,Bool.and_eq_true]at h
  simp only[Ei,Option.some.injEq]at h'
  subst h'
  exact⟨h.1.1.1,h.1.1.2,Nat.eq_of_beq_eq_true h.1.2⟩
 | y::l,i+1,x,h,h'=>by
  simp only[Abz,Bool.and_eq_true]at h
  exact V0 h.2 h'
theorem Xv {α:Type 1}:∀ {l:List α} {i:Nat} {x:α},Ei l i=some x→i<l.length
 | [],i,x,h=>by cases i<;>simp[Ei]at h
 | _::l,0,x,_=>by simp
 | _::l,i+1,x,h=>by have:=Xv (l:=l) (i:=i) h;simp;omega
theorem Ou {α:Type 1}:∀ {l:List α} {i:Nat},i<l.length→∃ x,Ei l i=some x
 | [],i,h=>by simp at h
 | x::l,0,_=>⟨x,rfl⟩
 | _::l,i+1,h=>Ou (l:=l) (by simpa using h)
theorem Xn {P:Program} (Γ:Ty P) {o:Oper} {s:SS} {t:TypeId} {ti:TI} {et:TypeId} {sz eb len:Nat} {ez:List Value} {ps:List (Nat × Operand)} {xs:List Operand} {d:Nat} (h:o.op=.buildSlice t len ps.toArray) (hd:s.h d=.fresh)
  (ht:Γ.get t=some ti) (hk:ti.k=.slice et sz eb ez) (hq:Jo 0 ps=some xs) (hlen:xs.length=len) (hbig:len * sz≤16777216) (hok:Abz sz (xs.map (ev s))=true) :
  Good P o s ⟨.osl d,[],[(d,.lit sz (xs.map (ev s)))]⟩ :=
 Ul hd fun κ a w hi hr _ hn=>by
  have hps:=Wi ps 0 xs hq
  obtain ⟨hu,i,z,q1,q2,q3,q4,q5⟩:=B7 Γ ht hk
  have hops:∀ x∈xs,Rd κ w (ev s x) (a.eval x):=fun x hx=>hr x (by
   simp only[h,Op.operands,hps]
   simp only[List.mem_toArray,List.mem_map]
   obtain ⟨j,hj,rfl⟩:=List.mem_iff_getElem.1 hx
   exact⟨(j,xs[j]),⟨(xs[j],j),by rw[List.mk_mem_zipIdx_iff_getElem?];simp[hj],E⟩,E⟩)
  have hrl:RdL κ w (xs.map (ev s)) (xs.map a.eval):=Ko xs hops
  have helem:∀ j x,Ei (xs.map (ev s)) j=some x→∃ v,(xs.map a.eval)[j]? = some v∧Rd κ w x v∧v.cells.size=sz∧Ones v.cells.toList:=fun j x hj=>by
   obtain ⟨v,h1,h2⟩:=hrl.get hj
   obtain ⟨c1,c2,c3⟩:=V0 hok hj
   obtain ⟨e1,e2⟩:=h2.cells c1
   exact⟨v,h1,h2,by rw[← c3,← e2.length];simp,e1⟩
  have hsizes:∀ v∈xs.map a.eval,v.cells.size=sz:=fun v hv=>by
   obtain ⟨j,hj,rfl⟩:=List.mem_iff_getElem.1 hv
   obtain ⟨x,hx⟩:=Ou (l:=xs.map (ev s)) (i:=j) (by simpa using hj)
   obtain ⟨v',h1,_,h2,_⟩:=helem j x hx
   rw[List.getElem?_eq_getElem hj]at h1
   simp only[Option.some.injEq]at h1
   rw[h1];exact h2
  generalize hz0:(Array.range (len * sz)).map ((if len * sz=0 then #[] else z.cells)[· % (if len * sz=0 then #[] else z.cells).size]!)=z0
  have hz0s:z0.size=(0+(xs.map a.eval).length) * sz:=by rw[← hz0];simp[hlen]
  obtain ⟨r,r1,r2⟩:=Ag5 sz (xs.map a.eval) 0 z0 hz0s hsizes
  have hfl:r.toList=(xs.map a.eval).flatMap (·.cells.toList):=by rw[r2];simp
  refine⟨.slice (some ⟨w.heap.size,0,none⟩) len len,w.alloc (.cells r et),.row w.heap.size len len,?_,Grew.alloc w _,?_,?_⟩
  ·have hp:(ps.toArray.map fun (p:Nat × Operand)=>(p.1,a.eval p.2)).toList=((xs.map a.eval).zipIdx 0).map fun p=>(p.2,p.1):=by
    rw[hps]
    simp only[List.map_toArray,List.map_map,List.zipIdx_map]
    rfl
   have hbig':¬ (16777216<len * sz):=by omega
   simp only[execOp,h,Sem.run_bind,Instr.buildSlice,run_underlying hu,Result.andThen_ok,sizeOf,typeInfo,run_program,q1,Sem.run_pure,q2]
   rw[if_neg (by simpa using hbig')]
   by_cases h0:len * sz=0
   ·rw[if_pos h0]
    simp only[if_pos h0]at hz0
    simp only[Sem.run_bind,Sem.run_pure,Result.andThen_ok,hz0,hp,r1,newRow,run_newObj]
    rfl
   ·rw[if_neg h0]
    simp only[if_neg h0]at hz0
    simp only[Sem.run_bind,zeroValue,typeInfo,run_program,Result.andThen_ok,q1,Sem.run_pure,q4,hz0,hp,r1,newRow,run_newObj]
    rfl
  ·intro b hb;simp only[Ent.block?,Option.some.injEq]at hb;subst hb;simp
  ·intro st
   refine⟨by simp[Rd,Ar],w.heap.size,len,r.toList,et,(0,0),by simp[Ar,hlen],?_,NoFr.zero _,?_,by simp[hlen],?_⟩
   ·rw[heap_alloc_new]
   ·have:=r2
    have h9:r.toList.length=len * sz:=by
     rw[hfl]
     have:∀ vs:List Value,(∀ v∈vs,v.cells.size=sz)→(vs.flatMap (·.cells.toList)).length=vs.length * sz:=by
      intro vs
      induction vs with
      | nil=>simp
      | cons v vs ih =>
       intro hv
       rw[List.flatMap_cons,List.length_append,ih (fun u hu=>hv u (by simp[hu])),Array.length_toList,hv v y_,List.length_cons,Nat.add_mul,Nat.one_mul]
       omega
     rw[this _ hsizes]
     simp[hlen]
    omega
   ·intro j x hx
    obtain ⟨v,h1,h2,h3,h4⟩:=helem j x hx
    have hj:j<xs.length:=by have:=Xv hx;simpa using this
    obtain ⟨c1,c2,c3⟩:=V0 hok hx
    refine⟨by simpa using hj,v,RdD.keep st.keeps _ _ (Rd.data _ _ c2 h2),h3,h4,fun m hm=>?_⟩
    rw[hfl]
    exact Ag4 _ j m hsizes hm v h1
theorem Yh {α:Type} {e:α→SV} {l:List α} (i:Nat) (h:i<l.length):∃ x,rowF e l i x:=⟨_,h,rfl⟩
inductive AppBase (s:SS) (sz:Nat):SV→Option Nat→Nat→(Nat→SV→Prop)→Prop
 | nil:AppBase s sz (.val (.slice none 0 0)) none 0 (fun _ _=>False)
 | row {k:Nat} {α:Type} {e:α→SV} {l:List α} (h:s.h k=.row sz e l):AppBase s sz (.osl k) (some k) l.length (rowF e l)
 | lit {k:Nat} {l:List SV} (h:s.h k=.lit sz l):AppBase s sz (.osl k) (some k) l.length (Aa0 l)
inductive AppSrc (s:SS) (sz:Nat):SV→List Nat→Nat→(Nat→SV→Prop)→Prop
 | sl {α:Type} {e:α→SV} {l:List α}:AppSrc s sz (.sl sz e l) [] l.length (rowF e l)
 | row {k:Nat} {α:Type} {e:α→SV} {l:List α} (h:s.h k=.row sz e l):AppSrc s sz (.osl k) [k] l.length (rowF e l)
 | lit {k:Nat} {l:List SV} (h:s.h k=.lit sz l):AppSrc s sz (.osl k) [k] l.length (Aa0 l)
 | nil:AppSrc s sz (.val (.slice none 0 0)) [] 0 (fun _ _=>False)
theorem AppBase.base {s:SS} {sz:Nat} {x:SV} {k:Option Nat} {n:Nat} {f:Nat→SV→Prop} (h:AppBase s sz x k n f) {κ:Ka} {w:World} {v:Value} (hr:Rd κ w x v) (ho:∀ j,k=some j→ObOK κ w j (s.h j)):Base κ w v n sz f k:=by
 cases h with
 | nil=>exact⟨hr.val,rfl⟩
 | @row k α e l h =>
  have h1:=ho k rfl
  rw[h]at h1
  rcases h1 with ⟨h2,rfl⟩ | h2
  ·simp only[Rd,h2]at hr
   exact .inl ⟨h2,E,hr⟩
  ·obtain ⟨b,cap,h3,h4⟩:=h2.src Yh
   simp only[Rd,h3]at hr
   exact .inr ⟨h2,Yh,b,cap,h3,hr⟩
 | @lit k l h =>
  have h1:=ho k rfl
  rw[h]at h1
  have h2:RowAt κ w k sz l.length (Aa0 l):=h1
  obtain ⟨b,cap,h3,h4⟩:=h2.src (fun i hi=>Ou hi)
  simp only[Rd,h3]at hr
  exact .inr ⟨h2,fun i hi=>Ou hi,b,cap,h3,hr⟩
theorem AppSrc.src {s:SS} {sz:Nat} {x:SV} {ks:List Nat} {n:Nat} {f:Nat→SV→Prop} (h:AppSrc s sz x ks n f) {κ:Ka} {w:World} {v:Value} (hr:Rd κ w x v) (ho:∀ j∈ks,ObOK κ w j (s.h j)):Src κ w v n sz f:=by
 cases h with
 | sl=>exact hr.src
 | nil=>exact .inl ⟨rfl,fun _ _ h=>h,none,0,hr.val⟩
 | @row k α e l h =>
  have h1:=ho k y_
  rw[h]at h1
  rcases h1 with ⟨h2,rfl⟩ | h2
  ·simp only[Rd,h2]at hr
   exact .inl ⟨rfl,fun i x hx=>(by obtain ⟨h,_⟩:=hx;simp at h),none,0,hr⟩
  ·obtain ⟨b,cap,h3,h4⟩:=h2.src Yh
   simp only[Rd,h3]at hr
   subst hr
   exact h4
 | @lit k l h =>
  have h1:=ho k y_
  rw[h]at h1
  have h2:RowAt κ w k sz l.length (Aa0 l):=h1
  obtain ⟨b,cap,h3,h4⟩:=h2.src (fun i hi=>Ou hi)
  simp only[Rd,h3]at hr
  subst hr
  exact h4
def Mi (k:Option Nat) (d:Nat) (ob:Ob):List (Nat × Ob):=match k with
 | some k=>[(k,.non),(d,ob)]
 | none=>[(d,ob)]
theorem W1 {P:Program} (Γ:Ty P) {o:Oper} {s:SS} {t:TypeId} {ti:TI} {et:TypeId} {sz eb n m:Nat} {ez:List Value} {x y:Operand} {d:Nat} {k:Option Nat} {ks:List Nat} {f g:Nat→SV→Prop} {ob:Ob}
  (h:o.op=.call ⟨.builtin .append,#[x,y],#[t,t]⟩) (hd:s.h d=.fresh) (ht:Γ.get t=some ti) (hk:ti.k=.slice et sz eb ez) (hez:ez.length=sz)
  (hb:AppBase s sz (ev s x) k n f) (hs:AppSrc s sz (ev s y) ks m g) (hkk:∀ j,k=some j→j≠d) (hbytes:(n+m) * eb≤140737488355328) (h63:n+m≤9223372036854775807)
  (hob:∀ κ w,((κ d=.nil∧n+m=0)∨RowAt κ w d sz (n+m) (Ao0 n f g))→ObOK κ w d ob):Good P o s ⟨.osl d,ks,Mi k d ob⟩:=by
 intro κ a w hi hr ho N Q hN
 have h1:=hr x (by simp[h,Op.operands,Call.operands])
 have h2:=hr y (by simp[h,Op.operands,Call.operands])
 have hws:∀ j,j∈(Up.mk (.osl d) ks (Mi k d ob)).ws↔(k=some j∨j=d):=by
  intro j
  cases k<;>simp[Up.ws,Mi,eq_comm]
 have hnew:κ d=.new:=by have:=ho d (.inr ((hws d).2 (.inr rfl)));rwa [hd]at this
 obtain ⟨hu,i,z,q1,q2,q3,q4,q5⟩:=B7 Γ ht hk
 have hzs:z.cells.size=sz:=by rw[← hez,← q5];simp
 obtain ⟨v',w',κ',r1,r2,r3,r4,r5⟩:=Aht (P:=P) (ty:=o.type) hi hu q1 q4 q2 hzs hnew (hb.base h1 (fun j hj=>ho j (.inr ((hws j).2 (.inl hj))))) (hs.src h2 (fun j hj=>ho j (.inl hj))) h63 (by rw[q3];exact hbytes)
 have hrun:(execOp a.eval o).run P w=.ok (.value v') w':=by
  simp[execOp,h,resolve,invoke,builtin,r1]
 simp only[Oper.wp,hrun,Oper.upon]
 refine hN v' κ' w' (r2.weaken (fun j hj=>(hws j).2 hj)) r3 r4 (fun p hp=>?_)
 have hfin:=hob κ' w' r5
 cases k with
 | none =>
  simp only[Mi,List.mem_singleton]at hp
  subst hp
  exact hfin
 | some k =>
  simp only[Mi,List.mem_cons,List.not_mem_nil,or_false]at hp
  rcases hp with rfl | rfl
  ·trivial
  ·exact hfin
theorem Asm {α:Type} {e:α→SV} {l:List α} {κ:Ka} {w:World} {d sz n m:Nat} {f g:Nat→SV→Prop} (h:(κ d=.nil∧n+m=0)∨RowAt κ w d sz (n+m) (Ao0 n f g)) (hl:l.length=n+m)
  (hf:∀ i x,rowF e l i x→Ao0 n f g i x):ObOK κ w d (.row sz e l):=by
 rcases h with ⟨h1,h2⟩ | ⟨b,cap,cs,T,fr,e1,e2,e3,e4,e5,e6⟩
 ·exact .inl ⟨h1,List.eq_nil_of_length_eq_zero q_⟩
 ·exact .inr ⟨b,cap,cs,T,fr,by rw[hl];exact e1,e2,e3,e4,by omega,fun i x hx=>by rw[hl];exact e6 i x (hf i x hx)⟩
theorem Ap8 {α:Type} {e:α→SV} {l m:List α} {f g:Nat→SV→Prop} (h1:∀ i x,rowF e l i x→f i x) (h2:∀ i x,rowF e m i x→g i x) (i:Nat) (x:SV) (h:rowF e (l++m) i x):Ao0 l.length f g i x:=by
 obtain ⟨hi,rfl⟩:=h
 by_cases hl:i<l.length
 ·exact .inl ⟨hl,h1 i _ ⟨hl,by rw[List.getElem_append_left hl]⟩⟩
 ·have hl':l.length≤i:=by omega
  exact .inr ⟨hl',h2 _ _ ⟨by simp at hi;omega,by rw[List.getElem_append_right hl']⟩⟩
theorem getI_map {α:Type} {e:α→SV}:∀ {l:List α} {i:Nat} (h:i<l.length),Ei (l.map e) i=some (e l[i])
 | [],i,h=>by simp at h
 | x::l,0,_=>rfl
 | _::l,i+1,h=>getI_map (l:=l) (i:=i) (by simpa using h)
theorem K8 {α:Type} {e:α→SV} {l:List α} {svs:List SV} (h:l.map e=svs) (i:Nat) (x:SV) (hx:rowF e l i x):Aa0 svs i x:=by
 obtain ⟨hi,rfl⟩:=hx
 subst h
 exact getI_map hi
theorem Bp {P:Program} (Γ:Ty P) {o:Oper} {s:SS} {t:TypeId} {ti:TI} {et:TypeId} {sz eb:Nat} {ez:List Value} {x y:Operand} {d:Nat} {ik ik':IntKind} {n:Nat} {α:Type} (e:α→SV) (z:α)
  (h:o.op=.makeSlice t x y) (hd:s.h d=.fresh) (ht:Γ.get t=some ti) (hk:ti.k=.slice et sz eb ez) (hez:ez.length=sz) (h1:Wq ez=true) (hx:ev s x=.val (.int ik n)) (hy:ev s y=.val (.int ik' n))
  (hbytes:n * eb≤281474976710656) (h63:n≤9223372036854775807) (hz:cellsOf (e z)=ez.map .val) (hzb:(e z).boxed=true) (hzd:(e z).data=true) :
  Good P o s ⟨.osl d,[],[(d,.row sz e (List.replicate n z))]⟩ :=
 Ul hd fun κ a w hi hr _ hn=>by
  have r1:=hr x (by simp[h,Op.operands])
  have r2:=hr y (by simp[h,Op.operands])
  rw[hx]at r1
  rw[hy]at r2
  obtain ⟨hu,i,zv,q1,q2,q3,q4,q5⟩:=B7 Γ ht hk
  have hzs:zv.cells.size=sz:=by rw[← hez,← q5];simp
  have hb':(i.bytes:Int) * (n:Int)≤281474976710656:=by
   have:((i.bytes * n:Nat):Int)≤281474976710656:=by rw[q3,Nat.mul_comm];omega
   rwa [Int.natCast_mul]at this
  have hm:=run_make (P:=P) w t et i zv hu q1 q4 ik ik' n n q_ (Int.le_refl _) hb' q_
  simp only[Int.toNat_natCast]at hm
  refine⟨.slice (some ⟨w.heap.size,0,none⟩) n n,w.alloc (.cells (madeCells zv.cells (n * i.size)) et),.row w.heap.size n n,?_,Grew.alloc w _,?_,?_⟩
  ·simp[execOp,h,r1.val,r2.val,hm]
  ·intro b hb;simp only[Ent.block?,Option.some.injEq]at hb;subst hb;simp
  ·intro st
   refine⟨by simp[Rd,Ar],.inr ⟨w.heap.size,n,(madeCells zv.cells (n * i.size)).toList,et,(0,0),by simp[Ar],?_,NoFr.zero _,?_,by simp,?_⟩⟩
   ·rw[heap_alloc_new]
   ·simp[size_madeCells,q2]
   ·rintro j y ⟨hj,rfl⟩
    have hjn:j<n:=by simpa using hj
    obtain ⟨u,u1,u2⟩:=Rd.of_cells (κ:=C4 κ d (.row w.heap.size n n)) (w:=w.alloc (.cells (madeCells zv.cells (n * i.size)) et)) hzb (Oc h1) (by rw[hz];exact Va _)
    rw[List.getElem_replicate]
    have hus:u.cells.size=sz:=by rw[← Array.length_toList,u2,hez]
    refine⟨by simpa using hjn,u,Rd.data _ _ hzd u1,hus,by rw[u2];exact Oc h1,fun m hm=>?_⟩
    have hlt:j * sz+m<n * sz:=by
     have:(j+1) * sz≤n * sz:=Nat.mul_le_mul_right sz q_
     rw[Nat.add_mul,Nat.one_mul]at this
     omega
    have hmod:(j * sz+m) % zv.cells.size=m:=by rw[hzs,Nat.add_comm,Nat.add_mul_mod_self_right];exact Nat.mod_eq_of_lt hm
    rw[← Array.getElem?_toList,u2,← q5]
    simp only[madeCells,q2,Array.toList_map,Array.toList_range,List.getElem?_map,List.getElem?_range hlt,Option.map_some,hmod]
    rw[Array.getElem?_toList,Array.getElem?_eq_getElem q_]
    simp[hzs,hm]
theorem Ap0 {κ:Ka} {w:World} {sz:Nat} {α:Type} {e:α→SV} {l:List α} {lo hi:Nat} {ad:Option Addr} {cap:Nat} (h:Rd κ w (.sl sz e l) (.slice ad l.length cap)) (h1:lo≤hi) (h2:hi≤l.length) :
  Rd κ w (.sl sz e ((l.take hi).drop lo)) (.slice (if cap=lo then ad else ad.map (·.add (lo * sz))) (hi-lo) (cap-lo)):=by
 simp only[Rd,RdD]at h ⊢
 by_cases he:lo=hi
 ·subst he
  exact .inl ⟨by rw[List.drop_eq_nil_iff];simp;omega,if cap=lo then ad else ad.map (·.add (lo * sz)),cap-lo,by simp⟩
 ·rcases h with ⟨rfl,_⟩ | ⟨b,off,cap',h3,h0,h4,h5,h6⟩
  ·simp at h2;omega
  ·cases h3
   have hml:cap≠lo:=by omega
   refine .inr ⟨b,off+lo * sz,cap-lo,?_,by simp;omega,h4,h5,fun i hi'=>?_⟩
   ·rw[if_neg hml]
    simp only[Option.map_some,Addr.add_lit]
    congr 1
    simp;omega
   ·have hlt:lo+i<l.length:=by simp at hi';omega
    obtain ⟨u,h7,h8⟩:=h6 (lo+i) hlt
    refine⟨u,?_,?_⟩
    ·rw[List.getElem_drop,List.getElem_take];exact h7
    ·rw[show off+lo * sz+i * sz=off+(lo+i) * sz from by rw[Nat.add_mul];omega];exact h8
theorem Ha {P:Program} (w:World) {len cap lo hi:Nat} {lo' hi':Option Value} (hlo:lo'=none∧lo=0∨∃ k,lo'=some (.int k lo)) (hhi:hi'=none∧hi=len∨∃ k,hi'=some (.int k hi)) (h1:lo≤hi) (h2:hi≤cap) :
  (Instr.sliceBounds true len cap lo' hi' none).run P w=.ok (lo,hi,cap) w:=by
 rcases hlo with ⟨rfl,rfl⟩ | ⟨k,rfl⟩<;>rcases hhi with ⟨rfl,rfl⟩ | ⟨k',rfl⟩<;>simp[Instr.sliceBounds,Instr.sliceBound,asIntOf,h1,h2]
theorem cap_ge {κ:Ka} {w:World} {sz:Nat} {α:Type} {e:α→SV} {l:List α} {v:Value} (h:Rd κ w (.sl sz e l) v):∃ ad cap,v=.slice ad l.length cap∧l.length≤cap:=by
 simp only[Rd,RdD]at h
 rcases h with ⟨rfl,ad,cap,h⟩ | ⟨b,off,cap,h,h0,_⟩
 ·exact⟨ad,cap,h,Nat.zero_le _⟩
 ·exact⟨_,cap,h,h0⟩
def BoundIs (s:SS) (x:Option Operand) (dflt n:Nat):Prop:=(x=none∧n=dflt)∨∃ y k,x=some y∧ev s y=.val (.int k n)
theorem BoundIs.val {κ:Ka} {w:World} {s:SS} {a:Act} {x:Option Operand} {dflt n:Nat} (h:BoundIs s x dflt n) (hr:∀ y,x=some y→Rd κ w (ev s y) (a.eval y)):(x.map a.eval=none∧n=dflt)∨∃ k,x.map a.eval=some (.int k n):=by
 rcases h with ⟨rfl,h⟩ | ⟨y,k,rfl,h⟩
 ·exact .inl ⟨E,h⟩
 ·have:=hr y rfl
  rw[h]at this
  exact .inr ⟨k,by simp[this.val]⟩
theorem Cs {P:Program} (Γ:Ty P) {o:Oper} {s:SS} {t:TypeId} {ti:TI} {et:TypeId} {sz eb lo hi:Nat} {ez:List Value} {x:Operand} {lx hx:Option Operand} {α:Type} {e:α→SV} {l:List α}
  (h:o.op=.slice t x lx hx none) (ht:Γ.get t=some ti) (hk:ti.k=.slice et sz eb ez) (hxe:ev s x=.sl sz e l) (hlo:BoundIs s lx 0 lo) (hhi:BoundIs s hx l.length hi) (h1:lo≤hi) (h2:hi≤l.length) :
  Good P o s ⟨.sl sz e ((l.take hi).drop lo),[],[]⟩ :=
 Good.pure fun κ a w _ hr _=>by
  have r1:=hr x (by simp[h,Op.operands])
  rw[hxe]at r1
  obtain ⟨hu,i,zv,q1,q2,q3,q4,q5⟩:=B7 Γ ht hk
  obtain ⟨ad,cap,e1,e2⟩:=cap_ge r1
  have b1:=hlo.val (a:=a) (fun y hy=>hr y (by simp[h,Op.operands,hy]))
  have b2:=hhi.val (a:=a) (fun y hy=>hr y (by simp[h,Op.operands,hy]))
  rw[e1]at r1
  have hb:=Ha (P:=P) w (len:=l.length) (cap:=cap) b1 b2 h1 q_
  refine⟨_,?_,Ap0 r1 h1 h2⟩
  simp[execOp,h,e1,Instr.sliceAt,Instr.slice,run_underlying hu,hb,sizeOf,typeInfo,q1,q2]
theorem Uk {P:Program} (Γ:Ty P) {o:Oper} {s:SS} {t:TypeId} {ti:TI} {lo hi:Nat} {x:Operand} {lx hx:Option Operand} {b:ByteArray}
  (h:o.op=.slice t x lx hx none) (ht:Γ.get t=some ti) (hk:ti.k=.string) (hxe:ev s x=.val (.string b)) (hlo:BoundIs s lx 0 lo) (hhi:BoundIs s hx b.size hi) (h1:lo≤hi) (h2:hi≤b.size) :
  Good P o s ⟨.val (.string (b.extract lo hi)),[],[]⟩ :=
 Good.pure fun κ a w _ hr _=>by
  have r1:=hr x (by simp[h,Op.operands])
  rw[hxe]at r1
  obtain ⟨d,info,z,k1,k2,k3,k4,k5,k6⟩:=Γ.ok t ti ht
  rw[hk]at k2
  simp only[TK.ok]at k2
  subst k2
  have b1:=hlo.val (a:=a) (fun y hy=>hr y (by simp[h,Op.operands,hy]))
  have b2:=hhi.val (a:=a) (fun y hy=>hr y (by simp[h,Op.operands,hy]))
  have hb:(Instr.sliceBounds false b.size b.size (lx.map a.eval) (hx.map a.eval) none).run P w=.ok (lo,hi,b.size) w:=by
   rcases b1 with ⟨c1,rfl⟩ | ⟨k,c1⟩<;>rcases b2 with ⟨c2,rfl⟩ | ⟨k',c2⟩<;>rw[c1,c2]<;>simp[Instr.sliceBounds,Instr.sliceBound,asIntOf,h1,h2]
  refine⟨.string (b.extract lo hi),?_,by simp only[Rd]⟩
  simp[execOp,h,r1.val,Instr.sliceAt,Instr.slice,run_underlying k1,hb]
theorem Zj {P:Program} (Γ:Ty P) {o:Oper} {s:SS} {t:TypeId} {ti:TI} {et:TypeId} {sz eb hi k d:Nat} {ez:List Value} {x:Operand} {lx hx:Option Operand} {α:Type} {e:α→SV} {l:List α}
  (h:o.op=.slice t x lx hx none) (hd:s.h d=.fresh) (ht:Γ.get t=some ti) (hk:ti.k=.slice et sz eb ez) (hxe:ev s x=.osl k) (hkd:k≠d) (hrow:s.h k=.row sz e l) (hlo:BoundIs s lx 0 0) (hhi:BoundIs s hx l.length hi) (h2:hi≤l.length) :
  Good P o s ⟨.osl d,[],[(k,.non),(d,.row sz e (l.take hi))]⟩:=by
 intro κ a w hinv hr ho N Q hN
 have r1:=hr x (by simp[h,Op.operands])
 rw[hxe]at r1
 obtain ⟨hu,i,zv,q1,q2,q3,q4,q5⟩:=B7 Γ ht hk
 have hnew:κ d=.new:=by have:=ho d (.inr (by simp[Up.ws]));rwa [hd]at this
 have hob:=ho k (.inr (by simp[Up.ws]))
 rw[hrow]at hob
 have b1:=hlo.val (a:=a) (fun y hy=>hr y (by simp[h,Op.operands,hy]))
 have b2:=hhi.val (a:=a) (fun y hy=>hr y (by simp[h,Op.operands,hy]))
 rcases hob with ⟨e1,rfl⟩ | ⟨b,cap,cs,T,fr,e1,e2,e3,e4,e5,e6⟩
 ·simp only[Rd,e1]at r1
  have hhi0:hi=0:=by simpa using h2
  subst hhi0
  have hb:=Ha (P:=P) w (len:=0) (cap:=0) (hi:=0) (hi':=hx.map a.eval) b1 b2 (Nat.le_refl _) (Nat.le_refl _)
  have hrun:(execOp a.eval o).run P w=.ok (.value (.slice none 0 0)) w:=by
   simp[execOp,h,r1,Instr.sliceAt,Instr.slice,run_underlying hu,hb,sizeOf,typeInfo,q1]
  have st:=Hu (Iu hinv (some k)) (by show C4 κ k .dead d=.new;rw[Bt _ _ (Ne.symm hkd)];exact hnew) (e:=.nil) (Grew.refl w) (fun b hb=>by cases hb)
  simp only[Oper.wp,hrun,Oper.upon]
  refine hN _ _ w ((((Hl (some k)).weaken (fun j hj=>by simp only[Option.some.injEq]at hj;subst hj;simp[Up.ws])).trans (st.1.weaken (fun j hj=>by subst hj;simp[Up.ws])))) st.2 (by simp[Rd,Ar]) (fun p hp=>?_)
  simp only[List.mem_cons,List.not_mem_nil,or_false]at hp
  rcases hp with rfl | rfl
  ·trivial
  ·exact .inl ⟨Ar _ _ _,by simp⟩
 ·simp only[Rd,e1]at r1
  have hb:=Ha (P:=P) w (len:=l.length) (cap:=cap) b1 b2 (Nat.zero_le _) q_
  have hrun:(execOp a.eval o).run P w=.ok (.value (.slice (some ⟨b,0,none⟩) hi cap)) w:=by
   simp only[execOp,h,r1,Instr.sliceAt,Instr.slice,Sem.run_bind,run_underlying hu,Result.andThen_ok,Option.map_none,hb,sizeOf,typeInfo,run_program,q1,Sem.run_pure]
   by_cases hc:cap=0<;>simp[hc,Addr.add]
  obtain ⟨st,inv⟩:=K5 (n':=hi) (w':=w) hinv e1 hnew rfl rfl rfl rfl (fun _ _=>rfl)
  simp only[Oper.wp,hrun,Oper.upon]
  refine hN _ _ w (st.weaken (fun j hj=>by rcases hj with rfl | rfl<;>simp[Up.ws])) inv (by simp[Rd,Ar]) (fun p hp=>?_)
  simp only[List.mem_cons,List.not_mem_nil,or_false]at hp
  rcases hp with rfl | rfl
  ·trivial
  ·have hlen:(l.take hi).length=hi:=by simp;omega
   refine .inr ⟨b,cap,cs,T,fr,by rw[hlen];exact Ar _ _ _,e2,e3,e4,by omega,fun i x hx=>?_⟩
   obtain ⟨hi',rfl⟩:=hx
   have hil:i<l.length:=by simp at hi';omega
   obtain ⟨h0,u,u1,u2⟩:=e6 i (e l[i]) ⟨hil,rfl⟩
   refine⟨by simpa using hi',u,?_,u2⟩
   rw[List.getElem_take]
   exact RdD.keep st.keeps _ _ u1
theorem Ix {P:Program} {o:Oper} {s:SS} {op:BinOp} {t yt:TypeId} {x y:Operand} {m n:ByteArray} {u:Value} (h:o.op=.binOp op t x y yt) (hop:op≠.shl∧op≠.shr)
  (hx:ev s x=.val (.string m)) (hy:ev s y=.val (.string n)) (hr:∀ w,(Op.stringOp op m n).run P w=.ok u w):Good P o s ⟨.val u,[],[]⟩ :=
 Good.pure fun κ a w _ hrd _=>by
  have h1:=hrd x (by simp[h,Op.operands])
  have h2:=hrd y (by simp[h,Op.operands])
  rw[hx]at h1
  rw[hy]at h2
  refine⟨u,?_,by simp[Rd]⟩
  have hb:binOp op t (.string m) (.string n)=Op.stringOp op m n:=by cases op<;>simp[binOp]at hop ⊢
  simp[execOp,h,h1.val,h2.val,eqGuard_at_string,hb,hr]
mutual
def SV.ren (ρ:Nat→Nat):SV→SV
 | .ptr k o=>.ptr (ρ k) o
 | .rpt k sz i o=>.rpt (ρ k) sz i o
 | .osl k=>.osl (ρ k)
 | .agg l=>.agg (Ie ρ l)
 | .tup l=>.tup (Ie ρ l)
 | .ifc t x=>.ifc t (x.ren ρ)
 | .clo fn f l=>.clo fn (Ie ρ f) (Ie ρ l)
 | .top=>.top
 | .val v=>.val v
 | .sl sz e l=>.sl sz e l
 | .ref sz x o=>.ref sz x o
def Ie (ρ:Nat→Nat):List SV→List SV
 | []=>[]
 | x::l=>x.ren ρ::Ie ρ l
end
def Le (K:List Nat) (k:Nat):Bool:=match K with
 | []=>false
 | x::l=>Nat.beq x k || Le l k
theorem memN_iff {K:List Nat} {k:Nat}:Le K k=true↔k∈K:=by
 induction K with
 | nil=>simp[Le]
 | cons x l ih =>
  have hb:Nat.beq x k=true↔x=k:=⟨Nat.eq_of_beq_eq_true,fun h=>by subst h;simp⟩
  simp only[Le,Bool.or_eq_true,List.mem_cons,ih,hb]
  constructor
  ·rintro (h | h)
   ·exact .inl h.symm
   ·exact .inr h
  ·rintro (h | h)
   ·exact .inl h.symm
   ·exact .inr h
mutual
def SV.inn (K:List Nat):SV→Bool
 | .ptr k _=>Le K k
 | .rpt k _ _ _=>Le K k
 | .osl k=>Le K k
 | .agg l=>By K l
 | .tup l=>By K l
 | .ifc _ x=>x.inn K
 | .clo _ f l=>By K f && By K l
 | _=>true
def By (K:List Nat):List SV→Bool
 | []=>true
 | x::l=>x.inn K && By K l
end
def Ob.ren (ρ:Nat→Nat):Ob→Ob
 | .box l=>.box (Ie ρ l)
 | .rown sz e l i cl=>.rown sz e l i (Ie ρ cl)
 | .tbox T l=>.tbox T (Ie ρ l)
 | o=>o
def Ob.inn (K:List Nat):Ob→Bool
 | .box l=>By K l
 | .rown _ _ _ _ cl=>By K cl
 | .tbox _ l=>By K l
 | _=>true
structure Ren (ρ:Nat→Nat) (K:List Nat) (κ κ₂:Ka):Prop where
 ent:∀ k,k∈K→κ₂ k=κ (ρ k)
mutual
theorem Rd.unren {ρ:Nat→Nat} {K:List Nat} {κ κ₂:Ka} {w:World} (r:Ren ρ K κ κ₂) (ho:∀ b,b<w.heap.size→¬ Own κ b→¬ Own κ₂ b):∀ (x:SV) (v:Value),x.inn K=true→Rd κ w (x.ren ρ) v→Rd κ₂ w x v
 | .top,_,_,_=>by simp[Rd]
 | .val u,v,_,h=>by simpa [Rd,SV.ren] using h
 | .agg l,v,hi,h=>by
  simp only[Rd,SV.ren,SV.inn]at h hi ⊢
  obtain ⟨cs,h1,h0,h2⟩:=h
  exact⟨cs,h1,h0,RdL.unren r ho l cs hi h2⟩
 | .tup l,v,hi,h=>by
  simp only[Rd,SV.ren,SV.inn]at h hi ⊢
  obtain ⟨cs,h1,h2⟩:=h
  exact⟨cs,h1,RdL.unren r ho l cs hi h2⟩
 | .sl sz e l,v,_,h=>by
  simp only[Rd,SV.ren]at h ⊢
  exact RdD.keep ⟨Nat.le_refl _,fun _ _ _=>rfl,ho⟩ _ _ h
 | .ref sz x off,v,_,h=>by
  simp only[Rd,SV.ren]at h ⊢
  exact RdD.keep ⟨Nat.le_refl _,fun _ _ _=>rfl,ho⟩ _ _ h
 | .ptr k off,v,hi,h=>by
  simp only[Rd,SV.ren,SV.inn]at h hi ⊢
  rw[r.ent k (memN_iff.1 hi)];exact h
 | .rpt k sz i off,v,hi,h=>by
  simp only[Rd,SV.ren,SV.inn]at h hi ⊢
  rw[r.ent k (memN_iff.1 hi)];exact h
 | .osl k,v,hi,h=>by
  simp only[Rd,SV.ren,SV.inn]at h hi ⊢
  rw[r.ent k (memN_iff.1 hi)];exact h
 | .ifc t x,v,hi,h=>by
  simp only[Rd,SV.ren,SV.inn]at h hi ⊢
  obtain ⟨u,h1,h2⟩:=h
  exact⟨u,h1,Rd.unren r ho x u hi h2⟩
 | .clo fn first cap,v,hi,h=>by
  simp only[Rd,SV.ren,SV.inn,Bool.and_eq_true]at h hi ⊢
  obtain ⟨fs,cs,h1,h2,h3⟩:=h
  exact⟨fs,cs,h1,RdL.unren r ho first fs hi.1 h2,RdL.unren r ho cap cs hi.2 h3⟩
theorem RdL.unren {ρ:Nat→Nat} {K:List Nat} {κ κ₂:Ka} {w:World} (r:Ren ρ K κ κ₂) (ho:∀ b,b<w.heap.size→¬ Own κ b→¬ Own κ₂ b):∀ (l:List SV) (vs:List Value),By K l=true→RdL κ w (Ie ρ l) vs→RdL κ₂ w l vs
 | [],_,_,h=>by simpa [RdL,Ie] using h
 | x::l,vs,hi,h=>by
  simp only[RdL,Ie,By,Bool.and_eq_true]at h hi ⊢
  obtain ⟨v,q,h1,h2,h3⟩:=h
  exact⟨v,q,h1,Rd.unren r ho x v hi.1 h2,RdL.unren r ho l q hi.2 h3⟩
end
mutual
theorem Rd.ren {ρ:Nat→Nat} {K:List Nat} {κ κ₂:Ka} {w:World} (r:Ren ρ K κ κ₂) (ho:∀ b,b<w.heap.size→¬ Own κ₂ b→¬ Own κ b):∀ (x:SV) (v:Value),x.inn K=true→Rd κ₂ w x v→Rd κ w (x.ren ρ) v
 | .top,_,_,_=>by simp[Rd,SV.ren]
 | .val u,v,_,h=>by simpa [Rd,SV.ren] using h
 | .agg l,v,hi,h=>by
  simp only[Rd,SV.ren,SV.inn]at h hi ⊢
  obtain ⟨cs,h1,h0,h2⟩:=h
  exact⟨cs,h1,h0,RdL.ren r ho l cs hi h2⟩
 | .tup l,v,hi,h=>by
  simp only[Rd,SV.ren,SV.inn]at h hi ⊢
  obtain ⟨cs,h1,h2⟩:=h
  exact⟨cs,h1,RdL.ren r ho l cs hi h2⟩
 | .sl sz e l,v,_,h=>by
  simp only[Rd,SV.ren]at h ⊢
  exact RdD.keep ⟨Nat.le_refl _,fun _ _ _=>rfl,ho⟩ _ _ h
 | .ref sz x off,v,_,h=>by
  simp only[Rd,SV.ren]at h ⊢
  exact RdD.keep ⟨Nat.le_refl _,fun _ _ _=>rfl,ho⟩ _ _ h
 | .ptr k off,v,hi,h=>by
  simp only[Rd,SV.ren,SV.inn]at h hi ⊢
  rw[← r.ent k (memN_iff.1 hi)];exact h
 | .rpt k sz i off,v,hi,h=>by
  simp only[Rd,SV.ren,SV.inn]at h hi ⊢
  rw[← r.ent k (memN_iff.1 hi)];exact h
 | .osl k,v,hi,h=>by
  simp only[Rd,SV.ren,SV.inn]at h hi ⊢
  rw[← r.ent k (memN_iff.1 hi)];exact h
 | .ifc t x,v,hi,h=>by
  simp only[Rd,SV.ren,SV.inn]at h hi ⊢
  obtain ⟨u,h1,h2⟩:=h
  exact⟨u,h1,Rd.ren r ho x u hi h2⟩
 | .clo fn first cap,v,hi,h=>by
  simp only[Rd,SV.ren,SV.inn,Bool.and_eq_true]at h hi ⊢
  obtain ⟨fs,cs,h1,h2,h3⟩:=h
  exact⟨fs,cs,h1,RdL.ren r ho first fs hi.1 h2,RdL.ren r ho cap cs hi.2 h3⟩
theorem RdL.ren {ρ:Nat→Nat} {K:List Nat} {κ κ₂:Ka} {w:World} (r:Ren ρ K κ κ₂) (ho:∀ b,b<w.heap.size→¬ Own κ₂ b→¬ Own κ b):∀ (l:List SV) (vs:List Value),By K l=true→RdL κ₂ w l vs→RdL κ w (Ie ρ l) vs
 | [],_,_,h=>by simpa [RdL,Ie] using h
 | x::l,vs,hi,h=>by
  simp only[RdL,Ie,By,Bool.and_eq_true]at h hi ⊢
  obtain ⟨v,q,h1,h2,h3⟩:=h
  exact⟨v,q,h1,Rd.ren r ho x v hi.1 h2,RdL.ren r ho l q hi.2 h3⟩
end
theorem RowAt.own {κ κ₂:Ka} {w:World} {k k₂ sz n:Nat} {f:Nat→SV→Prop} (h:RowAt κ w k sz n f) (he:κ₂ k₂=κ k) (ho:∀ b,b<w.heap.size→¬ Own κ b→¬ Own κ₂ b):RowAt κ₂ w k₂ sz n f:=by
 obtain ⟨b,cap,cs,T,fr,h1,h2,h3,h4,h5,h6⟩:=h
 refine⟨b,cap,cs,T,fr,he.trans h1,h2,h3,h4,h5,fun i x hi=>?_⟩
 obtain ⟨h0,u,h7,h8⟩:=h6 i x hi
 exact⟨h0,u,RdD.keep ⟨Nat.le_refl _,fun _ _ _=>rfl,ho⟩ _ _ h7,h8⟩
theorem ObOK.unren {ρ:Nat→Nat} {K:List Nat} {κ κ₂:Ka} {w:World} (r:Ren ρ K κ κ₂) (ho:∀ b,b<w.heap.size→¬ Own κ b→¬ Own κ₂ b) {k:Nat} (hk:k∈K):∀ {o:Ob},o.inn K=true→ObOK κ w (ρ k) (o.ren ρ)→ObOK κ₂ w k o
 | .fresh,_,h=>(r.ent k hk).trans h
 | .non,_,_=>trivial
 | .box l,hi,h=>by
  obtain ⟨b,cs,T,fr,h1,h2,h3,h4,h5⟩:=h
  exact⟨b,cs,T,fr,(r.ent k hk).trans h1,h2,h3,h4,RdL.unren r ho l cs hi h5⟩
 | .tbox T l,hi,h=>by
  obtain ⟨b,cs,fr,h1,h2,h3,h4,h5⟩:=h
  exact⟨b,cs,fr,(r.ent k hk).trans h1,h2,h3,h4,RdL.unren r ho l cs hi h5⟩
 | .row sz e l,_,h=>h.imp (fun h=>⟨(r.ent k hk).trans h.1,h.2⟩) (fun h=>h.own (r.ent k hk) ho)
 | .lit sz l,_,h=>RowAt.own h (r.ent k hk) ho
 | .pin b n cap sz e l,_,h=>⟨(r.ent k hk).trans h.1,RowAt.own h.2 (r.ent k hk) ho⟩
 | .glob sz x g,_,h=>by
  simp only[Ob.ren,ObOK,Rd]at h ⊢
  exact RdD.keep ⟨Nat.le_refl _,fun _ _ _=>rfl,ho⟩ _ _ h
 | .dat v sz e l,_,h=>by
  simp only[Ob.ren,ObOK,Rd]at h ⊢
  exact RdD.keep ⟨Nat.le_refl _,fun _ _ _=>rfl,ho⟩ _ _ h
 | .rown sz e l i cl,hi,h=>by
  obtain ⟨b,cap,cs,T,fr,h1,h2,h3,h4,h5,h6,h7,us,u1,u2,u3,u4⟩:=h
  refine⟨b,cap,cs,T,fr,(r.ent k hk).trans h1,h2,h3,h4,h5,fun j x hj hx=>?_,h7,us,u1,u2,RdL.unren r ho cl us hi u3,u4⟩
  obtain ⟨g0,u,g7,g8⟩:=h6 j x hj hx
  exact⟨g0,u,RdD.keep ⟨Nat.le_refl _,fun _ _ _=>rfl,ho⟩ _ _ g7,g8⟩
theorem ObOK.ren {ρ:Nat→Nat} {K:List Nat} {κ κ₂:Ka} {w:World} (r:Ren ρ K κ κ₂) (ho:∀ b,b<w.heap.size→¬ Own κ₂ b→¬ Own κ b) {k:Nat} (hk:k∈K):∀ {o:Ob},o.inn K=true→ObOK κ₂ w k o→ObOK κ w (ρ k) (o.ren ρ)
 | .fresh,_,h=>(r.ent k hk).symm.trans h
 | .non,_,_=>trivial
 | .box l,hi,h=>by
  obtain ⟨b,cs,T,fr,h1,h2,h3,h4,h5⟩:=h
  exact⟨b,cs,T,fr,(r.ent k hk).symm.trans h1,h2,h3,h4,RdL.ren r ho l cs hi h5⟩
 | .tbox T l,hi,h=>by
  obtain ⟨b,cs,fr,h1,h2,h3,h4,h5⟩:=h
  exact⟨b,cs,fr,(r.ent k hk).symm.trans h1,h2,h3,h4,RdL.ren r ho l cs hi h5⟩
 | .row sz e l,_,h=>h.imp (fun h=>⟨(r.ent k hk).symm.trans h.1,h.2⟩) (fun h=>h.own (r.ent k hk).symm ho)
 | .lit sz l,_,h=>RowAt.own h (r.ent k hk).symm ho
 | .pin b n cap sz e l,_,h=>⟨(r.ent k hk).symm.trans h.1,RowAt.own h.2 (r.ent k hk).symm ho⟩
 | .glob sz x g,_,h=>by
  simp only[Ob.ren,ObOK,Rd]at h ⊢
  exact RdD.keep ⟨Nat.le_refl _,fun _ _ _=>rfl,ho⟩ _ _ h
 | .dat v sz e l,_,h=>by
  simp only[Ob.ren,ObOK,Rd]at h ⊢
  exact RdD.keep ⟨Nat.le_refl _,fun _ _ _=>rfl,ho⟩ _ _ h
 | .rown sz e l i cl,hi,h=>by
  obtain ⟨b,cap,cs,T,fr,h1,h2,h3,h4,h5,h6,h7,us,u1,u2,u3,u4⟩:=h
  refine⟨b,cap,cs,T,fr,((r.ent k hk).symm).trans h1,h2,h3,h4,h5,fun j x hj hx=>?_,h7,us,u1,u2,RdL.ren r ho cl us hi u3,u4⟩
  obtain ⟨g0,u,g7,g8⟩:=h6 j x hj hx
  exact⟨g0,u,RdD.keep ⟨Nat.le_refl _,fun _ _ _=>rfl,ho⟩ _ _ g7,g8⟩
abbrev Obs:=List (Nat × Ob)
def Obs.keys (H:Obs):List Nat:=H.map (·.1)
def Obs.ok (κ:Ka) (w:World) (H:Obs):Prop:=∀ p∈H,ObOK κ w p.1 p.2
def Spec (P:Program) (f:FuncId) (A:List SV) (H:Obs) (R:SV) (H':Obs):Prop :=
 ∀ (κ:Ka) (w:World) (vs:List Value),Inv κ w→(∀ k,κ k≠.new→k∈H.keys)→RdL κ w A vs→H.ok κ w →
  Calls P f vs.toArray w fun e w'=>∃ v κ',e=.returned v∧Ctx ⟨w,κ,[]⟩ κ' w'∧Inv κ' w'∧Rd κ' w' R v∧H'.ok κ' w'
inductive KI
 | code (c:Code)
 | ops (all:Array Oper) (rest:List Oper)
 | blk (id:Nat)
 | inv (I:Act→World→Prop)
 | scp
def den (P:Program) (B:Exit→Act→World→Prop):List KI→Exit→Act→World→Prop
 | []=>B
 | .code c::k=>Exit.then (c.wp P (den P B k)) (den P B k)
 | .ops all rest::k=>Exit.then (wpList P all (den P B k) rest) (den P B k)
 | .blk id::k=>Exit.inBlock id (den P B k)
 | .inv I::k=>Exit.then I (den P B k)
 | .scp::k=>Exit.noGoto (den P B k)
structure Cx where
 P:Program
 Γ:Ty P
 F:Fr
 n:Nat
 B:Exit→Act→World→Prop
 bn:List Nat
 hbn:∀ k,F.k0 k≠.new→k∈bn
def G (C:Cx) (k:List KI) (s:SS):Prop:=∀ κ a w,St C.F C.n s κ a w→den C.P C.B k .normal a w
theorem St.ev {F:Fr} {n:Nat} {s:SS} {κ:Ka} {a:Act} {w:World} (h:St F n s κ a w) (x:Operand):Rd κ w (ev s x) (a.eval x):=by
 cases x with
 | tmp t=>exact h.slot t
 | const v=>simp[Sy.ev,Act.eval,Rd]
 | global g=>simp[Sy.ev,Act.eval,Rd]
 | func f=>simp only[Sy.ev,Act.eval,Rd];exact⟨[],[],rfl,by simp[RdL],by simp[RdL]⟩
def M0 (h:Nat→Ob):List (Nat × Ob)→Nat→Ob
 | []=>h
 | (k,o)::r=>M0 (upd h k o) r
def SS.upd (s:SS) (dst:Option Nat) (U:Up):SS:=⟨match dst with | some d=>Sy.upd s.σ d U.v | none=>s.σ,M0 s.h U.objs⟩
theorem X4 {h:Nat→Ob}:∀ {l:List (Nat × Ob)} {k:Nat},k∉l.map (·.1)→M0 h l k=h k
 | [],k,_=>rfl
 | (j,o)::r,k,hk=>by
  simp only[List.map_cons,List.mem_cons,not_or]at hk
  rw[M0,X4 hk.2,B6 _ _ hk.1]
theorem Acx {κ:Ka} {w:World}:∀ (l:List (Nat × Ob)) (h:Nat→Ob) (k:Nat),(∀ p∈l,ObOK κ w p.1 p.2)→(k∉l.map (·.1)→ObOK κ w k (h k))→ObOK κ w k (M0 h l k)
 | [],h,k,_,h2=>h2 y_
 | (j,o)::r,h,k,h1,h2=>by
  refine Acx r (Sy.upd h j o) k (fun p hp=>h1 p (by simp[hp])) (fun hk=>?_)
  by_cases hj:k=j
  ·subst hj;rw[Bi];exact h1 (k,o) y_
  ·rw[B6 _ _ hj];exact h2 (by simp[hj];simpa using hk)
theorem St.put {F:Fr} {n:Nat} {s:SS} {κ κ':Ka} {a:Act} {w w':World} (h:St F n s κ a w) {dst:Option Nat} {U:Up} {v:Value} (hd:∀ d,dst=some d→d<n)
  (st:Step (·∈U.ws) κ w κ' w') (hi:Inv κ' w') (hv:Rd κ' w' U.v v) (ho:∀ x∈U.objs,ObOK κ' w' x.1 x.2):St F n (s.upd dst U) κ' (a.put dst v) w' where
 defers:=by cases dst<;>exact h.defers
 size:=by cases dst<;>simp[Act.put,h.size]
 inv:=hi
 ctx:=h.ctx.step hi st
 slot i:=by
  cases dst with
  | none=>exact Rd.step st _ _ (h.slot i)
  | some d =>
   have hlt:=hd d rfl
   by_cases hi':i=d
   ·subst hi'
    simp only[SS.upd,Bi,Act.put]
    have hs:i<a.tmps.size:=by rw[h.size];exact hlt
    simpa [hs] using hv
   ·simp only[SS.upd,B6 _ _ hi',Act.put]
    have:(a.tmps.setIfInBounds d v).getD i undef=a.tmps.getD i undef:=by
     simp[Array.getElem?_setIfInBounds_ne (Ne.symm hi')]
    rw[this]
    exact Rd.step st _ _ (h.slot i)
 obj k:=Acx _ _ _ ho (fun hk=>ObOK.step st hk _ (h.obj k))
end Go.Sy
namespace Go.Sy
variable {C:Cx} {k:List KI} {s:SS}
theorem G_seq {x y:Code} (h:G C (.code x::.code y::k) s):G C (.code (.seq x y)::k) s:=fun κ a w hs=>wp_seq (h κ a w hs)
theorem G_skip (h:G C k s):G C (.code .skip::k) s:=fun κ a w hs=>wp_skip (h κ a w hs)
theorem Au0 {id:Nat} {c:Code} (h:G C (.code c::.blk id::k) s):G C (.code (.block id c)::k) s:=fun κ a w hs=>wp_block (h κ a w hs)
theorem G_blk {id:Nat} (h:G C k s):G C (.blk id::k) s:=fun κ a w hs=>h κ a w hs
theorem Auy {c:Code} (h:G C (.code c::.scp::k) s):G C (.code (.scope c)::k) s:=fun κ a w hs=>wp_scope_straight (h κ a w hs)
theorem G_scp (h:G C k s):G C (.scp::k) s:=fun κ a w hs=>h κ a w hs
theorem Auz {l:Nat} (h:G C k s):G C (.code (.label l)::k) s:=fun κ a w hs=>wp_label (h κ a w hs)
theorem G_nil (h:∀ κ a w,St C.F C.n s κ a w→C.B .normal a w):G C [] s:=fun κ a w hs=>h κ a w hs
theorem G_cond {c:Operand} {x y:Code} {b:Bool} (hc:ev s c=.val (.bool b)) (ht:b=true→G C (.code x::k) s) (hf:b=false→G C (.code y::k) s):G C (.code (.cond c x y)::k) s:=fun κ a w hs=>by
 have h:=hs.ev c
 rw[hc]at h
 exact wp_cond_split h.val (fun hb=>ht hb κ a w hs) (fun hb=>hf hb κ a w hs)
def Sf (id:Nat):List KI→Option (List KI)
 | []=>none
 | .blk i::k=>bif Nat.beq i id then some k else Sf id k
 | .code _::k=>Sf id k
 | .ops _ _::k=>Sf id k
 | .inv _::k=>Sf id k
 | .scp::k=>Sf id k
theorem Ll {P:Program} {B:Exit→Act→World→Prop} {id:Nat} {a:Act} {w:World}:∀ {k k':List KI},Sf id k=some k'→den P B k' .normal a w→den P B k (.exit id) a w
 | [],k',h,_=>by simp[Sf]at h
 | .blk i::k,k',h,hd=>by
  simp only[Sf,Bool.cond_eq_ite]at h
  split at h
  ·rename_i hb
   have:=Nat.eq_of_beq_eq_true hb
   subst this
   simp only[Option.some.injEq]at h
   subst h
   simp only[den,Exit.inBlock,if_true]
   exact hd
  ·rename_i hb
   have hne:id≠i:=fun e=>hb (by subst e;simp)
   simp only[den,Exit.inBlock,if_neg hne]
   exact Ll h hd
 | .code _::k,k',h,hd=>Ll (k:=k) h hd
 | .ops _ _::k,k',h,hd=>Ll (k:=k) h hd
 | .inv _::k,k',h,hd=>Ll (k:=k) h hd
 | .scp::k,k',h,hd=>Ll (k:=k) h hd
theorem G_exit {id:Nat} {k':List KI} (h:Sf id k=some k') (hg:G C k' s):G C (.code (.exit id)::k) s:=fun κ a w hs=>wp_exit (Ll h (hg κ a w hs))
theorem Qk {P:Program} {B:Exit→Act→World→Prop} {a:Act} {w:World}:∀ {k:List KI},B .ret a w→den P B k .ret a w
 | [],h=>h
 | .blk _::k,h=>Qk (k:=k) h
 | .code _::k,h=>Qk (k:=k) h
 | .ops _ _::k,h=>Qk (k:=k) h
 | .inv _::k,h=>Qk (k:=k) h
 | .scp::k,h=>Qk (k:=k) h
theorem G_ret (h:∀ κ a w,St C.F C.n s κ a w→C.B .ret a w):G C (.code .ret::k) s:=fun κ a w hs=>wp_ret (Qk (h κ a w hs))
theorem Asw {id:Nat} {ops:Array Oper} (h:G C (.ops ops ops.toList::k) s):G C (.code (.region id ops false)::k) s:=fun κ a w hs=>wp_region_list (h κ a w hs)
theorem Ao9 {all:Array Oper} (h:G C k s):G C (.ops all []::k) s:=fun κ a w hs=>wpList_nil (P:=C.P) (ops:=all) (h κ a w hs)
def Tg (all:Array Oper) (s:SS) (g:Option (Nat × Bool)) (b:Bool):Prop :=
 match g with
 | none=>b=true
 | some (j,want)=>∃ d,((all[j]?).bind (·.dst))=some d∧((∃ c,s.σ d=.val (.bool c)∧b=(c == want))∨(s.σ d=.val undef∧b=false))
theorem Tf {F:Fr} {n:Nat} {κ:Ka} {a:Act} {w:World} (h:St F n s κ a w) {all:Array Oper} {o:Oper} {b:Bool} (hd:∀ j want,o.guard=some (j,want)→∀ d,((all[j]?).bind (·.dst))=some d→d<n) (hw:Tg all s o.guard b):Region.wanted o (yielded all a.tmps)=b:=by
 unfold Tg at hw
 unfold Region.wanted
 cases hg:o.guard with
 | none=>rw[hg]at hw;simp[hw]
 | some p =>
  obtain ⟨j,want⟩:=p
  rw[hg]at hw
  obtain ⟨d,h1,h2⟩:=hw
  have hlt:=hd j want hg d h1
  have hslot:=h.slot d
  have hget:a.tmps[d]? = some (a.tmps.getD d undef):=by simp[h.size,hlt]
  simp only[yielded,h1,Option.bind_some,hget]
  rcases h2 with ⟨c,h3,rfl⟩ | ⟨h3,rfl⟩
  ·rw[h3]at hslot
   rw[hslot.val]
   rfl
  ·rw[h3]at hslot
   rw[hslot.val]
   rfl
theorem G_op {all:Array Oper} {o:Oper} {rest:List Oper} {U:Up} (hg:Good C.P o s U) (hw:∀ κ a w,St C.F C.n s κ a w→Region.wanted o (yielded all a.tmps)=true) (hd:∀ d,o.dst=some d→d<C.n) (h:G C (.ops all rest::k) (s.upd o.dst U)):G C (.ops all (o::rest)::k) s:=fun κ a w hs =>
 wpList_step fun K hK=>by
  rw[if_pos (hw κ a w hs)]
  exact hg κ a w hs.inv (fun x _=>hs.ev x) (fun j _=>hs.obj j) K _ (fun v κ' w' st hi hv ho=>hK _ _ (h κ' _ w' (hs.put hd st hi hv ho)))
theorem Apa {all:Array Oper} {o:Oper} {rest:List Oper} (hw:∀ κ a w,St C.F C.n s κ a w→Region.wanted o (yielded all a.tmps)=false) (hd:∀ d,o.dst=some d→d<C.n) (h:G C (.ops all rest::k) (s.upd o.dst ⟨.val undef,[],[]⟩)):G C (.ops all (o::rest)::k) s:=fun κ a w hs =>
 wpList_step fun K hK=>by
  rw[if_neg (by rw[hw κ a w hs];simp)]
  exact hK _ _ (h κ _ w (hs.put (U:=⟨.val undef,[],[]⟩) hd (Step.refl _ κ w) hs.inv (by simp[Rd]) (fun p hp=>by cases hp)))
def Az:List (Nat × Nat)→Nat→Nat
 | [],k=>k
 | (a,b)::r,k=>bif Nat.beq a k then b else Az r k
def mkσ:List (Nat × SV)→Nat→SV
 | [],_=>.top
 | (i,x)::r,j=>bif Nat.beq i j then x else mkσ r j
def mkh:List (Nat × Ob)→Nat→Ob
 | [],_=>.fresh
 | (i,x)::r,j=>bif Nat.beq i j then x else mkh r j
def mkS (L:List (Nat × SV)) (O:Obs):SS:=⟨mkσ L,mkh O⟩
def Akw (ρ:List (Nat × Nat)) (K:List Nat) (s:SS):List (Nat × SV)→Prop
 | []=>True
 | (i,x)::r=>x.ren (Az ρ)=s.σ i∧x.inn K=true∧Akw ρ K s r
def Ao8 (ρ:List (Nat × Nat)) (K:List Nat) (s:SS):Obs→Prop
 | []=>True
 | (i,x)::r=>(x.ren (Az ρ)=s.h (Az ρ i)∨x=.non)∧x.inn K=true∧Ao8 ρ K s r
def Qz (ρ:List (Nat × Nat)) (bn:List Nat):List Nat→Bool
 | []=>bn.all fun k=>Nat.beq (Az ρ k) k
 | k::r=>(r.all fun j=>Nat.beq j k || !(Nat.beq (Az ρ j) (Az ρ k))) && Qz ρ bn r
theorem Qa {ρ:List (Nat × Nat)} {bn:List Nat}:∀ {K:List Nat},Qz ρ bn K=true→(∀ i∈K,∀ j∈K,Az ρ i=Az ρ j→i=j)∧∀ k∈bn,Az ρ k=k
 | [],h=>⟨by simp,fun k hk=>by
   simp only[Qz,List.all_eq_true]at h
   exact Nat.eq_of_beq_eq_true (h k hk)⟩
 | k::r,h=>by
  simp only[Qz,Bool.and_eq_true,List.all_eq_true,Bool.or_eq_true,Bool.not_eq_true']at h
  obtain ⟨h1,h2⟩:=h
  obtain ⟨h3,h4⟩:=Qa h2
  refine⟨fun i hi j hj e=>?_,h4⟩
  simp only[List.mem_cons]at hi hj
  rcases hi with rfl | hi<;>rcases hj with rfl | hj
  ·rfl
  ·rcases h1 j hj with h | h
   ·exact(Nat.eq_of_beq_eq_true h).symm
   ·rw[e]at h;simp at h
  ·rcases h1 i hi with h | h
   ·exact Nat.eq_of_beq_eq_true h
   ·rw[e]at h;simp at h
  ·exact h3 i hi j hj e
def Ts (κ:Ka) (ρ:Nat→Nat) (K:List Nat):Ka:=⟨fun k=>bif Le K k then κ (ρ k) else .new,κ.M⟩
theorem Tq {κ:Ka} {ρ:Nat→Nat} {K:List Nat} {k:Nat} (h:k∈K):Ts κ ρ K k=κ (ρ k):=by simp[Ts,memN_iff.2 h]
theorem Afq {κ:Ka} {ρ:Nat→Nat} {K:List Nat} {k:Nat} (h:k∉K):Ts κ ρ K k=.new:=by
 have:Le K k=false:=by
  cases hm:Le K k with
  | false=>rfl
  | true=>exact absurd (memN_iff.1 hm) h
 simp[Ts,this]
theorem If {κ:Ka} {ρ:Nat→Nat} {K:List Nat} {k b:Nat} (h:(Ts κ ρ K k).block? = some b):k∈K∧(κ (ρ k)).block? = some b:=by
 by_cases hk:k∈K
 ·rw[Tq hk]at h;exact⟨hk,h⟩
 ·rw[Afq hk]at h;cases h
theorem Tp {κ:Ka} {ρ:Nat→Nat} {K:List Nat} (b:Nat) (h:¬ Own κ b):¬ Own (Ts κ ρ K) b:=by
 rintro (⟨k,hk⟩ | hk)
 ·exact h (.inl ⟨_,(If hk).2⟩)
 ·exact h (.inr hk)
theorem Aqd {κ:Ka} {w:World} {ρ:Nat→Nat} {K:List Nat} (hi:Inv κ w) (hinj:∀ i∈K,∀ j∈K,ρ i=ρ j→i=j):Inv (Ts κ ρ K) w :=
 ⟨fun i j b h1 h2=>by
   obtain ⟨a1,a2⟩:=If h1
   obtain ⟨b1,b2⟩:=If h2
   exact hinj i a1 j b1 (hi.inj _ _ b a2 b2),
  fun k b h=>hi.bnd _ b (If h).2,fun k b h=>hi.apart _ b (If h).2,hi.mbnd⟩
theorem Aqe {F:Fr} {κ:Ka} {w:World} {ρ:Nat→Nat} {K bn:List Nat} (c:Ctx F κ w) (hbn:∀ k,F.k0 k≠.new→k∈bn) (hK:∀ k∈bn,k∈K∧ρ k=k):Ctx F (Ts κ ρ K) w :=
 ⟨c.size,c.os,c.tape,c.output,c.M,c.old,fun k b h=>c.own _ b (If h).2,fun k hk=>by
  obtain ⟨h1,h2⟩:=hK k (hbn k hk)
  rw[Tq h1,h2]
  exact c.nam k hk⟩
def Ac0 (bn K:List Nat):Bool:=bn.all (Le K)
structure Sub (C:Cx) (s:SS) (ρ:List (Nat × Nat)) (L:List (Nat × SV)) (O:Obs):Prop where
 slots:Akw ρ O.keys s L
 objs:Ao8 ρ O.keys s O
 names:Qz ρ C.bn O.keys=true∧Ac0 C.bn O.keys=true
theorem Sub.st {s:SS} {ρ:List (Nat × Nat)} {L:List (Nat × SV)} {O:Obs} (h:Sub C s ρ L O) {κ:Ka} {a:Act} {w:World} (hs:St C.F C.n s κ a w):St C.F C.n (mkS L O) (Ts κ (Az ρ) O.keys) a w:=by
 obtain ⟨hinj,hbn⟩:=Qa h.names.1
 have hsub:∀ k∈C.bn,k∈O.keys:=fun k hk=>by
  have:=h.names.2
  simp only[Ac0,List.all_eq_true]at this
  exact memN_iff.1 (this k hk)
 have hren:Ren (Az ρ) O.keys κ (Ts κ (Az ρ) O.keys):=⟨fun k hk=>Tq hk⟩
 refine⟨hs.defers,hs.size,Aqd hs.inv hinj,Aqe hs.ctx C.hbn (fun k hk=>⟨hsub k hk,hbn k hk⟩),?_,?_⟩
 ·intro i
  have h1:=h.slots
  revert h1
  simp only[mkS]
  generalize hL:L=L'
  clear hL
  induction L' with
  | nil=>intro _;simp[mkσ,Rd]
  | cons p r ih =>
   obtain ⟨j,x⟩:=p
   intro h1
   simp only[Akw]at h1
   simp only[mkσ,Bool.cond_eq_ite]
   split
   ·rename_i hb
    have:=Nat.eq_of_beq_eq_true hb
    subst this
    have h2:=hs.slot j
    rw[← h1.1]at h2
    exact Rd.unren hren (fun b _=>Tp b) _ _ h1.2.1 h2
   ·exact ih h1.2.2
 ·intro i
  have h1:=h.objs
  have hK:∀ p∈O,p.1∈O.keys:=fun p hp=>List.mem_map.2 ⟨p,hp,rfl⟩
  have key:∀ O':Obs,(∀ p∈O',p.1∈O.keys)→Ao8 ρ O.keys s O'→(i∈O'.map (·.1)→ObOK (Ts κ (Az ρ) O.keys) w i (mkh O' i))∧(i∉O'.map (·.1)→mkh O' i=.fresh):=by
   intro O'
   induction O' with
   | nil=>intro _ _;exact⟨by simp,fun _=>rfl⟩
   | cons p r ih =>
    obtain ⟨j,x⟩:=p
    intro hk h1
    simp only[Ao8]at h1
    obtain ⟨h2,h3⟩:=ih (fun p hp=>hk p (by simp[hp])) h1.2.2
    simp only[mkh,Bool.cond_eq_ite,List.map_cons,List.mem_cons,not_or]
    constructor
    ·intro hm
     split
     ·rename_i hb
      have:=Nat.eq_of_beq_eq_true hb
      subst this
      rcases h1.1 with h4 | h4
      ·have h5:=hs.obj (Az ρ j)
       rw[← h4]at h5
       exact ObOK.unren hren (fun b _=>Tp b) (hk (j,x) y_) h1.2.1 h5
      ·rw[h4];trivial
     ·rename_i hb
      exact h2 (hm.resolve_left (fun e=>hb (by subst e;simp)))
    ·rintro ⟨hm1,hm2⟩
     rw[if_neg (fun hb=>hm1 (Nat.eq_of_beq_eq_true hb).symm)]
     exact h3 hm2
  obtain ⟨h2,h3⟩:=key O hK h1
  by_cases hi:i∈O.map (·.1)
  ·exact h2 hi
  ·simp only[mkS]
   rw[h3 hi]
   exact Afq hi
theorem O6 {body:Code} {α:Type} (L:α→List (Nat × SV)) (O:α→Obs) (μ:α→Nat) (x₀:α) (ρ:List (Nat × Nat)) (hsub:Sub C s ρ (L x₀) (O x₀))
  (h:∀ x,G C (.code body::.inv (fun a w=>∃ x' κ,μ x'<μ x∧St C.F C.n (mkS (L x') (O x')) κ a w)::k) (mkS (L x) (O x))):G C (.code (.loop body)::k) s:=fun κ a w hs=>by
 refine wp_loop_ghost (fun m a w=>∃ x κ,μ x=m∧St C.F C.n (mkS (L x) (O x)) κ a w) (μ x₀) ⟨x₀,_,E,hsub.st hs⟩ ?_
 rintro m a' w' ⟨x,κ',rfl,hs'⟩
 refine wp_mono (h x κ' a' w' hs') ?_
 intro e a'' w'' hq
 cases e with
 | normal =>
  obtain ⟨x',κ'',h1,h2⟩:=hq
  exact⟨μ x',h1,x',κ'',E,h2⟩
 | exit id=>exact hq
 | goto l=>exact hq
 | ret=>exact hq
 | panic c=>exact hq
 | outgrown=>exact hq
theorem Si {α:Type} {L:α→List (Nat × SV)} {O:α→Obs} {μ:α→Nat} {x:α} (x':α) (ρ:List (Nat × Nat)) (hμ:μ x'<μ x) (hsub:Sub C s ρ (L x') (O x')) :
  G C (.inv (fun a w=>∃ x' κ,μ x'<μ x∧St C.F C.n (mkS (L x') (O x')) κ a w)::k) s:=fun _ _ _ hs=>⟨x',_,hμ,hsub.st hs⟩
end Go.Sy
