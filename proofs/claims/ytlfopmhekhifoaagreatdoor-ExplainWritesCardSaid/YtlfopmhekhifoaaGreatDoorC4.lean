/-
  The symbolic layer, 20: a constant string's bytes. The symbolic layer, 21: a law's contract, as the row asks for it. The symbolic layer, 22: a box that nobody writes any more becomes data. The symbolic layer, 23: arguments that are data are opened, type by type. Arguments and rows seen otherwise. A nil slice in a box becomes a row's name. The symbolic layer, 27: a slice against nil; structs in structs held against one another. The symbolic layer, 28: what the kit's shelf says of functions of Go's library. The symbolic layer, 29: loops with a state and a measure. The symbolic layer, 30: a new row that is seen as data at once.
-/
import Derived.Test.YtlfopmhekhifoaaGreatDoorC3
import Derived.ProofKit
import Derived.OpenShut
import Derived.ChangeKeysEq
import Derived.Below
import Derived.Lib.Join

namespace Go.Sy

theorem freeze_facts (w : World) {b : Nat} {cs : Array Value} {T : TypeId} {fr : Nat × Nat} (h : w.heap[b]? = some (.cells cs T fr)) (n : Nat) :
    (w.freeze ⟨b, n, none⟩ 1).heap[b]? = some (.cells cs T (if fr.1 == fr.2 then (n, n + 1) else (min fr.1 n, max fr.2 (n + 1)))) ∧ (w.freeze ⟨b, n, none⟩ 1).os = w.os ∧ (w.freeze ⟨b, n, none⟩ 1).tape = w.tape ∧ (w.freeze ⟨b, n, none⟩ 1).output = w.output ∧
      (w.freeze ⟨b, n, none⟩ 1).heap.size = w.heap.size ∧ ∀ i, i ≠ b → (w.freeze ⟨b, n, none⟩ 1).heap[i]? = w.heap[i]? := by
  unfold World.freeze
  rw [if_neg (by decide)]
  refine ⟨?_, rfl, rfl, rfl, by simp, fun i hi => ?_⟩
  · simp [Array.getElem?_modify, h]
  · simp [Array.getElem?_modify, Ne.symm hi]

/-- The conversion of a literal row to its own type: what stands for the bytes of a constant string. -/
theorem good_convert_mark {P : Program} (Γ : Ty P) {o : Oper} {s : SS} {t : TypeId} {ti ei : TI} {x : Operand} {et : TypeId} {sz eb k : Nat} {ez : List Value} {svs : List SV} (h : o.op = .convert t t x)
    (ht : Γ.get t = some ti) (hk : ti.k = .slice et sz eb ez) (he : Γ.get et = some ei) (hek : ei.k = .int .u8) (hx : ev s x = .osl k) (hl : s.h k = .lit sz svs) : Good P o s ⟨.osl k, [], [(k, .lit sz svs)]⟩ := by
  intro κ a w hi hr ho N Q hN
  have h1 := hr x (by simp [h, Op.operands])
  have h3 := ho k (.inr (by simp [Up.ws]))
  rw [hl] at h3
  rw [hx] at h1
  obtain ⟨b, cap, cs, T, fr, f1, f2, f3, f4, f5, f6⟩ := h3
  simp only [Rd, f1] at h1
  obtain ⟨hu, _⟩ := slice_elem Γ ht hk
  have he' := int_under Γ he hek
  obtain ⟨q1, q2, q3, q4, q5, q6⟩ := freeze_facts w f2 cs.length
  have hsh : w.shape? b = some (T, cs.length) := by
    unfold World.shape?
    rw [f2]
    simp
  have hrun : (execOp a.eval o).run P w = .ok (.value (.slice (some ⟨b, 0, none⟩) svs.length cap)) (w.freeze ⟨b, cs.length, none⟩ 1) := by
    simp [execOp, h, h1, convert, run_underlying hu, run_underlying he', markStringish, hsh]
  simp only [Oper.wp, hrun, Oper.upon]
  obtain ⟨st, inv⟩ := step_write hi (k := k) (b := b) (by rw [f1]; rfl) q2 q3 q4 q5 q6
  refine hN _ κ _ (st.weaken (by simp [Up.ws])) inv (by simp [Rd, f1]) (fun p hp => ?_)
  simp only [List.mem_singleton] at hp
  subst hp
  refine ⟨b, cap, cs, T, _, f1, q1, ?_, f4, f5, fun i x hx => ?_⟩
  · rcases f3 with h0 | h0
    · rw [if_pos (by simpa using h0)]; exact .inr (Nat.le_refl _)
    · split
      · exact .inr (Nat.le_refl _)
      · exact .inr (by simp only; omega)
  obtain ⟨g0, u, g1, g2, g3, g4⟩ := f6 i x hx
  exact ⟨g0, u, RdD.keep st.keeps _ _ g1, g2, g3, g4⟩

end Go.Sy

namespace Go.Sy
open Go.ChangeShapes Go.WideShapes Go.ChangeAt Go.RowKit

/-- Nobody owns anything. -/
def κ0 : Ka := ⟨fun _ => .new, fun _ => False⟩

theorem inv0 (w : World) : Inv κ0 w :=
  ⟨fun i j b h => (by cases h), fun k b h => (by cases h), fun k b h => (by cases h), fun b h => False.elim h⟩

theorem below_of_ctx {w w' : World} {κ' : Ka} (c : Ctx ⟨w, κ0⟩ κ' w') : Below w.heap.size w w' :=
  ⟨c.os, c.tape, c.output, c.size, fun k hk => c.old k hk (fun j h => by cases h)⟩

section
variable {H : Type} {enc : TypeId × Value → H} {P : Program}

theorem trodAll_below {W W' : World} (hl : laidOutB P = true) (hb : Below W.heap.size W W') : ∀ {ts : List TypeId} {vs : List Value} {ds : List (DataW H)} {ps : List MemPlace}, (∀ t ∈ ts, P.readableRec t = true ∧ t < P.types.size) →
    (∀ x ∈ ps, x.block < W.heap.size) → DataW.TrodAll enc P W 0 (fun _ => true) true ts vs ds ps → DataW.TrodAll enc P W' 0 (fun b => decide (b < W.heap.size)) true ts vs ds ps
  | [], _, _, _, _, _, h => by
    obtain ⟨rfl, rfl, rfl⟩ := trodAll_nil h
    rfl
  | t :: ts, _, _, _, ht, hp, h => by
    obtain ⟨v, vs, d, ds, p, q, rfl, rfl, rfl, h1, h2⟩ := trodAll_cons h
    have := ht t (by simp)
    exact ⟨p, q, Below.trod hl this.1 this.2 h1 hb (fun x hx => hp x (by simp [hx])), trodAll_below hl hb (fun t h => ht t (by simp [h])) (fun x hx => hp x (by simp [hx])) h2, rfl⟩

/-- Whoever calls a law: it answers true, and its arguments read as they did. -/
theorem law_calls {f : FuncId} {fn : Func} {s : ChangeSpec} {W : World} {args : Array Value} {ds gs : List (DataW H)} {before : List MemPlace} {tb : TypeId} {A : List SV} (hv : s.vars = []) (hl : laidOutB P = true)
    (hW : DataW.Whole enc P fn.params.toList s.vars false W args.toList ds gs before) (hts : ∀ t ∈ fn.params.toList, P.readableRec t = true ∧ t < P.types.size) (hrt : fn.resultTypes = #[tb]) (hbt : P.underlying tb = some .bool)
    (hfn : ∀ gs : List (DataW H), gs = [] → s.fn H (ds ++ gs) = { results := [.lit (.bool true)], args := ds }) (hA : RdL κ0 W A args.toList) (hs : Sy.Spec P f A [] (boolSV true) []) :
    Calls P f args W fun e W' => ∃ v, e = .returned v ∧ s.post enc P fn false true false false W args v W' := by
  have hc := hs κ0 W args.toList (inv0 W) (fun k hk => absurd rfl hk) hA (fun p hp => by cases hp)
  simp only [Array.toArray_toList] at hc
  refine hc.mono ?_
  rintro e W' ⟨v, κ', rfl, ctx, inv, hR, _⟩
  have hvv : v = .bool true := by simpa [boolSV, Rd] using hR
  subst hvv
  have hb := below_of_ctx ctx
  have hW' := hW
  obtain ⟨p, q, h1, h2, h3, h4, h5⟩ := hW
  have hgs : gs = [] ∧ q = [] := by
    rw [hv] at h2
    exact trodVars_none h2
  obtain ⟨rfl, rfl⟩ := hgs
  rw [List.append_nil] at h3
  subst h3
  have hlt : ∀ x ∈ before, x.block < W.heap.size := fun x hx => by simpa using hW'.lt x hx
  refine ⟨_, rfl, ds, [], before, [], before, [], hW', ?_, ?_, ?_, ?_, fun h => by cases h⟩
  · rw [hfn [] rfl, hrt]
    exact trodAll_mk1 (shut_bool hbt true)
  · rw [hfn [] rfl]
    exact trodAll_below hl hb hts hlt h1
  · rw [hv, hfn [] rfl]
    rfl
  · exact hb.frame _

theorem rd_bytes {W : World} {base : Nat} {t e : TypeId} {v : Value} {d : DataW H} {ps : List MemPlace} (ht : P.underlying t = some (.slice e)) (he : P.underlying e = some (.int .u8)) (hc : P.cellsOf e = 1)
    (hval : Value.okWide P W .any base t v) (h1 : DataW.Trod enc P W 0 (fun _ => true) true t v d ps) : ∃ l : List UInt8, Rd κ0 W (.sl 1 byteSV l) v := by
  obtain ⟨a1, len, cap, rfl⟩ := okWide_slice ht hval
  obtain ⟨fuel, hf⟩ := h1
  rcases open_ints ht he hc hf with ⟨hcs, hx⟩ | ⟨a, len', cap', zs, hcs, _, hl, hm, hz, hx, hcell, hwz⟩
  · simp [Value.cells] at hcs
    obtain ⟨rfl, rfl, rfl⟩ := hcs
    refine ⟨[], ?_⟩
    simp only [Rd, RdD]
    exact .inl ⟨trivial, none, 0, rfl⟩
  · simp [Value.cells] at hcs
    obtain ⟨rfl, rfl, rfl⟩ := hcs
    simp only [if_true] at hz
    have hlen : ((zs.take len).map fun n => UInt8.ofNat n.toNat).length = len := by simp; omega
    by_cases h0 : len = 0
    · subst h0
      refine ⟨[], ?_⟩
      simp only [Rd, RdD]
      exact .inl ⟨trivial, _, _, rfl⟩
    · refine ⟨(zs.take len).map fun n => UInt8.ofNat n.toNat, ?_⟩
      obtain ⟨b, off, rfl, hcc⟩ := ints_at hcell (by omega)
      simp only [Rd, RdD]
      refine .inr ⟨b, off, cap, by rw [hlen], by rw [hlen]; exact hl, ?_, ?_, fun i hi => ?_⟩
      · rintro (⟨k, hk⟩ | hk)
        · cases hk
        · exact hk
      · have := hcc 0 (by omega)
        rcases Nat.lt_or_ge b W.heap.size with h | h
        · exact h
        · simp [World.cell?, Array.getElem?_eq_none h] at this
      · rw [hlen] at hi
        have hb := range_u8 hwz i
        have e : zs.getD i 0 = zs[i]'(by omega) := by simp [List.getD, List.getElem?_eq_getElem (show i < zs.length by omega)]
        rw [List.getD_eq_getElem?_getD] at e
        rw [e] at hb
        have hci := hcc i (by omega)
        rw [List.getD_eq_getElem?_getD, e] at hci
        refine ⟨.int .u8 zs[i], ?_, rfl, fun c hc => by simp [Value.cells] at hc; subst hc; rfl, fun j hj => ?_⟩
        · simp only [byteSV, RdD, List.getElem_map, List.getElem_take]
          congr 1
          simp only [UInt8.toNat_ofNat']
          omega
        · have hj0 : j = 0 := by omega
          subst hj0
          simpa [Value.cells] using hci
end

end Go.Sy

namespace Go.Sy

mutual
/-- The name d is given up for data. -/
def frb (d sz : Nat) (x : SV) : SV → SV
  | .ptr k o => bif Nat.beq k d then .ref sz x o else .ptr k o
  | .agg l => .agg (frbL d sz x l)
  | .tup l => .tup (frbL d sz x l)
  | .ifc t y => .ifc t (frb d sz x y)
  | .clo f g l => .clo f (frbL d sz x g) (frbL d sz x l)
  | y => y
def frbL (d sz : Nat) (x : SV) : List SV → List SV
  | [] => []
  | y :: l => frb d sz x y :: frbL d sz x l
end

mutual
theorem frb_ok {κ κ' : Ka} {w : World} {K : Nat → Prop} {d sz : Nat} {x : SV} (st : Step K κ w κ' w) (hx : ∀ o v, Rd κ w (.ptr d o) v → Rd κ' w (.ref sz x o) v) : ∀ (y : SV) (v : Value), Rd κ w y v → Rd κ' w (frb d sz x y) v
  | .ptr k o, v, h => by
    unfold frb
    by_cases hk : k = d
    · subst hk; rw [show Nat.beq k k = true from Nat.beq_refl k]; exact hx o v h
    · rw [show Nat.beq k d = false from by cases hb : Nat.beq k d with | false => rfl | true => exact absurd (Nat.eq_of_beq_eq_true hb) hk]; exact Rd.step st _ _ h
  | .agg l, v, h => by
    simp only [Rd] at h
    unfold frb
    simp only [Rd]
    obtain ⟨cs, h1, h2, h3⟩ := h
    exact ⟨cs, h1, h2, frbL_ok st hx l cs h3⟩
  | .tup l, v, h => by
    simp only [Rd] at h
    unfold frb
    simp only [Rd]
    obtain ⟨cs, h1, h3⟩ := h
    exact ⟨cs, h1, frbL_ok st hx l cs h3⟩
  | .ifc t y, v, h => by
    simp only [Rd] at h
    unfold frb
    simp only [Rd]
    obtain ⟨u, h1, h3⟩ := h
    exact ⟨u, h1, frb_ok st hx y u h3⟩
  | .clo f g l, v, h => by
    simp only [Rd] at h
    unfold frb
    simp only [Rd]
    obtain ⟨fs, cs, h1, h2, h3⟩ := h
    exact ⟨fs, cs, h1, frbL_ok st hx g fs h2, frbL_ok st hx l cs h3⟩
  | .top, v, h => by unfold frb; exact Rd.step st _ _ h
  | .val u, v, h => by unfold frb; exact Rd.step st _ _ h
  | .sl sz e l, v, h => by unfold frb; exact Rd.step st _ _ h
  | .ref sz z o, v, h => by unfold frb; exact Rd.step st _ _ h
  | .rpt k sz i o, v, h => by unfold frb; exact Rd.step st _ _ h
  | .osl k, v, h => by unfold frb; exact Rd.step st _ _ h
theorem frbL_ok {κ κ' : Ka} {w : World} {K : Nat → Prop} {d sz : Nat} {x : SV} (st : Step K κ w κ' w) (hx : ∀ o v, Rd κ w (.ptr d o) v → Rd κ' w (.ref sz x o) v) : ∀ (l : List SV) (vs : List Value), RdL κ w l vs → RdL κ' w (frbL d sz x l) vs
  | [], vs, h => by
    unfold frbL
    simpa [RdL] using h
  | y :: l, vs, h => by
    simp only [RdL] at h
    unfold frbL
    simp only [RdL]
    obtain ⟨v, r, h1, h2, h3⟩ := h
    exact ⟨v, r, h1, frb_ok st hx y v h2, frbL_ok st hx l r h3⟩
end


def frbO (d sz : Nat) (x : SV) : Ob → Ob
  | .box l => .box (frbL d sz x l)
  | o => o

theorem box_freeze {κ κ' : Ka} {w : World} {d sz : Nat} {l : List SV} {x : SV} (h : ObOK κ w d (.box l)) (hl : cellsOf x = l) (hb : x.boxed = true) (_hd : dataL l = true) (hsz : l.length = sz) (ho : ∀ b, b < w.heap.size → ¬ Own κ b → ¬ Own κ' b)
    (hdead : ∀ b, (κ d).block? = some b → b < w.heap.size ∧ ¬ Own κ' b) (hxd : x.data = true) (o : Nat) (v : Value) (hv : Rd κ w (.ptr d o) v) : Rd κ' w (.ref sz x o) v := by
  obtain ⟨b, cs, T, fr, e1, e2, e3, e4, e5⟩ := h
  simp only [Rd, e1] at hv
  obtain ⟨h1, h2⟩ := hdead b (by rw [e1]; rfl)
  rw [← hl] at e5
  obtain ⟨u, f1, f2⟩ := Rd.of_cells hb e4 e5
  simp only [Rd, RdD]
  refine ⟨b, 0, u, by rw [Nat.zero_add]; exact hv, h2, h1, RdD.keep ⟨Nat.le_refl _, fun _ _ _ => rfl, ho⟩ _ _ (Rd.data _ _ hxd f1), ?_, by rw [f2]; exact e4, fun j hj => ?_⟩
  · have := e5.length
    rw [← hsz, ← hl, ← this, ← f2]
    simp
  · rw [Nat.zero_add, cell_of_row w b _ cs.toArray T fr e2, ← f2]

/-- The box d, which holds data alone, is data from now on, wherever its address is held. -/
theorem G_box {C : Cx} {k : List KI} {s : SS} (d sz : Nat) (x : SV) {l : List SV} (h : s.h d = .box l) (hl : cellsOf x = l) (hc : (x.boxed && x.data && dataL l && Nat.beq l.length sz) = true)
    (hg : G C k ⟨fun i => frb d sz x (s.σ i), fun j => bif Nat.beq j d then .non else frbO d sz x (s.h j)⟩) : G C k s := fun κ a w hs => by
  simp only [Bool.and_eq_true] at hc
  obtain ⟨⟨⟨hb, hxd⟩, hd⟩, hsz⟩ := hc
  have hsz := Nat.eq_of_beq_eq_true hsz
  have hob := hs.obj d
  rw [h] at hob
  have st := step_kill (κ := κ) (w := w) (some d)
  have inv := inv_kill hs.inv (some d)
  have hx : ∀ o v, Rd κ w (.ptr d o) v → Rd (setK κ d .dead) w (.ref sz x o) v := fun o v hv =>
    box_freeze hob hl hb hd hsz st.keeps.out (fun b hb => ⟨hs.inv.bnd d b hb, by
      rintro (⟨q, hq⟩ | hq)
      · by_cases hqd : q = d
        · subst hqd; change (setK κ q .dead q).block? = some b at hq; rw [setK_self] at hq; cases hq
        · change (setK κ d .dead q).block? = some b at hq
          rw [setK_ne _ _ hqd] at hq
          exact hqd (hs.inv.inj q d b hq hb)
      · exact hs.inv.apart d b hb hq⟩) hxd o v hv
  refine hg (setK κ d .dead) a w ⟨hs.defers, hs.size, inv, hs.ctx.step inv st, fun j => frb_ok st hx _ _ (hs.slot j), fun j => ?_⟩
  show ObOK _ w j (bif Nat.beq j d then .non else frbO d sz x (s.h j))
  by_cases hj : j = d
  · subst hj; rw [show Nat.beq j j = true from Nat.beq_refl j]; trivial
  · rw [show Nat.beq j d = false from by cases hb : Nat.beq j d with | false => rfl | true => exact absurd (Nat.eq_of_beq_eq_true hb) hj]
    have hb := ObOK.step st (fun e => hj (Option.some.inj e).symm) _ (hs.obj j)
    have h0 := hs.obj j
    show ObOK _ w j (frbO d sz x (s.h j))
    cases hh : s.h j with
    | box m =>
      rw [hh] at h0 hb
      obtain ⟨b, cs, T, fr, e1, e2, e3, e4, e5⟩ := h0
      exact ⟨b, cs, T, fr, by show setK κ d .dead j = _; rw [setK_ne _ _ hj]; exact e1, e2, e3, e4, frbL_ok st hx m cs e5⟩
    | fresh => rw [hh] at hb; exact hb
    | non => rw [hh] at hb; exact hb
    | row sz' e' l' => rw [hh] at hb; exact hb
    | lit sz' svs => rw [hh] at hb; exact hb

/-- A nil slice seen as data. -/
theorem G_nilsl {C : Cx} {k : List KI} {s : SS} (d sz : Nat) {α : Type} (e : α → SV) (h : s.σ d = .val (.slice none 0 0)) (hg : G C k ⟨upd s.σ d (.sl sz e []), s.h⟩) : G C k s :=
  G_set d (fun κ w v hv => by
    rw [h] at hv
    simp only [Rd] at hv
    simp only [Rd, RdD]
    exact .inl ⟨trivial, none, 0, hv⟩) hg

end Go.Sy

namespace Go.Sy
open Go.ChangeShapes Go.WideShapes Go.ChangeAt Go.RowKit

section
variable {H : Type} (enc : TypeId × Value → H) (P : Program) (W : World)

/-- Whatever one cell reads as data of type t is some e x (with p x). -/
def Op1 (t : TypeId) {α : Type} (e : α → SV) (p : α → Prop) : Prop :=
  ∀ n c y, DataW.trod enc P W 0 (fun _ => true) true n t [c] = some y → ∃ x, p x ∧ Rd κ0 W (e x) c ∧ c.oneCell' = true

/-- .. sz cells. -/
def OpN (t : TypeId) {α : Type} (e : α → SV) (p : α → Prop) (sz : Nat) : Prop :=
  ∀ n cs y, DataW.trod enc P W 0 (fun _ => true) true n t cs = some y → ∃ x, p x ∧ cs.length = sz ∧ Ones cs ∧ RdL κ0 W (cellsOf (e x)) cs

variable {enc P W}

theorem op_int {t : TypeId} {k : IntKind} (ht : P.underlying t = some (.int k)) : Op1 enc P W t (fun z => .val (.int k z)) (fun z => (Lit.int k z).wf = true) := fun n c y h => by
  obtain ⟨z, e, _, hw⟩ := DataW.trod_int ht h
  have e : c = .int k z := by simpa using e
  subst e
  exact ⟨z, hw, by simp [Rd], rfl⟩
theorem op_bool {t : TypeId} (ht : P.underlying t = some .bool) : Op1 enc P W t boolSV (fun _ => True) := fun n c y h => by
  obtain ⟨z, e, _⟩ := DataW.trod_bool ht h
  have e : c = .bool z := by simpa using e
  subst e
  exact ⟨z, trivial, by simp [boolSV, Rd], rfl⟩
theorem op_str {t : TypeId} (ht : P.underlying t = some .string) : Op1 enc P W t strSV (fun s => s.size ≤ maxLen) := fun n c y h => by
  obtain ⟨z, e, _, hw⟩ := DataW.trod_string ht h
  have e : c = .string z := by simpa using e
  subst e
  exact ⟨z, hw, by simp [strSV, Rd], rfl⟩

theorem opN_int {t : TypeId} {k : IntKind} (ht : P.underlying t = some (.int k)) : OpN enc P W t (fun z => .val (.int k z)) (fun z => (Lit.int k z).wf = true) 1 := fun n cs y h => by
  obtain ⟨z, rfl, _, hw⟩ := DataW.trod_int ht h
  refine ⟨z, hw, rfl, fun c hc => by simp at hc; subst hc; rfl, ?_⟩
  simp [cellsOf, RdL, Rd]
theorem opN_bool {t : TypeId} (ht : P.underlying t = some .bool) : OpN enc P W t boolSV (fun _ => True) 1 := fun n cs y h => by
  obtain ⟨z, rfl, _⟩ := DataW.trod_bool ht h
  refine ⟨z, trivial, rfl, fun c hc => by simp at hc; subst hc; rfl, ?_⟩
  simp [boolSV, cellsOf, RdL, Rd]
theorem opN_str {t : TypeId} (ht : P.underlying t = some .string) : OpN enc P W t strSV (fun s => s.size ≤ maxLen) 1 := fun n cs y h => by
  obtain ⟨z, rfl, _, hw⟩ := DataW.trod_string ht h
  refine ⟨z, hw, rfl, fun c hc => by simp at hc; subst hc; rfl, ?_⟩
  simp [strSV, cellsOf, RdL, Rd]

theorem cells_get {base : Nat} {a : Addr} {n : Nat} {cs : List Value} (h : W.cells? base a n = some cs) : cs.length = n ∧ ∀ j (_ : j < n), W.cell? (a.add j) = cs[j]? := by
  unfold World.cells? at h
  split at h
  · refine ⟨by simpa using mapM_some_length h, fun j hj => ?_⟩
    exact mapM_some_get h j j (by simp [hj])
  · cases h

theorem op_slice {t et : TypeId} {α : Type} {e : α → SV} {p : α → Prop} {sz : Nat} (ht : P.underlying t = some (.slice et)) (hsz : P.cellsOf et = sz) (h0 : 0 < sz) (hb : ∀ x, (e x).boxed = true) (hd : ∀ x, (e x).data = true) (hO : OpN enc P W et e p sz) :
    Op1 enc P W t (fun l : List α => .sl sz e l) (fun l => (∀ x ∈ l, p x) ∧ l.length ≤ maxLen) := fun n c y h => by
  rcases DataW.trod_slice ht h with ⟨hcs, _⟩ | ⟨a, len, cap, elems, rest, m, rfl, hcs, _, _, hlc, hcm, hel, hget, _⟩
  · have hc : c = .slice none 0 0 := by simpa using hcs
    subst hc
    refine ⟨[], ⟨by simp, Nat.zero_le _⟩, ?_, rfl⟩
    simp only [Rd, RdD]
    exact .inl ⟨trivial, none, 0, rfl⟩
  · have hc : c = .slice (some a) len cap := by simpa using hcs
    subst hc
    rw [hsz] at hget
    have hall : ∀ i : Fin len, ∃ x, p x ∧ ∃ cs, W.cells? 0 (a.add (i * sz)) sz = some cs ∧ cs.length = sz ∧ Ones cs ∧ RdL κ0 W (cellsOf (e x)) cs := fun i => by
      have h1 := hget i.1 i.2
      rw [List.getElem?_eq_getElem (by omega)] at h1
      obtain ⟨cs, h2, h3⟩ := Option.bind_eq_some_iff.1 h1
      obtain ⟨x, h4, h5, h6, h7⟩ := hO _ _ _ h3
      exact ⟨x, h4, cs, h2, h5, h6, h7⟩
    let xs : Fin len → α := fun i => Classical.choose (hall i)
    have hxs : ∀ i, p (xs i) ∧ ∃ cs, W.cells? 0 (a.add (i.1 * sz)) sz = some cs ∧ cs.length = sz ∧ Ones cs ∧ RdL κ0 W (cellsOf (e (xs i))) cs := fun i => Classical.choose_spec (hall i)
    refine ⟨List.ofFn xs, ⟨fun x hx => ?_, by simp; omega⟩, ?_, rfl⟩
    · obtain ⟨i, rfl⟩ := List.mem_ofFn.1 hx
      exact (hxs i).1
    · simp only [Rd, RdD]
      by_cases hl : len = 0
      · subst hl
        exact .inl ⟨by simp, _, _, rfl⟩
      · have hcell : ∀ i : Fin len, ∀ j, j < sz → ∃ v, W.cell? ((a.add (i.1 * sz)).add j) = some v := fun i j hj => by
          obtain ⟨_, cs, h1, h2, _⟩ := hxs i
          have := (cells_get h1).2 j hj
          rw [List.getElem?_eq_getElem (by omega)] at this
          exact ⟨_, this⟩
        obtain ⟨b, off, spot⟩ := a
        have hspot : spot = none := by
          obtain ⟨v, hv⟩ := hcell ⟨0, by omega⟩ 0 h0
          simpa [Addr.add] using World.cell?_spot hv
        subst hspot
        have hadd : ∀ i j, ((⟨b, off, none⟩ : Addr).add i).add j = ⟨b, off + i + j, none⟩ := fun i j => by rw [Addr.add_lit, Addr.add_lit]
        refine .inr ⟨b, off, cap, by simp, by simpa using hlc, ?_, ?_, fun i hi => ?_⟩
        · rintro (⟨k, hk⟩ | hk)
          · cases hk
          · exact hk
        · obtain ⟨v, hv⟩ := hcell ⟨0, by omega⟩ 0 h0
          rw [hadd] at hv
          rcases Nat.lt_or_ge b W.heap.size with h | h
          · exact h
          · simp [World.cell?, Array.getElem?_eq_none h] at hv
        · simp only [List.length_ofFn] at hi
          obtain ⟨_, cs, h1, h2, h3, h4⟩ := hxs ⟨i, hi⟩
          obtain ⟨u, g1, g2⟩ := Rd.of_cells (hb _) h3 h4
          refine ⟨u, ?_, ?_, by rw [g2]; exact h3, fun j hj => ?_⟩
          · rw [List.getElem_ofFn]
            exact Rd.data _ _ (hd _) g1
          · have : u.cells.toList.length = sz := by rw [g2, h2]
            simpa using this
          · have := (cells_get h1).2 j hj
            rw [hadd] at this
            rw [this, ← g2]
            simp

end
end Go.Sy

namespace Go.Sy

theorem Spec.view {P : Program} {f : FuncId} {A A' : List SV} {H H' : Obs} {R : SV} (hs : Sy.Spec P f A H R H') (h : ∀ κ w vs, RdL κ w A' vs → RdL κ w A vs) : Sy.Spec P f A' H R H' :=
  fun κ w vs hi hk hr ho => hs κ w vs hi hk (h κ w vs hr) ho

theorem Rd_nil_sl {κ : Ka} {w : World} {sz : Nat} {α : Type} {e : α → SV} {v : Value} (h : Rd κ w (.val (.slice none 0 0)) v) : Rd κ w (.sl sz e []) v := by
  simp only [Rd] at h
  simp only [Rd, RdD]
  exact .inl ⟨trivial, none, 0, h⟩

theorem Spec.viewR {P : Program} {f : FuncId} {A : List SV} {H H' : Obs} {R R' : SV} (hs : Sy.Spec P f A H R H') (h : ∀ κ w v, Rd κ w R v → Rd κ w R' v) : Sy.Spec P f A H R' H' :=
  fun κ w vs hi hk hr ho => (hs κ w vs hi hk hr ho).mono fun _ _ ⟨v, κ', e1, e2, e3, e4, e5⟩ => ⟨v, κ', e1, e2, e3, h κ' _ v e4, e5⟩
theorem RdD_nil_sl {M : Nat → Prop} {w : World} {sz : Nat} {α : Type} {e : α → SV} {v : Value} (h : v = .slice none 0 0) : RdD M w (.sl sz e []) v := by
  simp only [RdD]
  exact .inl ⟨trivial, none, 0, h⟩

/-- A row seen otherwise: each item can be. -/
theorem G_recode {C : Cx} {k : List KI} {s : SS} (d : Nat) {sz : Nat} {α β : Type} {e : α → SV} {l : List α} {e' : β → SV} {l' : List β} (h : s.h d = .row sz e l) (hl : l'.length = l.length)
    (hv : ∀ (M : Nat → Prop) (w : World) (i : Nat) (h1 : i < l.length) (h2 : i < l'.length) (v : Value), RdD M w (e l[i]) v → RdD M w (e' l'[i]) v) (hg : G C k ⟨s.σ, upd s.h d (.row sz e' l')⟩) : G C k s := fun κ a w hs =>
  hg κ a w ⟨hs.defers, hs.size, hs.inv, hs.ctx, hs.slot, fun i => by
    show ObOK κ w i (upd s.h d (.row sz e' l') i)
    by_cases hi : i = d
    · subst hi
      rw [upd_self]
      have := hs.obj i
      rw [h] at this
      rcases this with ⟨h1, rfl⟩ | ⟨b, cap, cs, T, fr, e1, e2, e3, e4, e5, e6⟩
      · exact .inl ⟨h1, List.eq_nil_of_length_eq_zero (by simpa using hl)⟩
      · refine .inr ⟨b, cap, cs, T, fr, by rw [hl]; exact e1, e2, e3, e4, by omega, fun i x hx => ?_⟩
        obtain ⟨hi2, rfl⟩ := hx
        obtain ⟨_, u, hu, hrest⟩ := e6 i (e (l[i]'(by omega))) ⟨by omega, rfl⟩
        exact ⟨hi2, u, hv _ _ i (by omega) hi2 u hu, hrest⟩
    · rw [upd_ne _ _ hi]; exact hs.obj i⟩
end Go.Sy

namespace Go.Sy

theorem RdL_set {κ : Ka} {w : World} {x : SV} : ∀ {l : List SV} {cs : List Value} {i : Nat}, RdL κ w l cs → (∀ y v, l[i]? = some y → Rd κ w y v → Rd κ w x v) → RdL κ w (l.set i x) cs
  | [], _, _, h, _ => h
  | y :: l, cs, 0, h, hx => by
    simp only [RdL, List.set_cons_zero] at h ⊢
    obtain ⟨v, r, e1, e2, e3⟩ := h
    exact ⟨v, r, e1, hx y v rfl e2, e3⟩
  | y :: l, cs, i + 1, h, hx => by
    simp only [RdL, List.set_cons_succ] at h ⊢
    obtain ⟨v, r, e1, e2, e3⟩ := h
    exact ⟨v, r, e1, e2, RdL_set e3 (fun z u hz hu => hx z u hz hu)⟩

/-- A nil slice in cell i of the box b becomes the name d, an empty row. -/
theorem G_adoptB {C : Cx} {k : List KI} {s : SS} (b i d sz : Nat) {α : Type} (e : α → SV) {l : List SV} (hb : s.h b = .box l) (h : l[i]? = some (.val (.slice none 0 0))) (hd : s.h d = .fresh) (hbd : Nat.beq b d = false)
    (hg : G C k ⟨s.σ, upd (upd s.h b (.box (l.set i (.osl d)))) d (.row sz e [])⟩) : G C k s := fun κ a w hs => by
  have hne : b ≠ d := fun e => by rw [e, Nat.beq_refl] at hbd; cases hbd
  have hnew : κ d = .new := by have := hs.obj d; rwa [hd] at this
  obtain ⟨st, inv⟩ := step_new hs.inv hnew (e := .nil) (Grew.refl w) (fun b hb => by cases hb)
  refine hg (setK κ d .nil) a w ⟨hs.defers, hs.size, inv, hs.ctx.step inv st, fun j => Rd.step st _ _ (hs.slot j), fun j => ?_⟩
  show ObOK _ w j (upd (upd s.h b (.box (l.set i (.osl d)))) d (.row sz e []) j)
  by_cases hj : j = d
  · subst hj; rw [upd_self]; exact .inl ⟨setK_self _ _ _, rfl⟩
  · rw [upd_ne _ _ hj]
    by_cases hjb : j = b
    · subst hjb
      rw [upd_self]
      have := ObOK.step st hj _ (hs.obj j)
      rw [hb] at this
      obtain ⟨b', cs, T, fr, e1, e2, e3, e4, e5⟩ := this
      refine ⟨b', cs, T, fr, e1, e2, e3, e4, RdL_set e5 fun y v hy hv => ?_⟩
      rw [h] at hy
      cases hy
      simp only [Rd] at hv
      simp only [Rd, setK_self]
      exact hv
    · rw [upd_ne _ _ hjb]; exact ObOK.step st hj _ (hs.obj j)
end Go.Sy

namespace Go.Sy

theorem run_equal_slice_nil {P : Program} (w : World) {t e : TypeId} (h : P.underlying t = some (.slice e)) (ad : Option Addr) (n cap c1 c2 : Nat) : (Op.equal t (.slice ad n cap) (.slice none c1 c2)).run P w = .ok ad.isNone w := by
  have key : ∀ d, (Op.equalIn (d + 1) t (.slice ad n cap) (.slice none c1 c2)).run P w = .ok ad.isNone w := fun d => by
    cases ad <;> simp [Op.equalIn, run_underlying h]
  exact key 9999

/-- What a slice is, whose length is known. -/
inductive NilT (s : SS) : SV → List Nat → Nat → Prop
  | sl {sz : Nat} {α : Type} {e : α → SV} {l : List α} : NilT s (.sl sz e l) [] l.length
  | row {k sz : Nat} {α : Type} {e : α → SV} {l : List α} (h : s.h k = .row sz e l) : NilT s (.osl k) [k] l.length

theorem NilT.at {C : Cx} {s : SS} {κ : Ka} {a : Act} {w : World} {x : Operand} {rd : List Nat} {n : Nat} (hs : St C.F C.n s κ a w) (hx : NilT s (ev s x) rd n) : ∃ (ad : Option Addr) (m cap : Nat), a.eval x = .slice ad m cap ∧ (ad.isNone = true → n = 0) := by
  have h1 : Rd κ w (ev s x) (a.eval x) := hs.ev x
  generalize ev s x = y at *
  cases hx with
  | @sl sz α e l =>
    simp only [Rd, RdD] at h1
    rcases h1 with ⟨rfl, a', cap, h1⟩ | ⟨b, off, cap, h1, _⟩
    · exact ⟨_, _, _, h1, fun _ => rfl⟩
    · exact ⟨_, _, _, h1, fun h => by cases h⟩
  | @row k' sz α e l hr =>
    have hob := hs.obj k'
    rw [hr] at hob
    simp only [Rd] at h1
    rcases hob with ⟨hκ, hl⟩ | ⟨b, cap, _, _, _, hκ, _⟩
    · rw [hκ] at h1
      exact ⟨_, _, _, h1, fun _ => by rw [hl]; rfl⟩
    · rw [hκ] at h1
      exact ⟨_, _, _, h1, fun h => by cases h⟩

/-- A slice against nil: of one that is empty both may be. -/
theorem stepNil {C : Cx} {k : List KI} {s : SS} {all : Array Oper} {o : Oper} {rest : List Oper} {op : BinOp} {t yt : TypeId} {ti : TI} {et : TypeId} {sz eb n : Nat} {ez : List Value} {x y : Operand} {rd : List Nat} (h : o.op = .binOp op t x y yt) (hop : op = .eql ∨ op = .neq)
    (ht : C.Γ.get t = some ti) (hk : ti.k = .slice et sz eb ez) (hy : ev s y = .val (.slice none 0 0)) (hx : NilT s (ev s x) rd n) (hd : dstOK C.n o = true) (hw : guardV C.n all o s = some true)
    (hg : ∀ b : Bool, (b = true → n = 0) → G C (.ops all rest :: k) (s.upd o.dst ⟨.val (.bool (if op = .eql then b else !b)), rd, []⟩)) : G C (.ops all (o :: rest) :: k) s := fun κ a w hs => by
  have h2 : Rd κ w (ev s y) (a.eval y) := hs.ev y
  rw [hy] at h2
  obtain ⟨ad, m, cap, e1, e2⟩ := hx.at hs
  obtain ⟨d, info, z, k1, k2, _⟩ := C.Γ.ok t ti ht
  rw [hk] at k2
  simp only [TK.ok] at k2
  have hrun := run_equal_slice_nil (P := C.P) w (t := t) (e := et) (by first | exact k2.1 ▸ k1 | (rw [k1, k2.1])) ad m cap 0 0
  have hG := hg ad.isNone e2
  have hv := h2.val
  refine wpList_step fun K hK => ?_
  rw [if_pos (want_ok hs (guardV_ok hw).2 (guardV_ok hw).1)]
  have hx' : (execOp a.eval o).run C.P w = .ok (.value (.bool (if op = .eql then ad.isNone else !ad.isNone))) w := by
    rcases hop with rfl | rfl <;> simp [execOp, h, e1, hv, eqGuard, binOp, hrun]
  simp only [Oper.wp, hx', Oper.upon]
  exact hK _ _ (hG κ _ w (hs.put (U := ⟨.val (.bool (if op = .eql then ad.isNone else !ad.isNone)), rd, []⟩) (dstOK_ok hd) (Step.refl _ κ w) hs.inv (by simp [Rd]) (fun p hp => by cases hp)))

/-- A slice that is there, or not, against nil. -/
theorem good_nil_val {P : Program} (Γ : Ty P) {o : Oper} {s : SS} {op : BinOp} {t yt : TypeId} {ti : TI} {et : TypeId} {sz eb n cap : Nat} {ez : List Value} {ad : Option Addr} {x y : Operand} (h : o.op = .binOp op t x y yt) (hop : op = .eql ∨ op = .neq)
    (ht : Γ.get t = some ti) (hk : ti.k = .slice et sz eb ez) (hy : ev s y = .val (.slice none 0 0)) (hx : ev s x = .val (.slice ad n cap)) : Good P o s ⟨.val (.bool (if op = .eql then ad.isNone else !ad.isNone)), [], []⟩ :=
  Good.pure fun κ a w _ hrd _ => by
    have h1 := hrd x (by simp [h, Op.operands])
    have h2 := hrd y (by simp [h, Op.operands])
    rw [hx] at h1
    rw [hy] at h2
    obtain ⟨d, info, z, k1, k2, _⟩ := Γ.ok t ti ht
    rw [hk] at k2
    simp only [TK.ok] at k2
    have hrun := run_equal_slice_nil (P := P) w (t := t) (e := et) (by first | exact k2.1 ▸ k1 | (rw [k1, k2.1])) ad n cap 0 0
    refine ⟨.bool (if op = .eql then ad.isNone else !ad.isNone), ?_, by simp [Rd]⟩
    rcases hop with rfl | rfl <;> simp [execOp, h, h1.val, h2.val, eqGuard, binOp, hrun]

/-- A slice that has items against nil. -/
theorem good_nil_sl {P : Program} (Γ : Ty P) {o : Oper} {s : SS} {op : BinOp} {t yt : TypeId} {ti : TI} {et : TypeId} {sz eb sz2 : Nat} {ez : List Value} {α : Type} {e : α → SV} {l : List α} {x y : Operand} (h : o.op = .binOp op t x y yt) (hop : op = .eql ∨ op = .neq)
    (ht : Γ.get t = some ti) (hk : ti.k = .slice et sz eb ez) (hy : ev s y = .val (.slice none 0 0)) (hx : ev s x = .sl sz2 e l) (hne : l ≠ []) : Good P o s ⟨.val (.bool (if op = .eql then false else true)), [], []⟩ :=
  Good.pure fun κ a w _ hrd _ => by
    have h1 := hrd x (by simp [h, Op.operands])
    have h2 := hrd y (by simp [h, Op.operands])
    rw [hx] at h1
    rw [hy] at h2
    obtain ⟨d, info, z, k1, k2, _⟩ := Γ.ok t ti ht
    rw [hk] at k2
    simp only [TK.ok] at k2
    simp only [Rd, RdD] at h1
    rcases h1 with ⟨h1, _⟩ | ⟨b, off, cap, h1, _⟩
    · exact absurd h1 hne
    have hrun := run_equal_slice_nil (P := P) w (t := t) (e := et) (by first | exact k2.1 ▸ k1 | (rw [k1, k2.1])) (some ⟨b, off, none⟩) l.length cap 0 0
    refine ⟨.bool (if op = .eql then false else true), ?_, by simp [Rd]⟩
    rcases hop with rfl | rfl <;> simp [execOp, h, h1, h2.val, eqGuard, binOp, hrun]

/-- A struct of a truth and a struct. -/
structure EqN (P : Program) (t : TypeId) (ks : List EK) (n : Nat) : Prop where
  f : ∃ f0 f1 i1, P.underlying t = some (.struct #[f0, f1]) ∧ f0.name ≠ "_" ∧ f0.offset = 0 ∧ P.underlying f0.type = some .bool ∧ f1.name ≠ "_" ∧ f1.offset = 1 ∧ EqOK P f1.type ks ∧ P.info? f1.type = some i1 ∧ P.cellsOf f1.type = n
  stood : P.stoodInHeld t = false
  guard : P.eqGuardType P.depth t = false

theorem good_eq_nest {P : Program} {o : Oper} {s : SS} {op : BinOp} {t yt : TypeId} {x y : Operand} {l m : List SV} {p q : Bool} {ks : List EK} {n : Nat} {r : Bool} (h : o.op = .binOp op t x y yt) (hop : op = .eql ∨ op = .neq) (hq : EqN P t ks n)
    (hx : ev s x = .agg (.val (.bool p) :: l)) (hy : ev s y = .agg (.val (.bool q) :: m)) (hl : l.length = n) (hm : m.length = n) (hr : eqS ks l m = some r) : Good P o s ⟨.val (.bool (if op = .eql then (p == q && r) else !(p == q && r))), [], []⟩ :=
  Good.pure fun κ a w _ hrd _ => by
    have h1 := hrd x (by simp [h, Op.operands])
    have h2 := hrd y (by simp [h, Op.operands])
    rw [hx] at h1
    rw [hy] at h2
    simp only [Rd, RdL] at h1 h2
    obtain ⟨cs, e1, _, v0, c1, rfl, e3, e4⟩ := h1
    obtain ⟨ds, f1, _, u0, d1, rfl, f3, f4⟩ := h2
    subst e3
    subst f3
    obtain ⟨⟨g0, g1, i1, a1, a2, a3, a4, a5, a6, a7, a8, a9⟩, hst, hgd⟩ := hq
    have lc : c1.length = n := by rw [← hl]; exact RdL.length e4
    have ld : d1.length = n := by rw [← hm]; exact RdL.length f4
    have hsz := run_sizeOf (P := P) (w := w) a8
    have p0 : ∀ (b : Bool) (c : List Value), (part g0.type (Value.bool b :: c).toArray 0).run P w = .ok (.bool b) w := fun b c => by simp [part, isAgg, run_underlying a4]
    have p1 : ∀ (b : Bool) (c : List Value), c.length = n → (part g1.type (Value.bool b :: c).toArray 1).run P w = .ok (.agg c.toArray) w := fun b c hc => by
      have hex : ((Value.bool b :: c).toArray.extract 1 (1 + n)) = c.toArray := by
        apply Array.ext'
        simp [Array.toList_extract, hc]
        exact List.take_of_length_le (by omega)
      simp only [part, isAgg, run_underlying a7.under, Sem.run_bind, Result.andThen_ok, hsz, a9, if_true, Sem.run_pure, hex]
    have hin : ∀ d, (Op.equalIn (d + 2) g1.type (.agg c1.toArray) (.agg d1.toArray)).run P w = .ok r w := fun d => by
      rw [run_equalIn_struct w (d + 1) g1.type _ _ a7.under a7.stood]
      exact eq_run (κ := κ) d ks _ 0 l m r a7.fields (by simpa using e4) (by simpa using f4) hr
    have hb : ∀ d, (Op.equalIn (d + 1) g0.type (.bool p) (.bool q)).run P w = .ok (p == q) w := fun d => run_equalIn_bool' w d g0.type _ _ a4
    have hrun : (Op.equal t (.agg (Value.bool p :: c1).toArray) (.agg (Value.bool q :: d1).toArray)).run P w = .ok (p == q && r) w := by
      show (Op.equalIn (9999 + 1) t _ _).run P w = .ok _ w
      have hf : P.fieldsOf t = #[g0, g1] := by simp [Program.fieldsOf, a1]
      rw [run_equalIn_struct w 9999 t _ _ (by rw [hf]; exact a1) hst, hf]
      simp only [Op.eqFields, if_pos a2, if_pos a5, Sem.run_bind, a3, a6, p0, p1 p c1 lc, p1 q d1 ld, Result.andThen_ok, hb 9998, hin 9997]
      cases hpq : (p == q)
      · simp
      · have q1 := p1 p c1 lc
        have q2 := p1 q d1 ld
        have q3 := hin 9997
        simp only [Bool.not_true, Bool.false_eq_true, if_false, Sem.run_bind, q1, q2, Result.andThen_ok, q3]
        cases r <;> simp
    have hg : (eqGuard op t x y (.agg (Value.bool p :: c1).toArray) (.agg (Value.bool q :: d1).toArray)).run P w = .ok () w := by
      rcases hop with rfl | rfl <;> simp [eqGuard, hgd]
    refine ⟨.bool (if op = .eql then (p == q && r) else !(p == q && r)), ?_, by simp [Rd]⟩
    rcases hop with rfl | rfl <;> simp [execOp, h, e1, f1, hg, binOp, hrun]

theorem eqFs_get {P : Program} : ∀ {fs : List Field} {ks : List EK} {i f : Nat}, eqFs P i fs ks → f < ks.length → ∃ x k, fs[f]? = some x ∧ x.offset = i + f ∧ P.underlying x.type = some (EK.desc k)
  | [], [], i, f, _, h => absurd h (by simp)
  | [], _ :: _, i, f, h, _ => by simp [eqFs] at h
  | _ :: _, [], i, f, h, _ => by simp [eqFs] at h
  | x :: fs, k :: ks, i, 0, h, _ => by
    simp only [eqFs] at h
    exact ⟨x, k, rfl, by omega, h.2.2.1⟩
  | x :: fs, k :: ks, i, f + 1, h, hf => by
    simp only [eqFs] at h
    obtain ⟨y, k', h1, h2, h3⟩ := eqFs_get h.2.2.2 (show f < ks.length by simpa using hf)
    exact ⟨y, k', by simpa using h1, by omega, h3⟩

/-- A field of a struct that is held as a value. -/
theorem good_field {P : Program} {o : Oper} {s : SS} {t : TypeId} {x : Operand} {f : Nat} {l : List SV} {y : SV} {ks : List EK} (hq : EqOK P t ks) (h : o.op = .field t x f) (hx : ev s x = .agg l) (hf : f < ks.length) (hy : getI l f = some y) : Good P o s ⟨y, [], []⟩ :=
  Good.pure fun κ a w _ hr _ => by
    have h1 := hr x (by simp [h, Op.operands])
    rw [hx] at h1
    simp only [Rd] at h1
    obtain ⟨cs, e1, _, e2⟩ := h1
    obtain ⟨v, e3, e4⟩ := e2.getT hy
    obtain ⟨g, k, g1, g2, g3⟩ := eqFs_get hq.fields hf
    have g1' : (P.fieldsOf t)[f]? = some g := by simpa using g1
    have hp := run_part (P := P) w g3 cs.toArray e3
    rw [Nat.zero_add] at g2
    refine ⟨v, ?_, e4⟩
    simp [execOp, h, e1, Instr.field, run_underlying hq.under, g1', asAgg, g2, hp]

def KeepL (s : SS) : List (Nat × Ob) → Prop
  | [] => True
  | (k, o) :: r => s.h k = o ∧ KeepL s r
theorem KeepL.all {s : SS} : ∀ {l : List (Nat × Ob)}, KeepL s l → ∀ p ∈ l, s.h p.1 = p.2
  | [], _, p, hp => by cases hp
  | (k, o) :: r, h, p, hp => by
    rcases List.mem_cons.1 hp with rfl | hp
    · exact h.1
    · exact KeepL.all h.2 p hp

/-- A call in a drawing region whose objects are behind it as they were ahead of it. -/
theorem stepD2 {C : Cx} {k : List KI} {s : SS} {all : Array Oper} {done : List Stp} {o : Oper} {rest : List Oper} {U : Up} (hg : Good C.P o s U) (hk : KeepL s U.objs) (hi : all[done.length]? = some o) (hw : guardV C.n all o s = some true)
    (h : DR C k all (done ++ [⟨done.length, o, ⟨U.v, U.rd ++ U.ws, []⟩, true⟩]) rest (s.upd o.dst ⟨U.v, U.rd ++ U.ws, []⟩)) (hn : (isIdx o || isSt o) = false := by rfl) : DR C k all done (o :: rest) s :=
  DR_op _ (.of2 (hg.keep hk.all) hn) hi (guardV_ok hw).1 h

end Go.Sy

namespace Go.Sy

theorem step_grew {κ : Ka} {w w' : World} (hi : Inv κ w) (g : Grew w w') : Step (fun _ => False) κ w κ w' ∧ Inv κ w' :=
  ⟨⟨g.size, g.os, g.tape, g.output, rfl, fun b hb => g.blk b (hi.mbnd b hb), fun b hb _ => g.blk b hb, fun k b _ hb => g.blk b (hi.bnd k b hb), fun _ _ => rfl, fun _ h => h.elim, fun _ h => .inl h⟩,
   ⟨hi.inj, fun k b h => Nat.lt_of_lt_of_le (hi.bnd k b h) g.size, hi.apart, fun b h => Nat.lt_of_lt_of_le (hi.mbnd b h) g.size⟩⟩

/-- A contract of the kit's own kind: a plain value comes back, and new blocks at most lie behind. -/
theorem Spec.of_calls {P : Program} {f : FuncId} {A : List SV} {H : Obs} {u : Value}
    (h : ∀ (κ : Ka) (w : World) (vs : List Value), Inv κ w → RdL κ w A vs → H.ok κ w → Calls P f vs.toArray w fun e w' => e = .returned u ∧ RowKit.Below w.heap.size w w') : Spec P f A H (.val u) H := by
  intro κ w vs hi _ hr ho
  refine (h κ w vs hi hr ho).mono fun e w' hw => ?_
  obtain ⟨he, hw⟩ := hw
  have g : Grew w w' := ⟨hw.os, hw.tape, hw.output, hw.size, hw.block⟩
  have st := step_grew hi g
  exact ⟨u, κ, he, (Ctx.refl κ w).step st.2 st.1, st.2, by simp [Rd], fun p hp => ObOK.step st.1 (by simp) p.2 (ho p hp)⟩

/-- The cells of a slice of strings that is data. -/
theorem strs_cells {κ : Ka} {w : World} {l : List ByteArray} {v : Value} (h : Rd κ w (.sl 1 strSV l) v) :
    (l = [] ∧ ∃ a c, v = .slice a 0 c) ∨ ∃ b o c, v = .slice (some ⟨b, o, none⟩) l.length c ∧ l.length ≤ c ∧ b < w.heap.size ∧ ∀ (j : Nat) x, l[j]? = some x → w.cell? ⟨b, o + j, none⟩ = some (.string x) := by
  simp only [Rd, RdD] at h
  rcases h with ⟨h1, h2⟩ | ⟨b, off, cap, h1, h0, h2, h3, h4⟩
  · exact .inl ⟨h1, h2⟩
  · refine .inr ⟨b, off, cap, h1, h0, h3, fun j x hj => ?_⟩
    obtain ⟨hlt, he⟩ := List.getElem?_eq_some_iff.1 hj
    obtain ⟨u, h5, h6⟩ := h4 j hlt
    rw [he] at h5
    simp only [strSV, RdD] at h5
    subst h5
    have := h6.2.2 0 (by omega)
    simp only [Nat.mul_one, Nat.add_zero] at this
    exact this

theorem good_min {P : Program} {o : Oper} {s : SS} {x y : Operand} {at_ : Array TypeId} {k k' : IntKind} {m n : Int} (h : o.op = .call ⟨.builtin .min, #[x, y], at_⟩)
    (hx : ev s x = .val (.int k m)) (hy : ev s y = .val (.int k' n)) : Good P o s ⟨.val (.int k (if n < m then n else m)), [], []⟩ :=
  Good.pure fun κ a w _ hr ho => by
    have h1 := hr x (by simp [h, Op.operands, Call.operands])
    have h2 := hr y (by simp [h, Op.operands, Call.operands])
    rw [hx] at h1
    rw [hy] at h2
    refine ⟨.int k (if n < m then n else m), ?_, by simp [Rd]⟩
    simp [execOp, h, resolve, invoke, builtin, Builtin.min_, Builtin.min2, h1.val, h2.val]

theorem good_min_le {P : Program} {o : Oper} {s : SS} {x y : Operand} {at_ : Array TypeId} {k k' : IntKind} {m n : Int} (h : o.op = .call ⟨.builtin .min, #[x, y], at_⟩)
    (hx : ev s x = .val (.int k m)) (hy : ev s y = .val (.int k' n)) (hle : m ≤ n) : Good P o s ⟨.val (.int k m), [], []⟩ := by
  have := good_min (P := P) h hx hy
  rwa [if_neg (by omega)] at this

/-- Texts, joined. -/
def joinT (l : List ByteArray) (sep : ByteArray) : ByteArray := ⟨(Lib.join (l.map (·.data.toList)) sep.data.toList).toArray⟩

def sizes (l : List ByteArray) : Nat := (l.map (·.size)).sum

theorem join_le : ∀ (l : List (List UInt8)) (sep : List UInt8), (Lib.join l sep).length ≤ (l.map (·.length)).sum + sep.length * l.length
  | [], _ => by simp [Lib.join_nil]
  | x :: r, sep => by
    rw [Lib.join_length]
    have : Lib.lens (x :: r) = ((x :: r).map (·.length)).sum := by
      clear sep
      induction (x :: r) with
      | nil => rfl
      | cons a t ih => simp [Lib.lens, ih]
    rw [this, List.length_cons, Nat.mul_succ]
    omega

theorem join_few {l : List ByteArray} {sep : ByteArray} (h1 : sizes l ≤ 70368744177664) (h2 : sep.size * l.length ≤ 70368744177664) : (Lib.join (l.map (·.data.toList)) sep.data.toList).length ≤ 140737488355328 := by
  have := join_le (l.map (·.data.toList)) sep.data.toList
  have e : (l.map (·.data.toList)).map (·.length) = l.map (·.size) := by
    rw [List.map_map]
    apply List.map_congr_left
    intro a _
    rfl
  rw [e, List.length_map] at this
  have e2 : sep.data.toList.length = sep.size := rfl
  rw [e2] at this
  unfold sizes at h1
  omega

end Go.Sy

namespace Go.Sy

def WhileInv (C : Cx) {β : Type} (I : β → Prop) (L : β → List (Nat × SV)) (O : β → Obs) (μ : β → Nat) (x : β) (a : Act) (w : World) : Prop :=
  ∃ x' : {y : β // I y}, ∃ κ, μ x'.1 < μ x ∧ St C.F C.n (mkS (L x'.1) (O x'.1)) κ a w

theorem G_while {C : Cx} {k : List KI} {s : SS} {body : Code} {β : Type} (I : β → Prop) (L : β → List (Nat × SV)) (O : β → Obs) (μ : β → Nat) (x₀ : β) (ρ : List (Nat × Nat)) (h0 : I x₀) (hsub : Sub C s ρ (L x₀) (O x₀))
    (h : ∀ x, I x → G C (.code body :: .inv (WhileInv C I L O μ x) :: k) (mkS (L x) (O x))) : G C (.code (.loop body) :: k) s :=
  G_loop (α := {y : β // I y}) (fun x => L x.1) (fun x => O x.1) (fun x => μ x.1) ⟨x₀, h0⟩ ρ hsub (fun x => h x.1 x.2)

theorem G_whileN {C : Cx} {k : List KI} {s : SS} {β : Type} {I : β → Prop} {L : β → List (Nat × SV)} {O : β → Obs} {μ : β → Nat} {x : β} (x' : β) (ρ : List (Nat × Nat)) (h' : I x') (hμ : μ x' < μ x) (hsub : Sub C s ρ (L x') (O x')) :
    G C (.inv (WhileInv C I L O μ x) :: k) s := fun _ _ _ hs => ⟨⟨x', h'⟩, _, hμ, hsub.st hs⟩

/-- A row goes over to another name, wherever it is held; the old name is given up. -/
theorem G_rename {C : Cx} {kk : List KI} {s : SS} (k d : Nat) {sz : Nat} {α : Type} {e : α → SV} {l : List α} (h : s.h k = .row sz e l) (hd : s.h d = .fresh) (hkd : k ≠ d)
    (hg : G C kk ⟨fun i => frz k (.osl d) (s.σ i), upd (fun j => bif Nat.beq j k then .non else frzO k (.osl d) (s.h j)) d (.row sz e l)⟩) : G C kk s := fun κ a w hs => by
  have hob := hs.obj k
  rw [h] at hob
  have hnew : κ d = .new := by have := hs.obj d; rwa [hd] at this
  have fin : ∀ κ' : Ka, (∀ j, j ≠ k → j ≠ d → κ' j = κ j) → Step (fun j => j = k ∨ j = d) κ w κ' w → Inv κ' w → (∀ v, Rd κ w (.osl k) v → Rd κ' w (.osl d) v) → ObOK κ' w d (.row sz e l) → den C.P C.B kk .normal a w := by
    intro κ' hne st inv hv ho
    refine hg κ' a w ⟨hs.defers, hs.size, inv, hs.ctx.step inv st, fun j => frz_ok st hv _ _ (hs.slot j), fun j => ?_⟩
    show ObOK κ' w j (upd (fun j => bif Nat.beq j k then .non else frzO k (.osl d) (s.h j)) d (.row sz e l) j)
    by_cases hj : j = d
    · subst hj; rw [upd_self]; exact ho
    · rw [upd_ne _ _ hj]
      by_cases hj2 : j = k
      · subst hj2; rw [show Nat.beq j j = true from Nat.beq_refl j]; trivial
      · rw [show Nat.beq j k = false from by cases hb : Nat.beq j k with | false => rfl | true => exact absurd (Nat.eq_of_beq_eq_true hb) hj2]
        have hb := ObOK.step st (fun e => e.elim hj2 hj) _ (hs.obj j)
        have h0 := hs.obj j
        show ObOK κ' w j (frzO k (.osl d) (s.h j))
        cases hh : s.h j with
        | box m =>
          rw [hh] at h0 hb
          obtain ⟨b, cs, T, fr, e1, e2, e3, e4, e5⟩ := h0
          exact ⟨b, cs, T, fr, (hne j hj2 hj).trans e1, e2, e3, e4, frzL_ok st hv m cs e5⟩
        | fresh => rw [hh] at hb; exact hb
        | non => rw [hh] at hb; exact hb
        | row sz' e' l' => rw [hh] at hb; exact hb
        | lit sz' svs => rw [hh] at hb; exact hb
  rcases hob with ⟨h1, rfl⟩ | ⟨b, cap, cs, T, fr, e1, e2, e3, e4, e5, e6⟩
  · have st := step_new (inv_kill hs.inv (some k)) (by show setK κ k .dead d = .new; rw [setK_ne _ _ (Ne.symm hkd)]; exact hnew) (e := .nil) (Grew.refl w) (fun b hb => by cases hb)
    refine fin _ (fun j h1 h2 => by rw [setK_ne _ _ h2]; exact setK_ne _ _ h1) (((step_kill (some k)).weaken (fun j hj => .inl (Option.some.inj hj).symm)).trans (st.1.weaken (fun j hj => .inr hj))) st.2 (fun v hv => ?_) (.inl ⟨setK_self _ _ _, rfl⟩)
    simp only [Rd, h1] at hv
    simp [Rd, setK_self, hv]
  · obtain ⟨st, inv⟩ := step_over (n' := l.length) (w' := w) hs.inv e1 hnew rfl rfl rfl rfl (fun _ _ => rfl)
    refine fin _ (fun j h1 h2 => by rw [setK_ne _ _ h2]; exact setK_ne _ _ h1) st inv (fun v hv => ?_) (.inr ⟨b, cap, cs, T, fr, setK_self _ _ _, e2, e3, e4, e5, fun i x hx => ?_⟩)
    · simp only [Rd, e1] at hv
      simp [Rd, setK_self, hv]
    · obtain ⟨q1, u, q2, q3⟩ := e6 i x hx
      exact ⟨q1, u, RdD.keep st.keeps _ _ q2, q3⟩

/-- A literal's row seen by its items. -/
theorem G_litR {C : Cx} {k : List KI} {s : SS} (d : Nat) {sz : Nat} {α : Type} (e : α → SV) (l : List α) {svs : List SV} (h : s.h d = .lit sz svs) (hl : l.map e = svs) (hg : G C k ⟨s.σ, upd s.h d (.row sz e l)⟩) : G C k s := fun κ a w hs => by
  refine hg κ a w ⟨hs.defers, hs.size, hs.inv, hs.ctx, hs.slot, fun j => ?_⟩
  show ObOK κ w j (upd s.h d (.row sz e l) j)
  by_cases hj : j = d
  · subst hj
    rw [upd_self]
    have hob := hs.obj j
    rw [h] at hob
    have hlen : l.length = svs.length := by rw [← hl, List.length_map]
    obtain ⟨b, cap, cs, T, fr, e1, e2, e3, e4, e5, e6⟩ := hob
    exact .inr ⟨b, cap, cs, T, fr, by rw [hlen]; exact e1, e2, e3, e4, by omega, fun i x hx => by rw [hlen]; exact e6 i x (rowF_lit hl i x hx)⟩
  · rw [upd_ne _ _ hj]; exact hs.obj j

end Go.Sy

namespace Go.Sy

theorem Good.dataT {P : Program} {o : Oper} {s : SS} {d sz : Nat} {ks : List Nat} {k : Option Nat} {α : Type} {e : α → SV} {l : List α} (h : Good P o s ⟨.osl d, ks, appObjs k d (.row sz e l)⟩) :
    Good P o s ⟨.sl sz e l, ks, appObjs k d .non⟩ := fun κ a w hi hr ho N Q hN => by
  have hws : Up.ws ⟨SV.osl d, ks, appObjs k d (.row sz e l)⟩ = Up.ws ⟨SV.sl sz e l, ks, appObjs k d .non⟩ := by
    cases k <;> rfl
  refine h κ a w hi hr (fun j hj => ho j (by rw [← hws]; exact hj)) N Q fun v κ' w' st inv hv hob => ?_
  have hmem : d ∈ Up.ws ⟨SV.sl sz e l, ks, appObjs k d .non⟩ := by cases k <;> simp [Up.ws, appObjs]
  have hrow : ObOK κ' w' d (.row sz e l) := hob (d, .row sz e l) (by cases k <;> simp [appObjs])
  have st2 := step_kill (κ := κ') (w := w') (some d)
  have inv2 := inv_kill inv (some d)
  have hx : Rd (setK κ' d .dead) w' (.sl sz e l) v := by
    rcases hrow with ⟨h1, rfl⟩ | h1
    · simp only [Rd, h1] at hv
      simp only [Rd, RdD]
      exact .inl ⟨by simp, none, 0, hv⟩
    · refine h1.freeze hv st2.keeps.out (fun b hb => ⟨inv.bnd d b hb, ?_⟩)
      rintro (⟨q, hq⟩ | hq)
      · by_cases hqd : q = d
        · subst hqd; rw [setK_self] at hq; cases hq
        · rw [setK_ne _ _ hqd] at hq
          exact hqd (inv.inj q d b hq hb)
      · exact inv.apart d b hb hq
  refine hN v _ w' ((st.weaken (fun j hj => by rw [← hws]; exact hj)).trans (st2.weaken (fun j hj => by cases hj; exact hmem))) inv2 hx (fun x hxm => ?_)
  have : x.2 = .non := by
    cases k with
    | none => have := List.mem_singleton.1 hxm; rw [this]
    | some j => rcases List.mem_cons.1 hxm with h1 | h1
                · rw [h1]
                · have := List.mem_singleton.1 h1; rw [this]
  rw [this]
  trivial

end Go.Sy
