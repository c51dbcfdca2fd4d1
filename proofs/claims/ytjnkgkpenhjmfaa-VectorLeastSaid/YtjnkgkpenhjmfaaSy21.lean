/-
  The symbolic layer, 21: a law's contract, as the row asks for it.
-/
import Derived.Test.YtjnkgkpenhjmfaaSy20
import Derived.ProofKit
import Derived.OpenShut
namespace Go.Sy
open Go.ChangeShapes Go.WideShapes Go.ChangeAt Go.RowKit

/-- Nobody owns anything. -/
def κ0 : Ka := ⟨fun _ => .new, fun _ => False⟩

theorem inv0 (w : World) : Inv κ0 w :=
  ⟨fun i j b h => (by cases h), fun k b h => (by cases h), fun k b h => (by cases h), fun b h => False.elim h⟩

theorem below_of_ctx {w w' : World} {κ' : Ka} (c : Ctx ⟨w, κ0⟩ κ' w') : Below w.heap.size w w' :=
  ⟨c.os, c.tape, c.output, c.size, fun k hk => c.old k hk (fun j h => by cases h)⟩

section
variable {H : Type} {enc : TypeId × Value → H} {P : Program}

theorem trodAll_below {W W' : World} (hl : laidOutB P = true) (hb : Below W.heap.size W W') : ∀ {ts : List TypeId} {vs : List Value} {ds : List (DataW H)} {ps : List MemPlace}, (∀ t ∈ ts, P.readableRec t = true ∧ t < P.types.size) →
    (∀ x ∈ ps, x.block < W.heap.size) → DataW.TrodAll enc P W 0 (fun _ => true) true ts vs ds ps → DataW.TrodAll enc P W' 0 (fun b => decide (b < W.heap.size)) true ts vs ds ps
  | [], _, _, _, _, _, h => by
    obtain ⟨rfl, rfl, rfl⟩ := trodAll_nil h
    rfl
  | t :: ts, _, _, _, ht, hp, h => by
    obtain ⟨v, vs, d, ds, p, q, rfl, rfl, rfl, h1, h2⟩ := trodAll_cons h
    have := ht t (by simp)
    exact ⟨p, q, Below.trod hl this.1 this.2 h1 hb (fun x hx => hp x (by simp [hx])), trodAll_below hl hb (fun t h => ht t (by simp [h])) (fun x hx => hp x (by simp [hx])) h2, rfl⟩

/-- Whoever calls a law: it answers true, and its arguments read as they did. -/
theorem law_calls {f : FuncId} {fn : Func} {s : ChangeSpec} {W : World} {args : Array Value} {ds gs : List (DataW H)} {before : List MemPlace} {tb : TypeId} {A : List SV} (hv : s.vars = []) (hl : laidOutB P = true)
    (hW : DataW.Whole enc P fn.params.toList s.vars false W args.toList ds gs before) (hts : ∀ t ∈ fn.params.toList, P.readableRec t = true ∧ t < P.types.size) (hrt : fn.resultTypes = #[tb]) (hbt : P.underlying tb = some .bool)
    (hfn : ∀ gs : List (DataW H), gs = [] → s.fn H (ds ++ gs) = { results := [.lit (.bool true)], args := ds }) (hA : RdL κ0 W A args.toList) (hs : Sy.Spec P f A [] (boolSV true) []) :
    Calls P f args W fun e W' => ∃ v, e = .returned v ∧ s.post enc P fn false true false false W args v W' := by
  have hc := hs κ0 W args.toList (inv0 W) (fun k hk => absurd rfl hk) hA (fun p hp => by cases hp)
  simp only [Array.toArray_toList] at hc
  refine hc.mono ?_
  rintro e W' ⟨v, κ', rfl, ctx, inv, hR, _⟩
  have hvv : v = .bool true := by simpa [boolSV, Rd] using hR
  subst hvv
  have hb := below_of_ctx ctx
  have hW' := hW
  obtain ⟨p, q, h1, h2, h3, h4, h5⟩ := hW
  have hgs : gs = [] ∧ q = [] := by
    rw [hv] at h2
    exact trodVars_none h2
  obtain ⟨rfl, rfl⟩ := hgs
  rw [List.append_nil] at h3
  subst h3
  have hlt : ∀ x ∈ before, x.block < W.heap.size := fun x hx => by simpa using hW'.lt x hx
  refine ⟨_, rfl, ds, [], before, [], before, [], hW', ?_, ?_, ?_, ?_, fun h => by cases h⟩
  · rw [hfn [] rfl, hrt]
    exact trodAll_mk1 (shut_bool hbt true)
  · rw [hfn [] rfl]
    exact trodAll_below hl hb hts hlt h1
  · rw [hv, hfn [] rfl]
    rfl
  · exact hb.frame _

theorem rd_bytes {W : World} {base : Nat} {t e : TypeId} {v : Value} {d : DataW H} {ps : List MemPlace} (ht : P.underlying t = some (.slice e)) (he : P.underlying e = some (.int .u8)) (hc : P.cellsOf e = 1)
    (hval : Value.okWide P W .any base t v) (h1 : DataW.Trod enc P W 0 (fun _ => true) true t v d ps) : ∃ l : List UInt8, Rd κ0 W (.sl 1 byteSV l) v := by
  obtain ⟨a1, len, cap, rfl⟩ := okWide_slice ht hval
  obtain ⟨fuel, hf⟩ := h1
  rcases open_ints ht he hc hf with ⟨hcs, hx⟩ | ⟨a, len', cap', zs, hcs, _, hl, hm, hz, hx, hcell, hwz⟩
  · simp [Value.cells] at hcs
    obtain ⟨rfl, rfl, rfl⟩ := hcs
    refine ⟨[], ?_⟩
    simp only [Rd, RdD]
    exact .inl ⟨trivial, none, 0, rfl⟩
  · simp [Value.cells] at hcs
    obtain ⟨rfl, rfl, rfl⟩ := hcs
    simp only [if_true] at hz
    have hlen : ((zs.take len).map fun n => UInt8.ofNat n.toNat).length = len := by simp; omega
    by_cases h0 : len = 0
    · subst h0
      refine ⟨[], ?_⟩
      simp only [Rd, RdD]
      exact .inl ⟨trivial, _, _, rfl⟩
    · refine ⟨(zs.take len).map fun n => UInt8.ofNat n.toNat, ?_⟩
      obtain ⟨b, off, rfl, hcc⟩ := ints_at hcell (by omega)
      simp only [Rd, RdD]
      refine .inr ⟨b, off, cap, by rw [hlen], by rw [hlen]; exact hl, ?_, ?_, fun i hi => ?_⟩
      · rintro (⟨k, hk⟩ | hk)
        · cases hk
        · exact hk
      · have := hcc 0 (by omega)
        rcases Nat.lt_or_ge b W.heap.size with h | h
        · exact h
        · simp [World.cell?, Array.getElem?_eq_none h] at this
      · rw [hlen] at hi
        have hb := range_u8 hwz i
        have e : zs.getD i 0 = zs[i]'(by omega) := by simp [List.getD, List.getElem?_eq_getElem (show i < zs.length by omega)]
        rw [List.getD_eq_getElem?_getD] at e
        rw [e] at hb
        have hci := hcc i (by omega)
        rw [List.getD_eq_getElem?_getD, e] at hci
        refine ⟨.int .u8 zs[i], ?_, rfl, fun c hc => by simp [Value.cells] at hc; subst hc; rfl, fun j hj => ?_⟩
        · simp only [byteSV, RdD, List.getElem_map, List.getElem_take]
          congr 1
          simp only [UInt8.toNat_ofNat']
          omega
        · have hj0 : j = 0 := by omega
          subst hj0
          simpa [Value.cells] using hci
end

end Go.Sy
