/-
  The symbolic layer, 20: a constant string's bytes.
-/
import Derived.Test.YtjnkgkpenhjmfaaSy19
namespace Go.Sy

theorem freeze_facts (w : World) {b : Nat} {cs : Array Value} {T : TypeId} {fr : Nat × Nat} (h : w.heap[b]? = some (.cells cs T fr)) (n : Nat) :
    (w.freeze ⟨b, n, none⟩ 1).heap[b]? = some (.cells cs T (if fr.1 == fr.2 then (n, n + 1) else (min fr.1 n, max fr.2 (n + 1)))) ∧ (w.freeze ⟨b, n, none⟩ 1).os = w.os ∧ (w.freeze ⟨b, n, none⟩ 1).tape = w.tape ∧ (w.freeze ⟨b, n, none⟩ 1).output = w.output ∧
      (w.freeze ⟨b, n, none⟩ 1).heap.size = w.heap.size ∧ ∀ i, i ≠ b → (w.freeze ⟨b, n, none⟩ 1).heap[i]? = w.heap[i]? := by
  unfold World.freeze
  rw [if_neg (by decide)]
  refine ⟨?_, rfl, rfl, rfl, by simp, fun i hi => ?_⟩
  · simp [Array.getElem?_modify, h]
  · simp [Array.getElem?_modify, Ne.symm hi]

/-- The conversion of a literal row to its own type: what stands for the bytes of a constant string. -/
theorem good_convert_mark {P : Program} (Γ : Ty P) {o : Oper} {s : SS} {t : TypeId} {ti ei : TI} {x : Operand} {et : TypeId} {sz eb k : Nat} {ez : List Value} {svs : List SV} (h : o.op = .convert t t x)
    (ht : Γ.get t = some ti) (hk : ti.k = .slice et sz eb ez) (he : Γ.get et = some ei) (hek : ei.k = .int .u8) (hx : ev s x = .osl k) (hl : s.h k = .lit sz svs) : Good P o s ⟨.osl k, [], [(k, .lit sz svs)]⟩ := by
  intro κ a w hi hr ho N Q hN
  have h1 := hr x (by simp [h, Op.operands])
  have h3 := ho k (.inr (by simp [Up.ws]))
  rw [hl] at h3
  rw [hx] at h1
  obtain ⟨b, cap, cs, T, fr, f1, f2, f3, f4, f5, f6⟩ := h3
  simp only [Rd, f1] at h1
  obtain ⟨hu, _⟩ := slice_elem Γ ht hk
  have he' := int_under Γ he hek
  obtain ⟨q1, q2, q3, q4, q5, q6⟩ := freeze_facts w f2 cs.length
  have hsh : w.shape? b = some (T, cs.length) := by
    unfold World.shape?
    rw [f2]
    simp
  have hrun : (execOp a.eval o).run P w = .ok (.value (.slice (some ⟨b, 0, none⟩) svs.length cap)) (w.freeze ⟨b, cs.length, none⟩ 1) := by
    simp [execOp, h, h1, convert, run_underlying hu, run_underlying he', markStringish, hsh]
  simp only [Oper.wp, hrun, Oper.upon]
  obtain ⟨st, inv⟩ := step_write hi (k := k) (b := b) (by rw [f1]; rfl) q2 q3 q4 q5 q6
  refine hN _ κ _ (st.weaken (by simp [Up.ws])) inv (by simp [Rd, f1]) (fun p hp => ?_)
  simp only [List.mem_singleton] at hp
  subst hp
  refine ⟨b, cap, cs, T, _, f1, q1, ?_, f4, f5, fun i x hx => ?_⟩
  · rcases f3 with h0 | h0
    · rw [if_pos (by simpa using h0)]; exact .inr (Nat.le_refl _)
    · split
      · exact .inr (Nat.le_refl _)
      · exact .inr (by simp only; omega)
  obtain ⟨g0, u, g1, g2, g3, g4⟩ := f6 i x hx
  exact ⟨g0, u, RdD.keep st.keeps _ _ g1, g2, g3, g4⟩

end Go.Sy
