/-
  The symbolic layer, 18: copy of rows of one cell each.
-/
import Derived.Test.YtjnkgkpenhjmfaaSy17
namespace Go.Sy

/-- copy of nothing. -/
theorem copy_none {P : Program} (w : World) (dT sT ty elem : TypeId) (d a : Option Addr) (dLen dCap sLen sCap : Nat) {i : TypeInfo} (hu : P.underlying dT = some (.slice elem)) (hq : P.info? elem = some i) (hi : i.size = 1) (hn : min sLen dLen = 0) :
    (Builtin.copy_ #[dT, sT] ty #[.slice d dLen dCap, .slice a sLen sCap]).run P w = .ok (.int .i64 0) w := by
  have hl : ∀ (x : Addr), (loadCells x 0).run P w = .ok #[] w := fun x => by simpa using run_loadCells_list (P := P) w x [] (by simp)
  have hn' : Nat.min sLen dLen = 0 := hn
  cases d <;> cases a <;> simp [Builtin.copy_, run_underlying hu, Builtin.lenOf, Builtin.firstCells, sizeOf, typeInfo, hq, hi, hn', storeCells, hl] <;> rfl

theorem copy_some {P : Program} (w w' : World) (dT sT ty elem : TypeId) (d a : Addr) (dLen dCap sLen sCap : Nat) {i : TypeInfo} (cs : List Value) (hu : P.underlying dT = some (.slice elem)) (hq : P.info? elem = some i) (hi : i.size = 1) (hn : cs.length = min sLen dLen)
    (hsrc : ∀ j v, cs[j]? = some v → w.cell? (a.add j) = some v) (hst : (storeCells d cs 0).run P w = .ok () w') :
    (Builtin.copy_ #[dT, sT] ty #[.slice (some d) dLen dCap, .slice (some a) sLen sCap]).run P w = .ok (.int .i64 cs.length) w' := by
  have hl := run_loadCells_list (P := P) w a cs hsrc
  have hn' : cs.length = Nat.min sLen dLen := hn
  simp [Builtin.copy_, run_underlying hu, Builtin.lenOf, Builtin.firstCells, sizeOf, typeInfo, hq, hi, ← hn', hl, hst]
  rfl

theorem good_copy {P : Program} (Γ : Ty P) {o : Oper} {s : SS} {t : TypeId} {ti : TI} {et : TypeId} {eb k : Nat} {ez : List Value} {x y : Operand} {ks : List Nat} {α : Type} {e : α → SV} {l m : List α}
    (h : o.op = .call ⟨.builtin .copy, #[x, y], #[t, t]⟩) (ht : Γ.get t = some ti) (hk : ti.k = .slice et 1 eb ez) (hx : ev s x = .osl k) (ho' : s.h k = .row 1 e l) (hs : AppSrc s 1 (ev s y) ks m.length (rowF e m)) :
    Good P o s ⟨.val (.int .i64 (min m.length l.length : Nat)), ks, [(k, .row 1 e (m.take l.length ++ l.drop m.length))]⟩ := by
  intro κ a w hi hr ho N Q hN
  have h1 := hr x (by simp [h, Op.operands, Call.operands])
  have h2 := hr y (by simp [h, Op.operands, Call.operands])
  have h3 := ho k (.inr (by simp [Up.ws]))
  rw [ho'] at h3
  obtain ⟨hu, i, z, q1, q2, q3, q4, q5⟩ := slice_elem Γ ht hk
  have hsrc := hs.src h2 (fun j hj => ho j (.inl hj))
  have hlen : ∃ ad cap, a.eval x = .slice ad l.length cap ∧ (l ≠ [] → ∃ b c, κ k = .row b l.length c ∧ ad = some ⟨b, 0, none⟩) := by
    have := Ob.len_ok (ob := .row 1 e l) (n := l.length) rfl h3 (v := a.eval x) (by rw [← hx]; exact h1)
    obtain ⟨ad, cap, e1, e2⟩ := this
    exact ⟨ad, cap, e1, fun hl => e2 (by simpa using hl)⟩
  obtain ⟨ad, cap, e1, e2⟩ := hlen
  by_cases hz : min m.length l.length = 0
  · have hsame : m.take l.length ++ l.drop m.length = l := by
      rcases Nat.eq_zero_or_pos m.length with h0 | h0
      · have : m = [] := List.length_eq_zero_iff.1 h0
        subst this
        simp
      · have : l = [] := List.length_eq_zero_iff.1 (by omega)
        subst this
        simp
    have hsl : ∃ a' c', a.eval y = .slice a' m.length c' := by
      rcases hsrc with ⟨h0, _, a', c', h4⟩ | ⟨b, off, c', news, h4, _⟩
      · exact ⟨a', c', by rw [h4, h0]⟩
      · exact ⟨_, _, h4⟩
    obtain ⟨a', c', h4⟩ := hsl
    have hrun : (execOp a.eval o).run P w = .ok (.value (.int .i64 (min m.length l.length : Nat))) w := by
      have := copy_none (P := P) w t t o.type et ad a' l.length cap m.length c' hu q1 q2 hz
      rw [hz]
      simp [execOp, h, resolve, invoke, builtin, e1, h4, this]
    simp only [Oper.wp, hrun, Oper.upon]
    refine hN _ κ w ((step_killL [] κ hi).1.weaken (by simp)) hi (by simp [Rd]) (fun p hp => ?_)
    simp only [List.mem_singleton] at hp
    subst hp
    rw [hsame]
    exact h3
  · have hl : l ≠ [] := by rintro rfl; simp at hz
    have h4 := h3.rowAt hl
    obtain ⟨b, cap', cs, T, fr, f1, f2, f3, f4, f5, f6⟩ := h4
    obtain ⟨b', c', g1, g2⟩ := e2 hl
    rw [f1] at g1
    cases g1
    rcases hsrc with ⟨h0, _⟩ | ⟨b2, off, c2, news, g3, g4, g5, g6, g7⟩
    · simp [h0] at hz
    · have hn : (news.take (min m.length l.length)).length = min m.length l.length := by simp; omega
      obtain ⟨w', k1, k2, k3, k4, k5, k6, k7⟩ := run_storeCells_nf P b 0 T fr (news.take (min m.length l.length)) 0 cs w f2 f3 (by rw [hn]; omega) (fun v hv => g5 v (List.mem_of_mem_take hv))
      have hc := copy_some (P := P) w w' t t o.type et ⟨b, 0, none⟩ ⟨b2, off, none⟩ l.length cap m.length c2 (news.take (min m.length l.length)) hu q1 q2 hn (fun j v hv => by
        rw [Addr.add_lit]
        refine g6 j v ?_
        rw [List.getElem?_take] at hv
        split at hv
        · exact hv
        · cases hv) k1
      rw [hn] at hc
      have hrun : (execOp a.eval o).run P w = .ok (.value (.int .i64 (min m.length l.length : Nat))) w' := by
        subst g2
        simp [execOp, h, resolve, invoke, builtin, e1, g3, hc]
      simp only [Oper.wp, hrun, Oper.upon]
      obtain ⟨st, inv⟩ := step_write hi (k := k) (b := b) (by rw [f1]; rfl) k3 k4 k5 k6 k7
      refine hN _ κ w' (st.weaken (by simp [Up.ws])) inv (by simp [Rd]) (fun p hp => ?_)
      simp only [List.mem_singleton] at hp
      subst hp
      have hll : (m.take l.length ++ l.drop m.length).length = l.length := by simp; omega
      refine .inr ⟨b, cap', _, T, fr, by rw [hll]; exact f1, k2, by rw [setV_length]; exact f3, by rw [setV_length]; exact f4, by rw [hll]; exact f5, ?_⟩
      rintro j x ⟨hj, rfl⟩
      rw [hll] at hj
      refine ⟨by rw [hll]; exact hj, ?_⟩
      have hset := setV_get cs (news.take (min m.length l.length)) 0
      by_cases hjm : j < m.length
      · obtain ⟨_, u, u1, u2, u3, u4⟩ := g7 j (e m[j]) ⟨hjm, rfl⟩
        refine ⟨u, ?_, u2, u3, fun i hi' => ?_⟩
        · have : (m.take l.length ++ l.drop m.length)[j] = m[j] := by
            rw [List.getElem_append_left (by simp; omega), List.getElem_take]
          rw [this]
          exact RdD.keep st.keeps _ _ u1
        · have hi0 : i = 0 := by omega
          subst hi0
          simp only [Nat.mul_one, Nat.add_zero, Nat.zero_add] at u4 ⊢
          rw [hset _ (by omega), if_pos (by omega), List.getElem?_take, if_pos (by omega)]
          have := u4 0 (by omega)
          simpa using this
      · obtain ⟨_, u, u1, u2, u3, u4⟩ := f6 j (e l[j]) ⟨hj, rfl⟩
        refine ⟨u, ?_, u2, u3, fun i hi' => ?_⟩
        · have : (m.take l.length ++ l.drop m.length)[j]'(by rw [hll]; exact hj) = l[j] := by
            rw [List.getElem_append_right (by simp; omega), List.getElem_drop]
            congr 1
            simp; omega
          rw [this]
          exact RdD.keep st.keeps _ _ u1
        · have hi0 : i = 0 := by omega
          subst hi0
          simp only [Nat.mul_one, Nat.add_zero, Nat.zero_add] at u4 ⊢
          rw [hset _ (by omega), if_neg (by omega)]
          have := u4 0 (by omega)
          simpa using this

/-! ### Loops that count -/
def CountInv (C : Cx) (n : Nat) (L : Nat → List (Nat × SV)) (O : Nat → Obs) (i : Nat) (a : Act) (w : World) : Prop :=
  ∃ x' : {j : Nat // j ≤ n}, ∃ κ, n - x'.1 < n - i ∧ St C.F C.n (mkS (L x'.1) (O x'.1)) κ a w

theorem G_count {C : Cx} {k : List KI} {s : SS} {body : Code} (n : Nat) (L : Nat → List (Nat × SV)) (O : Nat → Obs) (ρ : List (Nat × Nat)) (hsub : Sub C s ρ (L 0) (O 0))
    (h : ∀ i, i ≤ n → G C (.code body :: .inv (CountInv C n L O i) :: k) (mkS (L i) (O i))) : G C (.code (.loop body) :: k) s :=
  G_loop (α := {j : Nat // j ≤ n}) (fun x => L x.1) (fun x => O x.1) (fun x => n - x.1) ⟨0, Nat.zero_le _⟩ ρ hsub (fun x => h x.1 x.2)

theorem G_next {C : Cx} {k : List KI} {s : SS} {n : Nat} {L : Nat → List (Nat × SV)} {O : Nat → Obs} {i : Nat} (ρ : List (Nat × Nat)) (hi : i + 1 ≤ n) (hsub : Sub C s ρ (L (i + 1)) (O (i + 1))) : G C (.inv (CountInv C n L O i) :: k) s :=
  G_inv (α := {j : Nat // j ≤ n}) (L := fun x => L x.1) (O := fun x => O x.1) (μ := fun x => n - x.1) (x := ⟨i, by omega⟩) ⟨i + 1, hi⟩ ρ (by simp only; omega) hsub

end Go.Sy
