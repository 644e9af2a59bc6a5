/- What is proved: contracts of the program's and the reference's functions in the evaluator, and plain laws on them. Conditions: as each states. -/
import Derived.Test.YtnckdofnpjaibaaGreatDoorMQ3
set_option linter.unusedSimpArgs false
set_option linter.unusedVariables false
set_option maxRecDepth 100000
namespace Go.Ab
open Go Go.Proofs
theorem c_Eval (cols : List Cel) (row ps : List Val) (e : Ex) (hco : ∀ c ∈ cols, CelOk c) (hc : cols.length ≤ 1000000) (hp : ps.length ≤ 100000) (hw : row.length ≤ 1000000) (hN : exN e ≤ 40000) (hb : exB e) : R K (.call 45 [.agg (exC e), colsC cols, RV row, RV ps] []) = some (.tup [enc (evalT cols row ps e).1, I (evalT cols row ps e).2], []) := by
  have lk := fun ks B hB => l_EK cols row ps hp (exC e) (exC_locs e) ks ps.length 0 0 [] B hB rfl (by omega) rfl
  simp only [List.drop_zero, List.length_nil, List.map_nil, List.nil_append] at lk
  have hs := c_small e (by omega)
  have hk := c_kind cols (kindsV ps) hco (kindsV_nn ps) hc (by rw [kindsV_len]; omega) e hN hb
  have hv := fun hrow hkk => c_value cols row ps hrow hc (by omega) e hN hkk
  unfold evalT
  generalize smallS e = sm at hs ⊢
  simp only [exC_eq] at lk hs hk hv
  rw [call_45]
  simp -implicitDefEqProofs only [go_sem, simprocAttr, Tryz.f45, exC_eq, List.length_map]
  rw [lk _ _ ?_]
  rotate_left
  · rfl
  cases sm with
  | false =>
    simp -implicitDefEqProofs only [go_sem, simprocAttr, hs]
    try rfl
  | true =>
    rw [if_pos rfl]
    by_cases hf : (kindE cols (kindsV ps) e).2 = 0
    rotate_left
    · rw [if_neg hf]
      have bf : ((kindE cols (kindsV ps) e).2 == 0) = false := by simpa using hf
      simp -implicitDefEqProofs only [go_sem, simprocAttr, hs, hk, List.length_map, bne, bf]
      try rfl
    · rw [if_pos hf]
      by_cases hr : row.length = cols.length
      · rw [if_pos hr]
        have br : ((row.length : Int) == (cols.length : Int)) = true := by rw [hr]; exact beq_self_eq_true _
        have hv := hv hr hf
        simp only [enc] at hv
        rw [hf] at hk
        simp -implicitDefEqProofs only [go_sem, simprocAttr, hs, hk, List.length_map, bne, beq_self_eq_true, br, hv]
        try rfl
      · rw [if_neg hr]
        have br : ((row.length : Int) == (cols.length : Int)) = false := beq_eq_false_iff_ne.2 (by omega)
        rw [hf] at hk
        simp -implicitDefEqProofs only [go_sem, simprocAttr, hs, hk, List.length_map, bne, beq_self_eq_true, br]
        try rfl
theorem r_Eval (cols : List Cel) (row ps : List Val) (e : Ex) (hco : ∀ c ∈ cols, CelOk c) (hc : cols.length ≤ 1000000) (hp : ps.length ≤ 100000) (hw : row.length ≤ 1000000) (hN : exN e ≤ 40000) : R K (.call 46 [.agg (exC e), colsC cols, RV row, RV ps] []) = some (.tup [enc (evalT cols row ps e).1, I (evalT cols row ps e).2], []) := by
  have hs := r_sized e (by omega)
  have hpk := r_PK ps hp
  have hk := r_scalar cols (kindsV ps) hco (kindsV_nn ps) hc (by rw [kindsV_len]; omega) e hN
  have hv := fun hrow hkk => r_value cols row ps hrow hc (by omega) e hN hkk
  unfold evalT
  generalize smallS e = sm at hs ⊢
  simp only [exC_eq] at hs hk hv
  cases sm with
  | false =>
    rw [call_46]
    simp -implicitDefEqProofs only [go_sem, simprocAttr, Tryz.f46, exC_eq, hs, bne, if_false, Bool.false_eq_true]
    try rfl
  | true =>
    rw [if_pos rfl] at hs
    rw [if_pos rfl]
    by_cases hf : (kindE cols (kindsV ps) e).2 = 0
    rotate_left
    · rw [if_neg hf]
      have bf : ((kindE cols (kindsV ps) e).2 == 0) = false := by simpa using hf
      rw [call_46]
      simp -implicitDefEqProofs only [go_sem, simprocAttr, Tryz.f46, exC_eq, hs, hpk, hk, List.length_map, bne, beq_self_eq_true, bf]
      try rfl
    · rw [if_pos hf]
      by_cases hr : row.length = cols.length
      · rw [if_pos hr]
        have br : ((row.length : Int) == (cols.length : Int)) = true := by rw [hr]; exact beq_self_eq_true _
        have hv := hv hr hf
        simp only [enc] at hv
        rw [hf] at hk
        rw [call_46]
        simp -implicitDefEqProofs only [go_sem, simprocAttr, Tryz.f46, exC_eq, hs, hpk, hk, List.length_map, bne, beq_self_eq_true, br, hv]
        try rfl
      · rw [if_neg hr]
        have br : ((row.length : Int) == (cols.length : Int)) = false := beq_eq_false_iff_ne.2 (by omega)
        rw [hf] at hk
        rw [call_46]
        simp -implicitDefEqProofs only [go_sem, simprocAttr, Tryz.f46, exC_eq, hs, hpk, hk, List.length_map, bne, beq_self_eq_true, br]
        try rfl
section
variable {L : List Int}
theorem l_evals (cols cs0 : List Cel) (hc : cols.length ≤ 5) (ps : List Int) (ks : List It) (H0 : List AV) (hH : locsL H0 = []) : ∀ (m j : Nat) (i a B : Int) (l : List Val) (Bo : Code), Loop Tryz.f9 0 Bo → Gd L a B → 13 * m ≤ B → i = (j : Int) → cols.length = j + m → l.length = j →
   ∃ (l' : List Val) (a' : Int), a ≤ a' ∧ a' ≤ a + 13 * m ∧ l'.length = cols.length ∧
   RL K (.run 9 0 (.code Bo :: .lp Bo (some ([3, 4, 5, 6, 7, 24, 25, 26], [])) 3 :: .blk 0 3 :: ks) [(3, .ptr 0 0), (4, colsC cs0), (5, LR ps), (6, .ptr 1 0), (7, .own 2 l.length), (24, colsC cols), (25, I (cols.length : Int)), (26, I i)] [.cells [LR L, I a], .cells H0, .rows 3 (l.map rowV) false]) =
   R K (.run 9 0 ks [(3, .ptr 0 0), (4, colsC cs0), (5, LR ps), (6, .ptr 1 0), (7, .own 2 l'.length)] [.cells [LR L, I a'], .cells H0, .rows 3 (l'.map rowV) false])
  | 0, j, i, a, B, l, Bo, hB, hG, hm, hi, hj, hl => by
    subst hi
    have h1 : decide ((j : Int) < (cols.length : Int)) = false := decide_eq_false (by omega)
    refine ⟨l, a, by omega, by omega, by omega, ?_⟩
    unfold Loop at hB
    simp -implicitDefEqProofs only [go_sem, simprocAttr, Tryz.f9, loopOf] at hB
    subst hB
    rw [RL_eq]
    simp -implicitDefEqProofs only [go_sem, simprocAttr, h1, hH]
  | m + 1, j, i, a, B, l, Bo, hB, hG, hm, hi, hj, hl => by
    subst hi
    have hB' := hB
    have h1 : decide ((j : Int) < (cols.length : Int)) = true := decide_eq_true (by omega)
    have h7 := next_id (i := j) (n := cols.length) (by omega) (by omega)
    obtain ⟨c, hcc⟩ := some_at (l := cols) (i := j) (by omega)
    have hg := cel_get hcc
    obtain ⟨v, a1, x1, q1, q2, _⟩ := g_Value hG (by omega) c.k
    have hr := room_small (l.length + 1) (by omega)
    obtain ⟨l', a', r1, r2, r3, ih⟩ := l_evals cols cs0 hc ps ks H0 hH m (j + 1) _ a1 (B - 13) (l ++ [v]) Bo hB' (hG.step _ _ (by omega) (by omega)) (by omega) rfl (by omega) (by simp; omega)
    refine ⟨l', a', by omega, by omega, r3, ?_⟩
    simp only [enc] at x1
    unfold Loop at hB
    simp -implicitDefEqProofs only [go_sem, simprocAttr, Tryz.f9, loopOf] at hB
    subst hB
    rw [RL_eq]
    simp -implicitDefEqProofs only [go_sem, simprocAttr, h1, hH, h7, hg, celC, x1, hr]
    rw [← ih]
    simp only [vals_snoc, rowV, List.length_append, List.length_cons, List.length_nil]
theorem scalarEvals_of (hL : L.length ≤ 9223372036854775807) : R K (.call 9 [LR L] []) = some (.bool true, []) := by
  have hG : Gd L 0 4611686018427387904 := ⟨by omega, by omega, hL⟩
  obtain ⟨cols, ps, e, a1, x1, q1, q2, q3, q4, q5, q6, q7⟩ := g_scalar hG (by omega)
  obtain ⟨row, a2, r1, r2, r3, lk⟩ := l_evals (L := L) cols cols q3 ps _ (exC e) (exC_locs e) cols.length 0 0 a1 (4611686018427387904 - 200000) [] _ rfl (hG.step _ _ (by omega) (by omega)) (by omega) rfl (by omega) rfl
  simp only [List.length_nil, List.map_nil] at lk
  obtain ⟨vs, a3, x3, s1, s2, s3⟩ := g_Params (hG.step a2 4611686018427000000 (by omega) (by omega)) ps (by omega) (by omega)
  have x4 := g_Flip (hG.step a3 4611686018426000000 (by omega) (by omega)) (by omega) 15
  obtain ⟨u, a5, x5, t1, t2, _⟩ := g_Any (hG.step (a3 + 1) 4611686018425000000 (by omega) (by omega)) (by omega)
  simp only [enc] at x5
  simp only [exC_eq] at lk x1
  rw [call_9]
  simp -implicitDefEqProofs only [go_sem, simprocAttr, Tryz.f9, x1, exC_eq]
  rw [lk]
  have hr := room_small (row.length + 1) (by omega)
  have hN : exN e ≤ 40000 := by omega
  cases hf : nextS L a3 15 == 0 with
  | false =>
    rw [hf] at x4
    have y1 := c_Eval cols row vs e q7 (by omega) (by omega) (by omega) hN q6
    have y2 := r_Eval cols row vs e q7 (by omega) (by omega) (by omega) hN
    generalize evalT cols row vs e = t at y1 y2
    simp only [exC_eq, enc] at y1 y2
    simp -implicitDefEqProofs only [go_sem, simprocAttr, x3, x4, r_values, y1, y2, beq_self_eq_true, List.length_map]
  | true =>
    rw [hf] at x4
    have y1 := c_Eval cols (row ++ [u]) vs e q7 (by omega) (by omega) (by simp; omega) hN q6
    have y2 := r_Eval cols (row ++ [u]) vs e q7 (by omega) (by omega) (by simp; omega) hN
    generalize evalT cols (row ++ [u]) vs e = t at y1 y2
    simp only [exC_eq, enc, RV, vals_snoc, rowV] at y1 y2
    simp -implicitDefEqProofs only [go_sem, simprocAttr, x3, x4, x5, hr, r_values, y1, y2, beq_self_eq_true, List.length_map]
end
theorem law_scalarEvals (L : List Int) (hL : L.length ≤ 9223372036854775807) : R K (.call 9 [LR L] []) = some (.bool true, []) := scalarEvals_of hL
end Go.Ab
