/- What is proved: contracts of the program's and the reference's functions in the evaluator, and plain laws on them. Conditions: as each states. -/
import Derived.Test.YtnckdofnpjaibaaGreatDoorMQ2
set_option linter.unusedSimpArgs false
set_option linter.unusedVariables false
set_option maxRecDepth 100000
namespace Go.Ab
open Go Go.Proofs
theorem l_is (l ws : List Int) (hl : ws.length ≤ l.length) (hl2 : l.length ≤ 1000000) (hw0 : ∀ w ∈ ws, w ≠ 0) (out : Int) (ks : List It) : ∀ (m j : Nat) (i : Int) (Bo : Code), Loop Tryz.f222 0 Bo → i = (j : Int) → ws.length = j + m →
   RL K (.run 222 1 (.code Bo :: .lp Bo (some ([0, 2, 11, 12, 13], [])) 1 :: .blk 0 1 :: ks) [(0, I out), (2, .ptr 0 0), (11, LR ws), (12, I (ws.length : Int)), (13, I i)] [.cells [LR l]]) =
   if fitP (l.drop j) (ws.drop j) = true then R K (.run 222 1 ks [(0, I out)] [.cells [LR l]]) else some (.tup [I 0, .bool false], [.cells [LR l]])
  | 0, j, i, Bo, hB, hi, hj => by
    subst hi
    have h1 : decide ((j : Int) < (ws.length : Int)) = false := decide_eq_false (by omega)
    rw [List.drop_of_length_le (l := ws) (by omega), if_pos (by cases l.drop j <;> rfl)]
    unfold Loop at hB
    simp -implicitDefEqProofs only [go_sem, simprocAttr, Tryz.f222, loopOf] at hB
    subst hB
    rw [RL_eq]
    simp -implicitDefEqProofs only [go_sem, simprocAttr, h1]
  | m + 1, j, i, Bo, hB, hi, hj => by
    subst hi
    have hB' := hB
    have h1 : decide ((j : Int) < (ws.length : Int)) = true := decide_eq_true (by omega)
    have h7 := next_id (i := j) (n := ws.length) (by omega) (by omega)
    obtain ⟨w, hw⟩ := some_at (l := ws) (i := j) (by omega)
    obtain ⟨a, ha⟩ := some_at (l := l) (i := j) (by omega)
    have hg := int_get hw
    have hg2 := int_get ha
    obtain ⟨z, hz⟩ := r_fits2 a w (hw0 w (List.mem_of_getElem? hw))
    rw [drop_get hw, drop_get ha]
    simp only [fitP]
    have ih := l_is l ws hl hl2 hw0 out ks m (j + 1) _ Bo hB' rfl (by omega)
    rcases Bool.eq_false_or_eq_true (a == 0 || a == w) with h0 | h0
    · rw [h0] at hz
      simp only [h0, Bool.true_and]
      unfold Loop at hB
      simp -implicitDefEqProofs only [go_sem, simprocAttr, Tryz.f222, loopOf] at hB
      subst hB
      rw [RL_eq]
      simp -implicitDefEqProofs only [go_sem, simprocAttr, h1, h7, hg, hg2, hz]
      rw [ih]
    · rw [h0] at hz
      simp only [h0, Bool.false_and]
      unfold Loop at hB
      simp -implicitDefEqProofs only [go_sem, simprocAttr, Tryz.f222, loopOf] at hB
      subst hB
      rw [RL_eq]
      simp -implicitDefEqProofs only [go_sem, simprocAttr, h1, h7, hg, hg2, hz]
      all_goals rfl
theorem r_is (l ws : List Int) (hl : ws.length ≤ l.length) (hl2 : l.length ≤ 1000000) (hw0 : ∀ w ∈ ws, w ≠ 0) (out : Int) : R K (.call 222 [I out, LR ws, .ptr 0 0] [.cells [LR l]]) = some (okI (if fitP l ws = true then some out else none), [.cells [LR l]]) := by
  have lk := fun ks B hB => l_is l ws hl hl2 hw0 out ks ws.length 0 0 B hB rfl (by omega)
  simp only [List.drop_zero] at lk
  rw [call_222]
  simp -implicitDefEqProofs only [go_sem, simprocAttr, Tryz.f222]
  rw [lk _ _ ?_]
  · cases h : fitP l ws with
    | true =>
      rw [if_pos rfl, if_pos rfl]
      simp -implicitDefEqProofs only [go_sem, simprocAttr]
      rfl
    | false =>
      rw [if_neg (by simp), if_neg (by simp)]
      rfl
  · rfl
def sumS (op a b : Int) : Option Int :=
  if op = 13 ∧ b = 4 ∧ (a = 4 ∨ a = 0) then (if a = 0 then some 0 else some 2)
  else if (b ≠ 2 ∧ b ≠ 0) ∨ ¬ (a = 2 ∨ a = 4 ∨ a = 0) then none
  else if a = 0 ∨ b = 0 then some 0 else some a
theorem c_sum (op a b : Int) (hop : op = 12 ∨ op = 13) : R K (.call 216 [I op, LR [a, b]] []) = some (okI (sumS op a b), []) := by
  have r0 : at? [[I a], [I b]] 0 = some [I a] := rfl
  have r1 : at? [[I a], [I b]] 1 = some [I b] := rfl
  have ha : a = 0 ∨ a = 2 ∨ a = 4 ∨ (a ≠ 0 ∧ a ≠ 2 ∧ a ≠ 4) := by omega
  have hb : b = 0 ∨ b = 2 ∨ b = 4 ∨ (b ≠ 0 ∧ b ≠ 2 ∧ b ≠ 4) := by omega
  rcases hop with rfl | rfl <;> rcases ha with rfl | rfl | rfl | ⟨ha0, ha2, ha4⟩ <;> rcases hb with rfl | rfl | rfl | ⟨hb0, hb2, hb4⟩
  · skip
    rw [call_216]
    simp -implicitDefEqProofs only [go_sem, simprocAttr, Tryz.f216, List.map, at?, Int.toNat_zero, bne]
    all_goals simp_all [sumS, okI]
  · skip
    rw [call_216]
    simp -implicitDefEqProofs only [go_sem, simprocAttr, Tryz.f216, List.map, at?, Int.toNat_zero, bne]
    all_goals simp_all [sumS, okI]
  · skip
    rw [call_216]
    simp -implicitDefEqProofs only [go_sem, simprocAttr, Tryz.f216, List.map, at?, Int.toNat_zero, bne]
    all_goals simp_all [sumS, okI]
  · skip
    have bb0 : (b == 0) = false := by simpa using hb0
    have bb2 : (b == 2) = false := by simpa using hb2
    have bb4 : (b == 4) = false := by simpa using hb4
    rw [call_216]
    simp -implicitDefEqProofs only [go_sem, simprocAttr, Tryz.f216, List.map, at?, Int.toNat_zero, bne, bb0, bb2, bb4]
    all_goals simp_all [sumS, okI]
  · skip
    rw [call_216]
    simp -implicitDefEqProofs only [go_sem, simprocAttr, Tryz.f216, List.map, at?, Int.toNat_zero, bne]
    all_goals simp_all [sumS, okI]
  · skip
    rw [call_216]
    simp -implicitDefEqProofs only [go_sem, simprocAttr, Tryz.f216, List.map, at?, Int.toNat_zero, bne]
    all_goals simp_all [sumS, okI]
  · skip
    rw [call_216]
    simp -implicitDefEqProofs only [go_sem, simprocAttr, Tryz.f216, List.map, at?, Int.toNat_zero, bne]
    all_goals simp_all [sumS, okI]
  · skip
    have bb0 : (b == 0) = false := by simpa using hb0
    have bb2 : (b == 2) = false := by simpa using hb2
    have bb4 : (b == 4) = false := by simpa using hb4
    rw [call_216]
    simp -implicitDefEqProofs only [go_sem, simprocAttr, Tryz.f216, List.map, at?, Int.toNat_zero, bne, bb0, bb2, bb4]
    all_goals simp_all [sumS, okI]
  · skip
    rw [call_216]
    simp -implicitDefEqProofs only [go_sem, simprocAttr, Tryz.f216, List.map, at?, Int.toNat_zero, bne]
    all_goals simp_all [sumS, okI]
  · skip
    rw [call_216]
    simp -implicitDefEqProofs only [go_sem, simprocAttr, Tryz.f216, List.map, at?, Int.toNat_zero, bne]
    all_goals simp_all [sumS, okI]
  · skip
    rw [call_216]
    simp -implicitDefEqProofs only [go_sem, simprocAttr, Tryz.f216, List.map, at?, Int.toNat_zero, bne]
    all_goals simp_all [sumS, okI]
  · skip
    have bb0 : (b == 0) = false := by simpa using hb0
    have bb2 : (b == 2) = false := by simpa using hb2
    have bb4 : (b == 4) = false := by simpa using hb4
    rw [call_216]
    simp -implicitDefEqProofs only [go_sem, simprocAttr, Tryz.f216, List.map, at?, Int.toNat_zero, bne, bb0, bb2, bb4]
    all_goals simp_all [sumS, okI]
  · skip
    have ba0 : (a == 0) = false := by simpa using ha0
    have ba2 : (a == 2) = false := by simpa using ha2
    have ba4 : (a == 4) = false := by simpa using ha4
    rw [call_216]
    simp -implicitDefEqProofs only [go_sem, simprocAttr, Tryz.f216, List.map, at?, Int.toNat_zero, bne, ba0, ba2, ba4]
    all_goals simp_all [sumS, okI]
  · skip
    have ba0 : (a == 0) = false := by simpa using ha0
    have ba2 : (a == 2) = false := by simpa using ha2
    have ba4 : (a == 4) = false := by simpa using ha4
    rw [call_216]
    simp -implicitDefEqProofs only [go_sem, simprocAttr, Tryz.f216, List.map, at?, Int.toNat_zero, bne, ba0, ba2, ba4]
    all_goals simp_all [sumS, okI]
  · skip
    have ba0 : (a == 0) = false := by simpa using ha0
    have ba2 : (a == 2) = false := by simpa using ha2
    have ba4 : (a == 4) = false := by simpa using ha4
    rw [call_216]
    simp -implicitDefEqProofs only [go_sem, simprocAttr, Tryz.f216, List.map, at?, Int.toNat_zero, bne, ba0, ba2, ba4]
    all_goals simp_all [sumS, okI]
  · skip
    have ba0 : (a == 0) = false := by simpa using ha0
    have ba2 : (a == 2) = false := by simpa using ha2
    have ba4 : (a == 4) = false := by simpa using ha4
    have bb0 : (b == 0) = false := by simpa using hb0
    have bb2 : (b == 2) = false := by simpa using hb2
    have bb4 : (b == 4) = false := by simpa using hb4
    rw [call_216]
    simp -implicitDefEqProofs only [go_sem, simprocAttr, Tryz.f216, List.map, at?, Int.toNat_zero, bne, ba0, ba2, ba4, bb0, bb2, bb4]
    all_goals simp_all [sumS, okI]
  · skip
    rw [call_216]
    simp -implicitDefEqProofs only [go_sem, simprocAttr, Tryz.f216, List.map, at?, Int.toNat_zero, bne]
    all_goals simp_all [sumS, okI]
  · skip
    rw [call_216]
    simp -implicitDefEqProofs only [go_sem, simprocAttr, Tryz.f216, List.map, at?, Int.toNat_zero, bne]
    all_goals simp_all [sumS, okI]
  · skip
    rw [call_216]
    simp -implicitDefEqProofs only [go_sem, simprocAttr, Tryz.f216, List.map, at?, Int.toNat_zero, bne]
    all_goals simp_all [sumS, okI]
  · skip
    have bb0 : (b == 0) = false := by simpa using hb0
    have bb2 : (b == 2) = false := by simpa using hb2
    have bb4 : (b == 4) = false := by simpa using hb4
    rw [call_216]
    simp -implicitDefEqProofs only [go_sem, simprocAttr, Tryz.f216, List.map, at?, Int.toNat_zero, bne, bb0, bb2, bb4]
    all_goals simp_all [sumS, okI]
  · skip
    rw [call_216]
    simp -implicitDefEqProofs only [go_sem, simprocAttr, Tryz.f216, List.map, at?, Int.toNat_zero, bne]
    all_goals simp_all [sumS, okI]
  · skip
    rw [call_216]
    simp -implicitDefEqProofs only [go_sem, simprocAttr, Tryz.f216, List.map, at?, Int.toNat_zero, bne]
    all_goals simp_all [sumS, okI]
  · skip
    rw [call_216]
    simp -implicitDefEqProofs only [go_sem, simprocAttr, Tryz.f216, List.map, at?, Int.toNat_zero, bne]
    all_goals simp_all [sumS, okI]
  · skip
    have bb0 : (b == 0) = false := by simpa using hb0
    have bb2 : (b == 2) = false := by simpa using hb2
    have bb4 : (b == 4) = false := by simpa using hb4
    rw [call_216]
    simp -implicitDefEqProofs only [go_sem, simprocAttr, Tryz.f216, List.map, at?, Int.toNat_zero, bne, bb0, bb2, bb4]
    all_goals simp_all [sumS, okI]
  · skip
    rw [call_216]
    simp -implicitDefEqProofs only [go_sem, simprocAttr, Tryz.f216, List.map, at?, Int.toNat_zero, bne]
    all_goals simp_all [sumS, okI]
  · skip
    rw [call_216]
    simp -implicitDefEqProofs only [go_sem, simprocAttr, Tryz.f216, List.map, at?, Int.toNat_zero, bne]
    all_goals simp_all [sumS, okI]
  · skip
    rw [call_216]
    simp -implicitDefEqProofs only [go_sem, simprocAttr, Tryz.f216, List.map, at?, Int.toNat_zero, bne]
    all_goals simp_all [sumS, okI]
  · skip
    have bb0 : (b == 0) = false := by simpa using hb0
    have bb2 : (b == 2) = false := by simpa using hb2
    have bb4 : (b == 4) = false := by simpa using hb4
    rw [call_216]
    simp -implicitDefEqProofs only [go_sem, simprocAttr, Tryz.f216, List.map, at?, Int.toNat_zero, bne, bb0, bb2, bb4]
    all_goals simp_all [sumS, okI]
  · skip
    have ba0 : (a == 0) = false := by simpa using ha0
    have ba2 : (a == 2) = false := by simpa using ha2
    have ba4 : (a == 4) = false := by simpa using ha4
    rw [call_216]
    simp -implicitDefEqProofs only [go_sem, simprocAttr, Tryz.f216, List.map, at?, Int.toNat_zero, bne, ba0, ba2, ba4]
    all_goals simp_all [sumS, okI]
  · skip
    have ba0 : (a == 0) = false := by simpa using ha0
    have ba2 : (a == 2) = false := by simpa using ha2
    have ba4 : (a == 4) = false := by simpa using ha4
    rw [call_216]
    simp -implicitDefEqProofs only [go_sem, simprocAttr, Tryz.f216, List.map, at?, Int.toNat_zero, bne, ba0, ba2, ba4]
    all_goals simp_all [sumS, okI]
  · skip
    have ba0 : (a == 0) = false := by simpa using ha0
    have ba2 : (a == 2) = false := by simpa using ha2
    have ba4 : (a == 4) = false := by simpa using ha4
    rw [call_216]
    simp -implicitDefEqProofs only [go_sem, simprocAttr, Tryz.f216, List.map, at?, Int.toNat_zero, bne, ba0, ba2, ba4]
    all_goals simp_all [sumS, okI]
  · skip
    have ba0 : (a == 0) = false := by simpa using ha0
    have ba2 : (a == 2) = false := by simpa using ha2
    have ba4 : (a == 4) = false := by simpa using ha4
    have bb0 : (b == 0) = false := by simpa using hb0
    have bb2 : (b == 2) = false := by simpa using hb2
    have bb4 : (b == 4) = false := by simpa using hb4
    rw [call_216]
    simp -implicitDefEqProofs only [go_sem, simprocAttr, Tryz.f216, List.map, at?, Int.toNat_zero, bne, ba0, ba2, ba4, bb0, bb2, bb4]
    all_goals simp_all [sumS, okI]
def stepK (op x : Int) (s : Int × Bool) (y : Int) : Int × Bool :=
  if x = 2 ∧ y = 2 then (2, true) else if x = 4 ∧ y = 2 ∧ (op = 12 ∨ op = 13) then (4, true) else if x = 4 ∧ y = 4 ∧ op = 13 then (2, true) else s
def eitherS (a : Int) : List Int := if a = 0 then [2, 4] else [a]
theorem r_either (a : Int) : R K (.call 273 [I a] []) = some (LR (eitherS a), []) := by
  by_cases h : a = 0
  · subst h
    rw [call_273]
    simp -implicitDefEqProofs only [go_sem, simprocAttr, Tryz.f273]
    all_goals rfl
  · have b0 : (a == 0) = false := by simpa using h
    have e1 : eitherS a = [a] := if_neg h
    rw [e1]
    rw [call_273]
    simp -implicitDefEqProofs only [go_sem, simprocAttr, Tryz.f273, b0]
    all_goals rfl
theorem l_sum2 (op a b x : Int) (xs : List Int) (i1 : Int) (ys : List Int) (hl : ys.length ≤ 1000) (ks : List It) : ∀ (m j : Nat) (i o : Int) (q : Bool) (Bo : Code), Loop Tryz.f224 2 Bo → i = (j : Int) → ys.length = j + m →
   RL K (.run 224 0 (.code Bo :: .lp Bo (some ([0, 1, 2, 8, 9, 10, 12, 17, 18, 19, 25, 26, 27], [])) 0 :: .blk 2 0 :: ks) [(0, I op), (1, I a), (2, I b), (8, .fn 273 []), (9, I o), (10, .bool q), (12, I x), (17, LR xs), (18, I (xs.length : Int)), (19, I i1), (25, LR ys), (26, I (ys.length : Int)), (27, I i)] []) =
   R K (.run 224 0 ks [(0, I op), (1, I a), (2, I b), (8, .fn 273 []), (9, I ((ys.drop j).foldl (stepK op x) (o, q)).1), (10, .bool ((ys.drop j).foldl (stepK op x) (o, q)).2), (17, LR xs), (18, I (xs.length : Int)), (19, I i1)] [])
  | 0, j, i, o, q, Bo, hB, hi, hj => by
    subst hi
    have h1 : decide ((j : Int) < (ys.length : Int)) = false := decide_eq_false (by omega)
    rw [List.drop_of_length_le (by omega)]
    simp only [List.foldl]
    unfold Loop at hB
    simp -implicitDefEqProofs only [go_sem, simprocAttr, Tryz.f224, loopOf] at hB
    subst hB
    rw [RL_eq]
    simp -implicitDefEqProofs only [go_sem, simprocAttr, h1]
  | m + 1, j, i, o, q, Bo, hB, hi, hj => by
    subst hi
    have hB' := hB
    have h1 : decide ((j : Int) < (ys.length : Int)) = true := decide_eq_true (by omega)
    have h7 := next_id (i := j) (n := ys.length) (by omega) (by omega)
    obtain ⟨y, hy⟩ := some_at (l := ys) (i := j) (by omega)
    have hg := int_get hy
    rw [drop_get hy]
    simp only [List.foldl_cons]
    have ih := fun o q => l_sum2 op a b x xs i1 ys hl ks m (j + 1) _ o q Bo hB' rfl (by omega)
    by_cases c1 : x = 2 ∧ y = 2
    · have e1 : stepK op x (o, q) y = (2, true) := if_pos c1
      rw [e1]
      have b1 : (x == 2) = true := by simp [c1.1]
      have b2 : (y == 2) = true := by simp [c1.2]
      unfold Loop at hB
      simp -implicitDefEqProofs only [go_sem, simprocAttr, Tryz.f224, loopOf] at hB
      subst hB
      rw [RL_eq]
      simp -implicitDefEqProofs only [go_sem, simprocAttr, h1, h7, hg, b1, b2]
      rw [ih]
    by_cases c2 : x = 4 ∧ y = 2 ∧ (op = 12 ∨ op = 13)
    · have e1 : stepK op x (o, q) y = (4, true) := by unfold stepK; rw [if_neg c1, if_pos c2]
      rw [e1]
      have b1 : (x == 2) = false := by simp; omega
      have b2 : (x == 4) = true := by simp [c2.1]
      have b3 : (y == 2) = true := by simp [c2.2.1]
      rcases c2.2.2 with h | h
      · have b4 : (op == 12) = true := by simp [h]
        unfold Loop at hB
        simp -implicitDefEqProofs only [go_sem, simprocAttr, Tryz.f224, loopOf] at hB
        subst hB
        rw [RL_eq]
        simp -implicitDefEqProofs only [go_sem, simprocAttr, h1, h7, hg, b1, b2, b3, b4]
        rw [ih]
      · have b4 : (op == 12) = false := by simp; omega
        have b5 : (op == 13) = true := by simp [h]
        unfold Loop at hB
        simp -implicitDefEqProofs only [go_sem, simprocAttr, Tryz.f224, loopOf] at hB
        subst hB
        rw [RL_eq]
        simp -implicitDefEqProofs only [go_sem, simprocAttr, h1, h7, hg, b1, b2, b3, b4, b5]
        rw [ih]
    by_cases c3 : x = 4 ∧ y = 4 ∧ op = 13
    · have e1 : stepK op x (o, q) y = (2, true) := by unfold stepK; rw [if_neg c1, if_neg c2, if_pos c3]
      rw [e1]
      have b1 : (x == 2) = false := by simp; omega
      have b2 : (x == 4) = true := by simp [c3.1]
      have b3 : (y == 2) = false := by simp; omega
      have b4 : (y == 4) = true := by simp [c3.2.1]
      have b5 : (op == 13) = true := by simp [c3.2.2]
      unfold Loop at hB
      simp -implicitDefEqProofs only [go_sem, simprocAttr, Tryz.f224, loopOf] at hB
      subst hB
      rw [RL_eq]
      simp -implicitDefEqProofs only [go_sem, simprocAttr, h1, h7, hg, b1, b2, b3, b4, b5]
      rw [ih]
    have e1 : stepK op x (o, q) y = (o, q) := by unfold stepK; rw [if_neg c1, if_neg c2, if_neg c3]
    rw [e1]
    have ih := ih o q
    unfold Loop at hB
    simp -implicitDefEqProofs only [go_sem, simprocAttr, Tryz.f224, loopOf] at hB
    subst hB
    rw [RL_eq]
    simp -implicitDefEqProofs only [go_sem, simprocAttr, h1, h7, hg]
    repeat' ((first | apply split_cond | apply split_yes | apply split_no) <;> intro hc <;> simp -implicitDefEqProofs only [hc, go_sem, simprocAttr, h1, h7, hg])
    all_goals first | (rw [ih]; done) | (exfalso; simp only [beq_iff_eq, beq_eq_false_iff_ne] at *; omega)
theorem l_sum0 (op a b : Int) (xs : List Int) (hl : xs.length ≤ 1000) (ks : List It) : ∀ (m j : Nat) (i o : Int) (q : Bool) (Bo : Code), Loop Tryz.f224 0 Bo → i = (j : Int) → xs.length = j + m →
   RL K (.run 224 0 (.code Bo :: .lp Bo (some ([0, 1, 2, 8, 9, 10, 17, 18, 19], [])) 0 :: .blk 0 0 :: ks) [(0, I op), (1, I a), (2, I b), (8, .fn 273 []), (9, I o), (10, .bool q), (17, LR xs), (18, I (xs.length : Int)), (19, I i)] []) =
   R K (.run 224 0 ks [(0, I op), (1, I a), (2, I b), (9, I ((xs.drop j).foldl (fun s x => (eitherS b).foldl (stepK op x) s) (o, q)).1), (10, .bool ((xs.drop j).foldl (fun s x => (eitherS b).foldl (stepK op x) s) (o, q)).2)] [])
  | 0, j, i, o, q, Bo, hB, hi, hj => by
    subst hi
    have h1 : decide ((j : Int) < (xs.length : Int)) = false := decide_eq_false (by omega)
    rw [List.drop_of_length_le (by omega)]
    simp only [List.foldl]
    unfold Loop at hB
    simp -implicitDefEqProofs only [go_sem, simprocAttr, Tryz.f224, loopOf] at hB
    subst hB
    rw [RL_eq]
    simp -implicitDefEqProofs only [go_sem, simprocAttr, h1]
  | m + 1, j, i, o, q, Bo, hB, hi, hj => by
    subst hi
    have hB' := hB
    have h1 : decide ((j : Int) < (xs.length : Int)) = true := decide_eq_true (by omega)
    have h7 := next_id (i := j) (n := xs.length) (by omega) (by omega)
    obtain ⟨x, hx⟩ := some_at (l := xs) (i := j) (by omega)
    have hg := int_get hx
    rw [drop_get hx]
    simp only [List.foldl_cons]
    have hlen : (eitherS b).length ≤ 1000 := by unfold eitherS; split <;> simp
    have e := r_either b
    generalize hys : eitherS b = ys at hlen e
    have lk := fun ks B hB => l_sum2 op a b x xs (j : Int) ys hlen ks ys.length 0 0 o q B hB rfl (by omega)
    simp only [List.drop_zero] at lk
    have ih := l_sum0 op a b xs hl ks m (j + 1) _ (ys.foldl (stepK op x) (o, q)).1 (ys.foldl (stepK op x) (o, q)).2 Bo hB' rfl (by omega)
    rw [hys] at ih
    unfold Loop at hB
    simp -implicitDefEqProofs only [go_sem, simprocAttr, Tryz.f224, loopOf] at hB
    subst hB
    rw [RL_eq]
    simp -implicitDefEqProofs only [go_sem, simprocAttr, h1, hg, e]
    rw [lk _ _ ?_]
    · simp -implicitDefEqProofs only [go_sem, simprocAttr, h7]
      rw [ih]
    · rfl
def foldK (op a b : Int) : Int × Bool := (eitherS a).foldl (fun s x => (eitherS b).foldl (stepK op x) s) (0, false)
def sumK (op a b : Int) : Option Int := if op = 12 ∨ op = 13 then sumS op a b else if fitP [a, b] [2, 2] = true then some 2 else none
theorem fold_ok (op a b : Int) (hop : op = 12 ∨ op = 13 ∨ op = 14 ∨ op = 15 ∨ op = 16) : (if (foldK op a b).2 = false then none else if op ≠ 12 ∧ op ≠ 13 then some 2 else if a = 0 ∨ b = 0 then some 0 else some (foldK op a b).1) = sumK op a b := by
  have ha : a = 0 ∨ a = 2 ∨ a = 4 ∨ (a ≠ 0 ∧ a ≠ 2 ∧ a ≠ 4) := by omega
  have hb : b = 0 ∨ b = 2 ∨ b = 4 ∨ (b ≠ 0 ∧ b ≠ 2 ∧ b ≠ 4) := by omega
  rcases hop with rfl | rfl | rfl | rfl | rfl <;> rcases ha with rfl | rfl | rfl | ⟨ha0, ha2, ha4⟩ <;> rcases hb with rfl | rfl | rfl | ⟨hb0, hb2, hb4⟩ <;> simp [foldK, eitherS, stepK, sumK, sumS, fitP, *]
theorem r_sumKind (op a b : Int) (hop : op = 12 ∨ op = 13 ∨ op = 14 ∨ op = 15 ∨ op = 16) : R K (.call 224 [I op, I a, I b] []) = some (okI (sumK op a b), []) := by
  rw [← fold_ok op a b hop]
  have e := r_either a
  have hlen : (eitherS a).length ≤ 1000 := by unfold eitherS; split <;> simp
  unfold foldK
  generalize eitherS a = xs at hlen e ⊢
  have lk := fun ks B hB => l_sum0 op a b xs hlen ks xs.length 0 0 0 false B hB rfl (by omega)
  simp only [List.drop_zero] at lk
  generalize xs.foldl (fun s x => (eitherS b).foldl (stepK op x) s) (0, false) = s at lk ⊢
  obtain ⟨so, sq⟩ := s
  rw [call_224]
  simp -implicitDefEqProofs only [go_sem, simprocAttr, Tryz.f224, e]
  rw [lk _ _ ?_]
  · cases sq with
    | false =>
      simp -implicitDefEqProofs only [go_sem, simprocAttr]
      all_goals rfl
    | true =>
      by_cases h12 : op = 12 ∨ op = 13
      · have hz : ((op != 12) && (op != 13)) = false := by rcases h12 with rfl | rfl <;> rfl
        have e2 : (if (so, true).2 = false then none else if op ≠ 12 ∧ op ≠ 13 then some 2 else if a = 0 ∨ b = 0 then some 0 else some (so, true).1) = if a = 0 ∨ b = 0 then some 0 else some so := by
          rw [if_neg (by simp), if_neg (by omega)]
        rw [e2]
        by_cases h0 : a = 0
        · have b0 : (a == 0) = true := by simp [h0]
          rw [if_pos (.inl h0)]
          rcases h12 with rfl | rfl
          · simp -implicitDefEqProofs only [go_sem, simprocAttr, b0]
            all_goals rfl
          · simp -implicitDefEqProofs only [go_sem, simprocAttr, b0]
            all_goals rfl
        · have b0 : (a == 0) = false := by simpa using h0
          by_cases h1 : b = 0
          · have b1 : (b == 0) = true := by simp [h1]
            rw [if_pos (.inr h1)]
            rcases h12 with rfl | rfl
            · simp -implicitDefEqProofs only [go_sem, simprocAttr, b0, b1]
              all_goals rfl
            · simp -implicitDefEqProofs only [go_sem, simprocAttr, b0, b1]
              all_goals rfl
          · have b1 : (b == 0) = false := by simpa using h1
            rw [if_neg (by omega)]
            rcases h12 with rfl | rfl
            · simp -implicitDefEqProofs only [go_sem, simprocAttr, b0, b1]
              all_goals rfl
            · simp -implicitDefEqProofs only [go_sem, simprocAttr, b0, b1]
              all_goals rfl
      · have e2 : (if (so, true).2 = false then none else if op ≠ 12 ∧ op ≠ 13 then some 2 else if a = 0 ∨ b = 0 then some 0 else some (so, true).1) = some 2 := by
          rw [if_neg (by simp), if_pos (by omega)]
        have b2 : (op != 12) = true := by simp; omega
        have b3 : (op != 13) = true := by simp; omega
        rw [e2]
        simp -implicitDefEqProofs only [go_sem, simprocAttr, b2, b3]
        all_goals rfl
  · rfl
def opP (l ws : List Int) (k : Int) : Option Int := if fitP l ws = true then some k else none
def anyK (l : List Int) : Option Int := if (fitsS l 0).isSome = true then some 1 else none
def castK (l : List Int) (n : Int) : Option Int := match l with
  | a :: _ => if (a == 0 || canS a n) = true then some n else none
  | [] => none
def sumL (op : Int) (l : List Int) : Option Int := match l with
  | [a, b] => sumS op a b
  | _ => none
def opK (op n : Int) (l : List Int) : Option Int :=
  if op = 1 then opP l [1] 1 else if op = 2 ∨ op = 3 then opP l [1, 1] 1 else if op = 11 then some 1 else if op = 12 ∨ op = 13 then sumL op l
  else if op = 14 ∨ op = 15 ∨ op = 16 then opP l [2, 2] 2 else if op = 17 then opP l [2] 2 else if op = 18 then opP l [3, 3] 3 else if op = 19 then opP l [3, 3] 1
  else if op = 20 ∨ op = 21 then opP l [3] 3 else if op = 22 then opP l [3] 2 else if op = 23 then opP l [3, 2, 2] 3 else if op = 24 then fitsS l 0
  else if op = 25 then opP l [4] 4 else if op = 26 then opP l [4] 2 else if op = 27 then castK l n else anyK l
def OkT (r : AV) (x : Option Int) : Prop := match x with
  | some k => r = .tup [I k, .bool true]
  | none => ∃ z, r = .tup [I z, .bool false]
theorem OkT.ofI (x : Option Int) : OkT (okI x) x := by
  cases x with
  | some k => rfl
  | none => exact ⟨0, rfl⟩
theorem OkT.ofP (l ws : List Int) (k : Int) : OkT (.tup [I k, .bool (fitP l ws)]) (opP l ws k) := by
  unfold opP
  cases h : fitP l ws with
  | true => rw [if_pos rfl]; rfl
  | false => rw [if_neg (by simp)]; exact ⟨k, rfl⟩
theorem ofP_eq (l ws : List Int) (k : Int) : (if fitP l ws = true then some k else none) = opP l ws k := rfl
theorem okI_tup (x : Option Int) : ∃ z, okI x = .tup [I z, .bool x.isSome] ∧ (x.isSome = true → x = some z) := by
  cases x with
  | some k => exact ⟨k, rfl, fun _ => rfl⟩
  | none => exact ⟨0, rfl, fun h => by simp at h⟩
theorem len1 {l : List Int} (h : ((l.length : Int) == 1) = true) : ∃ a, l = [a] := by
  have h : l.length = 1 := by have := beq_iff_eq.1 h; omega
  match l, h with
  | [a], _ => exact ⟨a, rfl⟩
theorem len2 {l : List Int} (h : ((l.length : Int) == 2) = true) : ∃ a b, l = [a, b] := by
  have h : l.length = 2 := by have := beq_iff_eq.1 h; omega
  match l, h with
  | [a, b], _ => exact ⟨a, b, rfl⟩
theorem len3 {l : List Int} (h : ((l.length : Int) == 3) = true) : ∃ a b c, l = [a, b, c] := by
  have h : l.length = 3 := by have := beq_iff_eq.1 h; omega
  match l, h with
  | [a, b, c], _ => exact ⟨a, b, c, rfl⟩
theorem c_op1 (e : Ex) (l : List Int) (q : e.op = 1) (hn : rightNS e.op e.n = true) (hl : argsOk 4 e.op (l.length : Int) = true) (hl2 : l.length ≤ 1000000) (hk : ∀ x ∈ l, 0 ≤ x) : ∃ r, R K (.call 159 [.agg (exC e), LR l] []) = some (r, []) ∧ OkT r (opK e.op e.n l) := by
  rw [q] at hl hn ⊢
  obtain ⟨a, rfl⟩ := len1 hl
  rw [show opK 1 e.n [a] = opP [a] [1] 1 from rfl]
  have hf := c_fits [a] [1] (by simp) (by simp)
  simp only [LR, List.map] at hf ⊢
  refine ⟨_, ?_, OkT.ofP _ _ _⟩
  rw [call_159]
  simp -implicitDefEqProofs only [go_sem, simprocAttr, Tryz.f159, exC_eq, q, hf]
theorem c_op2 (e : Ex) (l : List Int) (q : e.op = 2) (hn : rightNS e.op e.n = true) (hl : argsOk 4 e.op (l.length : Int) = true) (hl2 : l.length ≤ 1000000) (hk : ∀ x ∈ l, 0 ≤ x) : ∃ r, R K (.call 159 [.agg (exC e), LR l] []) = some (r, []) ∧ OkT r (opK e.op e.n l) := by
  rw [q] at hl hn ⊢
  obtain ⟨a, b, rfl⟩ := len2 hl
  rw [show opK 2 e.n [a, b] = opP [a, b] [1, 1] 1 from rfl]
  have hf := c_fits [a, b] [1, 1] (by simp) (by simp)
  simp only [LR, List.map] at hf ⊢
  refine ⟨_, ?_, OkT.ofP _ _ _⟩
  rw [call_159]
  simp -implicitDefEqProofs only [go_sem, simprocAttr, Tryz.f159, exC_eq, q, hf]
theorem c_op3 (e : Ex) (l : List Int) (q : e.op = 3) (hn : rightNS e.op e.n = true) (hl : argsOk 4 e.op (l.length : Int) = true) (hl2 : l.length ≤ 1000000) (hk : ∀ x ∈ l, 0 ≤ x) : ∃ r, R K (.call 159 [.agg (exC e), LR l] []) = some (r, []) ∧ OkT r (opK e.op e.n l) := by
  rw [q] at hl hn ⊢
  obtain ⟨a, b, rfl⟩ := len2 hl
  rw [show opK 3 e.n [a, b] = opP [a, b] [1, 1] 1 from rfl]
  have hf := c_fits [a, b] [1, 1] (by simp) (by simp)
  simp only [LR, List.map] at hf ⊢
  refine ⟨_, ?_, OkT.ofP _ _ _⟩
  rw [call_159]
  simp -implicitDefEqProofs only [go_sem, simprocAttr, Tryz.f159, exC_eq, q, hf]
theorem c_op4 (e : Ex) (l : List Int) (q : e.op = 4) (hn : rightNS e.op e.n = true) (hl : argsOk 4 e.op (l.length : Int) = true) (hl2 : l.length ≤ 1000000) (hk : ∀ x ∈ l, 0 ≤ x) : ∃ r, R K (.call 159 [.agg (exC e), LR l] []) = some (r, []) ∧ OkT r (opK e.op e.n l) := by
  rw [q] at hl hn ⊢
  obtain ⟨a, b, rfl⟩ := len2 hl
  rw [show opK 4 e.n [a, b] = anyK [a, b] from rfl]
  have hf := c_common [a, b] (by simp) hk
  unfold anyK
  generalize fitsS [a, b] 0 = x at hf ⊢
  obtain ⟨z, hz, _⟩ := okI_tup x
  rw [hz] at hf
  simp only [LR, List.map] at hf ⊢
  refine ⟨.tup [I 1, .bool x.isSome], ?_, ?_⟩
  · rw [call_159]
    simp -implicitDefEqProofs only [go_sem, simprocAttr, Tryz.f159, exC_eq, q, hf]
  · cases x with
    | some y => rfl
    | none => exact ⟨1, rfl⟩
theorem c_op5 (e : Ex) (l : List Int) (q : e.op = 5) (hn : rightNS e.op e.n = true) (hl : argsOk 4 e.op (l.length : Int) = true) (hl2 : l.length ≤ 1000000) (hk : ∀ x ∈ l, 0 ≤ x) : ∃ r, R K (.call 159 [.agg (exC e), LR l] []) = some (r, []) ∧ OkT r (opK e.op e.n l) := by
  rw [q] at hl hn ⊢
  obtain ⟨a, b, rfl⟩ := len2 hl
  rw [show opK 5 e.n [a, b] = anyK [a, b] from rfl]
  have hf := c_common [a, b] (by simp) hk
  unfold anyK
  generalize fitsS [a, b] 0 = x at hf ⊢
  obtain ⟨z, hz, _⟩ := okI_tup x
  rw [hz] at hf
  simp only [LR, List.map] at hf ⊢
  refine ⟨.tup [I 1, .bool x.isSome], ?_, ?_⟩
  · rw [call_159]
    simp -implicitDefEqProofs only [go_sem, simprocAttr, Tryz.f159, exC_eq, q, hf]
  · cases x with
    | some y => rfl
    | none => exact ⟨1, rfl⟩
theorem c_op6 (e : Ex) (l : List Int) (q : e.op = 6) (hn : rightNS e.op e.n = true) (hl : argsOk 4 e.op (l.length : Int) = true) (hl2 : l.length ≤ 1000000) (hk : ∀ x ∈ l, 0 ≤ x) : ∃ r, R K (.call 159 [.agg (exC e), LR l] []) = some (r, []) ∧ OkT r (opK e.op e.n l) := by
  rw [q] at hl hn ⊢
  obtain ⟨a, b, rfl⟩ := len2 hl
  rw [show opK 6 e.n [a, b] = anyK [a, b] from rfl]
  have hf := c_common [a, b] (by simp) hk
  unfold anyK
  generalize fitsS [a, b] 0 = x at hf ⊢
  obtain ⟨z, hz, _⟩ := okI_tup x
  rw [hz] at hf
  simp only [LR, List.map] at hf ⊢
  refine ⟨.tup [I 1, .bool x.isSome], ?_, ?_⟩
  · rw [call_159]
    simp -implicitDefEqProofs only [go_sem, simprocAttr, Tryz.f159, exC_eq, q, hf]
  · cases x with
    | some y => rfl
    | none => exact ⟨1, rfl⟩
theorem c_op7 (e : Ex) (l : List Int) (q : e.op = 7) (hn : rightNS e.op e.n = true) (hl : argsOk 4 e.op (l.length : Int) = true) (hl2 : l.length ≤ 1000000) (hk : ∀ x ∈ l, 0 ≤ x) : ∃ r, R K (.call 159 [.agg (exC e), LR l] []) = some (r, []) ∧ OkT r (opK e.op e.n l) := by
  rw [q] at hl hn ⊢
  obtain ⟨a, b, rfl⟩ := len2 hl
  rw [show opK 7 e.n [a, b] = anyK [a, b] from rfl]
  have hf := c_common [a, b] (by simp) hk
  unfold anyK
  generalize fitsS [a, b] 0 = x at hf ⊢
  obtain ⟨z, hz, _⟩ := okI_tup x
  rw [hz] at hf
  simp only [LR, List.map] at hf ⊢
  refine ⟨.tup [I 1, .bool x.isSome], ?_, ?_⟩
  · rw [call_159]
    simp -implicitDefEqProofs only [go_sem, simprocAttr, Tryz.f159, exC_eq, q, hf]
  · cases x with
    | some y => rfl
    | none => exact ⟨1, rfl⟩
theorem c_op8 (e : Ex) (l : List Int) (q : e.op = 8) (hn : rightNS e.op e.n = true) (hl : argsOk 4 e.op (l.length : Int) = true) (hl2 : l.length ≤ 1000000) (hk : ∀ x ∈ l, 0 ≤ x) : ∃ r, R K (.call 159 [.agg (exC e), LR l] []) = some (r, []) ∧ OkT r (opK e.op e.n l) := by
  rw [q] at hl hn ⊢
  obtain ⟨a, b, rfl⟩ := len2 hl
  rw [show opK 8 e.n [a, b] = anyK [a, b] from rfl]
  have hf := c_common [a, b] (by simp) hk
  unfold anyK
  generalize fitsS [a, b] 0 = x at hf ⊢
  obtain ⟨z, hz, _⟩ := okI_tup x
  rw [hz] at hf
  simp only [LR, List.map] at hf ⊢
  refine ⟨.tup [I 1, .bool x.isSome], ?_, ?_⟩
  · rw [call_159]
    simp -implicitDefEqProofs only [go_sem, simprocAttr, Tryz.f159, exC_eq, q, hf]
  · cases x with
    | some y => rfl
    | none => exact ⟨1, rfl⟩
theorem c_op9 (e : Ex) (l : List Int) (q : e.op = 9) (hn : rightNS e.op e.n = true) (hl : argsOk 4 e.op (l.length : Int) = true) (hl2 : l.length ≤ 1000000) (hk : ∀ x ∈ l, 0 ≤ x) : ∃ r, R K (.call 159 [.agg (exC e), LR l] []) = some (r, []) ∧ OkT r (opK e.op e.n l) := by
  rw [q] at hl hn ⊢
  obtain ⟨a, b, rfl⟩ := len2 hl
  rw [show opK 9 e.n [a, b] = anyK [a, b] from rfl]
  have hf := c_common [a, b] (by simp) hk
  unfold anyK
  generalize fitsS [a, b] 0 = x at hf ⊢
  obtain ⟨z, hz, _⟩ := okI_tup x
  rw [hz] at hf
  simp only [LR, List.map] at hf ⊢
  refine ⟨.tup [I 1, .bool x.isSome], ?_, ?_⟩
  · rw [call_159]
    simp -implicitDefEqProofs only [go_sem, simprocAttr, Tryz.f159, exC_eq, q, hf]
  · cases x with
    | some y => rfl
    | none => exact ⟨1, rfl⟩
theorem c_op10 (e : Ex) (l : List Int) (q : e.op = 10) (hn : rightNS e.op e.n = true) (hl : argsOk 4 e.op (l.length : Int) = true) (hl2 : l.length ≤ 1000000) (hk : ∀ x ∈ l, 0 ≤ x) : ∃ r, R K (.call 159 [.agg (exC e), LR l] []) = some (r, []) ∧ OkT r (opK e.op e.n l) := by
  rw [q] at hl hn ⊢
  obtain ⟨a, b, rfl⟩ := len2 hl
  rw [show opK 10 e.n [a, b] = anyK [a, b] from rfl]
  have hf := c_common [a, b] (by simp) hk
  unfold anyK
  generalize fitsS [a, b] 0 = x at hf ⊢
  obtain ⟨z, hz, _⟩ := okI_tup x
  rw [hz] at hf
  simp only [LR, List.map] at hf ⊢
  refine ⟨.tup [I 1, .bool x.isSome], ?_, ?_⟩
  · rw [call_159]
    simp -implicitDefEqProofs only [go_sem, simprocAttr, Tryz.f159, exC_eq, q, hf]
  · cases x with
    | some y => rfl
    | none => exact ⟨1, rfl⟩
theorem c_op11 (e : Ex) (l : List Int) (q : e.op = 11) (hn : rightNS e.op e.n = true) (hl : argsOk 4 e.op (l.length : Int) = true) (hl2 : l.length ≤ 1000000) (hk : ∀ x ∈ l, 0 ≤ x) : ∃ r, R K (.call 159 [.agg (exC e), LR l] []) = some (r, []) ∧ OkT r (opK e.op e.n l) := by
  rw [q] at hl hn ⊢
  obtain ⟨a, rfl⟩ := len1 hl
  rw [show opK 11 e.n [a] = some 1 from rfl]
  refine ⟨.tup [I 1, .bool true], ?_, rfl⟩
  rw [call_159]
  simp -implicitDefEqProofs only [go_sem, simprocAttr, Tryz.f159, exC_eq, q]
theorem c_op12 (e : Ex) (l : List Int) (q : e.op = 12) (hn : rightNS e.op e.n = true) (hl : argsOk 4 e.op (l.length : Int) = true) (hl2 : l.length ≤ 1000000) (hk : ∀ x ∈ l, 0 ≤ x) : ∃ r, R K (.call 159 [.agg (exC e), LR l] []) = some (r, []) ∧ OkT r (opK e.op e.n l) := by
  rw [q] at hl hn ⊢
  obtain ⟨a, b, rfl⟩ := len2 hl
  rw [show opK 12 e.n [a, b] = sumS 12 a b from rfl]
  have hf := c_sum 12 a b (by omega)
  generalize sumS 12 a b = x at hf ⊢
  obtain ⟨z, hz, _⟩ := okI_tup x
  rw [hz] at hf
  simp only [LR, List.map] at hf ⊢
  refine ⟨_, ?_, OkT.ofI _⟩
  rw [hz]
  rw [call_159]
  simp -implicitDefEqProofs only [go_sem, simprocAttr, Tryz.f159, exC_eq, q, hf, at?]
theorem c_op13 (e : Ex) (l : List Int) (q : e.op = 13) (hn : rightNS e.op e.n = true) (hl : argsOk 4 e.op (l.length : Int) = true) (hl2 : l.length ≤ 1000000) (hk : ∀ x ∈ l, 0 ≤ x) : ∃ r, R K (.call 159 [.agg (exC e), LR l] []) = some (r, []) ∧ OkT r (opK e.op e.n l) := by
  rw [q] at hl hn ⊢
  obtain ⟨a, b, rfl⟩ := len2 hl
  rw [show opK 13 e.n [a, b] = sumS 13 a b from rfl]
  have hf := c_sum 13 a b (by omega)
  generalize sumS 13 a b = x at hf ⊢
  obtain ⟨z, hz, _⟩ := okI_tup x
  rw [hz] at hf
  simp only [LR, List.map] at hf ⊢
  refine ⟨_, ?_, OkT.ofI _⟩
  rw [hz]
  rw [call_159]
  simp -implicitDefEqProofs only [go_sem, simprocAttr, Tryz.f159, exC_eq, q, hf, at?]
theorem c_op14 (e : Ex) (l : List Int) (q : e.op = 14) (hn : rightNS e.op e.n = true) (hl : argsOk 4 e.op (l.length : Int) = true) (hl2 : l.length ≤ 1000000) (hk : ∀ x ∈ l, 0 ≤ x) : ∃ r, R K (.call 159 [.agg (exC e), LR l] []) = some (r, []) ∧ OkT r (opK e.op e.n l) := by
  rw [q] at hl hn ⊢
  obtain ⟨a, b, rfl⟩ := len2 hl
  rw [show opK 14 e.n [a, b] = opP [a, b] [2, 2] 2 from rfl]
  have hf := c_fits [a, b] [2, 2] (by simp) (by simp)
  simp only [LR, List.map] at hf ⊢
  refine ⟨_, ?_, OkT.ofP _ _ _⟩
  rw [call_159]
  simp -implicitDefEqProofs only [go_sem, simprocAttr, Tryz.f159, exC_eq, q, hf]
theorem c_op15 (e : Ex) (l : List Int) (q : e.op = 15) (hn : rightNS e.op e.n = true) (hl : argsOk 4 e.op (l.length : Int) = true) (hl2 : l.length ≤ 1000000) (hk : ∀ x ∈ l, 0 ≤ x) : ∃ r, R K (.call 159 [.agg (exC e), LR l] []) = some (r, []) ∧ OkT r (opK e.op e.n l) := by
  rw [q] at hl hn ⊢
  obtain ⟨a, b, rfl⟩ := len2 hl
  rw [show opK 15 e.n [a, b] = opP [a, b] [2, 2] 2 from rfl]
  have hf := c_fits [a, b] [2, 2] (by simp) (by simp)
  simp only [LR, List.map] at hf ⊢
  refine ⟨_, ?_, OkT.ofP _ _ _⟩
  rw [call_159]
  simp -implicitDefEqProofs only [go_sem, simprocAttr, Tryz.f159, exC_eq, q, hf]
theorem c_op16 (e : Ex) (l : List Int) (q : e.op = 16) (hn : rightNS e.op e.n = true) (hl : argsOk 4 e.op (l.length : Int) = true) (hl2 : l.length ≤ 1000000) (hk : ∀ x ∈ l, 0 ≤ x) : ∃ r, R K (.call 159 [.agg (exC e), LR l] []) = some (r, []) ∧ OkT r (opK e.op e.n l) := by
  rw [q] at hl hn ⊢
  obtain ⟨a, b, rfl⟩ := len2 hl
  rw [show opK 16 e.n [a, b] = opP [a, b] [2, 2] 2 from rfl]
  have hf := c_fits [a, b] [2, 2] (by simp) (by simp)
  simp only [LR, List.map] at hf ⊢
  refine ⟨_, ?_, OkT.ofP _ _ _⟩
  rw [call_159]
  simp -implicitDefEqProofs only [go_sem, simprocAttr, Tryz.f159, exC_eq, q, hf]
theorem c_op17 (e : Ex) (l : List Int) (q : e.op = 17) (hn : rightNS e.op e.n = true) (hl : argsOk 4 e.op (l.length : Int) = true) (hl2 : l.length ≤ 1000000) (hk : ∀ x ∈ l, 0 ≤ x) : ∃ r, R K (.call 159 [.agg (exC e), LR l] []) = some (r, []) ∧ OkT r (opK e.op e.n l) := by
  rw [q] at hl hn ⊢
  obtain ⟨a, rfl⟩ := len1 hl
  rw [show opK 17 e.n [a] = opP [a] [2] 2 from rfl]
  have hf := c_fits [a] [2] (by simp) (by simp)
  simp only [LR, List.map] at hf ⊢
  refine ⟨_, ?_, OkT.ofP _ _ _⟩
  rw [call_159]
  simp -implicitDefEqProofs only [go_sem, simprocAttr, Tryz.f159, exC_eq, q, hf]
theorem c_op18 (e : Ex) (l : List Int) (q : e.op = 18) (hn : rightNS e.op e.n = true) (hl : argsOk 4 e.op (l.length : Int) = true) (hl2 : l.length ≤ 1000000) (hk : ∀ x ∈ l, 0 ≤ x) : ∃ r, R K (.call 159 [.agg (exC e), LR l] []) = some (r, []) ∧ OkT r (opK e.op e.n l) := by
  rw [q] at hl hn ⊢
  obtain ⟨a, b, rfl⟩ := len2 hl
  rw [show opK 18 e.n [a, b] = opP [a, b] [3, 3] 3 from rfl]
  have hf := c_fits [a, b] [3, 3] (by simp) (by simp)
  simp only [LR, List.map] at hf ⊢
  refine ⟨_, ?_, OkT.ofP _ _ _⟩
  rw [call_159]
  simp -implicitDefEqProofs only [go_sem, simprocAttr, Tryz.f159, exC_eq, q, hf]
theorem c_op19 (e : Ex) (l : List Int) (q : e.op = 19) (hn : rightNS e.op e.n = true) (hl : argsOk 4 e.op (l.length : Int) = true) (hl2 : l.length ≤ 1000000) (hk : ∀ x ∈ l, 0 ≤ x) : ∃ r, R K (.call 159 [.agg (exC e), LR l] []) = some (r, []) ∧ OkT r (opK e.op e.n l) := by
  rw [q] at hl hn ⊢
  obtain ⟨a, b, rfl⟩ := len2 hl
  rw [show opK 19 e.n [a, b] = opP [a, b] [3, 3] 1 from rfl]
  have hf := c_fits [a, b] [3, 3] (by simp) (by simp)
  simp only [LR, List.map] at hf ⊢
  refine ⟨_, ?_, OkT.ofP _ _ _⟩
  rw [call_159]
  simp -implicitDefEqProofs only [go_sem, simprocAttr, Tryz.f159, exC_eq, q, hf]
theorem c_op20 (e : Ex) (l : List Int) (q : e.op = 20) (hn : rightNS e.op e.n = true) (hl : argsOk 4 e.op (l.length : Int) = true) (hl2 : l.length ≤ 1000000) (hk : ∀ x ∈ l, 0 ≤ x) : ∃ r, R K (.call 159 [.agg (exC e), LR l] []) = some (r, []) ∧ OkT r (opK e.op e.n l) := by
  rw [q] at hl hn ⊢
  obtain ⟨a, rfl⟩ := len1 hl
  rw [show opK 20 e.n [a] = opP [a] [3] 3 from rfl]
  have hf := c_fits [a] [3] (by simp) (by simp)
  simp only [LR, List.map] at hf ⊢
  refine ⟨_, ?_, OkT.ofP _ _ _⟩
  rw [call_159]
  simp -implicitDefEqProofs only [go_sem, simprocAttr, Tryz.f159, exC_eq, q, hf]
theorem c_op21 (e : Ex) (l : List Int) (q : e.op = 21) (hn : rightNS e.op e.n = true) (hl : argsOk 4 e.op (l.length : Int) = true) (hl2 : l.length ≤ 1000000) (hk : ∀ x ∈ l, 0 ≤ x) : ∃ r, R K (.call 159 [.agg (exC e), LR l] []) = some (r, []) ∧ OkT r (opK e.op e.n l) := by
  rw [q] at hl hn ⊢
  obtain ⟨a, rfl⟩ := len1 hl
  rw [show opK 21 e.n [a] = opP [a] [3] 3 from rfl]
  have hf := c_fits [a] [3] (by simp) (by simp)
  simp only [LR, List.map] at hf ⊢
  refine ⟨_, ?_, OkT.ofP _ _ _⟩
  rw [call_159]
  simp -implicitDefEqProofs only [go_sem, simprocAttr, Tryz.f159, exC_eq, q, hf]
theorem c_op22 (e : Ex) (l : List Int) (q : e.op = 22) (hn : rightNS e.op e.n = true) (hl : argsOk 4 e.op (l.length : Int) = true) (hl2 : l.length ≤ 1000000) (hk : ∀ x ∈ l, 0 ≤ x) : ∃ r, R K (.call 159 [.agg (exC e), LR l] []) = some (r, []) ∧ OkT r (opK e.op e.n l) := by
  rw [q] at hl hn ⊢
  obtain ⟨a, rfl⟩ := len1 hl
  rw [show opK 22 e.n [a] = opP [a] [3] 2 from rfl]
  have hf := c_fits [a] [3] (by simp) (by simp)
  simp only [LR, List.map] at hf ⊢
  refine ⟨_, ?_, OkT.ofP _ _ _⟩
  rw [call_159]
  simp -implicitDefEqProofs only [go_sem, simprocAttr, Tryz.f159, exC_eq, q, hf]
theorem c_op23 (e : Ex) (l : List Int) (q : e.op = 23) (hn : rightNS e.op e.n = true) (hl : argsOk 4 e.op (l.length : Int) = true) (hl2 : l.length ≤ 1000000) (hk : ∀ x ∈ l, 0 ≤ x) : ∃ r, R K (.call 159 [.agg (exC e), LR l] []) = some (r, []) ∧ OkT r (opK e.op e.n l) := by
  rw [q] at hl hn ⊢
  obtain ⟨a, b, c, rfl⟩ := len3 hl
  rw [show opK 23 e.n [a, b, c] = opP [a, b, c] [3, 2, 2] 3 from rfl]
  have hf := c_fits [a, b, c] [3, 2, 2] (by simp) (by simp)
  simp only [LR, List.map] at hf ⊢
  refine ⟨_, ?_, OkT.ofP _ _ _⟩
  rw [call_159]
  simp -implicitDefEqProofs only [go_sem, simprocAttr, Tryz.f159, exC_eq, q, hf]
theorem c_op24 (e : Ex) (l : List Int) (q : e.op = 24) (hn : rightNS e.op e.n = true) (hl : argsOk 4 e.op (l.length : Int) = true) (hl2 : l.length ≤ 1000000) (hk : ∀ x ∈ l, 0 ≤ x) : ∃ r, R K (.call 159 [.agg (exC e), LR l] []) = some (r, []) ∧ OkT r (opK e.op e.n l) := by
  rw [q] at hl hn ⊢
  rw [show opK 24 e.n l = fitsS l 0 from rfl]
  have hf := c_common l hl2 hk
  generalize fitsS l 0 = x at hf ⊢
  obtain ⟨z, hz, _⟩ := okI_tup x
  rw [hz] at hf
  refine ⟨_, ?_, OkT.ofI _⟩
  rw [hz]
  rw [call_159]
  simp -implicitDefEqProofs only [go_sem, simprocAttr, Tryz.f159, exC_eq, q, hf]
theorem c_op25 (e : Ex) (l : List Int) (q : e.op = 25) (hn : rightNS e.op e.n = true) (hl : argsOk 4 e.op (l.length : Int) = true) (hl2 : l.length ≤ 1000000) (hk : ∀ x ∈ l, 0 ≤ x) : ∃ r, R K (.call 159 [.agg (exC e), LR l] []) = some (r, []) ∧ OkT r (opK e.op e.n l) := by
  rw [q] at hl hn ⊢
  obtain ⟨a, rfl⟩ := len1 hl
  rw [show opK 25 e.n [a] = opP [a] [4] 4 from rfl]
  have hf := c_fits [a] [4] (by simp) (by simp)
  simp only [LR, List.map] at hf ⊢
  refine ⟨_, ?_, OkT.ofP _ _ _⟩
  rw [call_159]
  simp -implicitDefEqProofs only [go_sem, simprocAttr, Tryz.f159, exC_eq, q, hf]
theorem c_op26 (e : Ex) (l : List Int) (q : e.op = 26) (hn : rightNS e.op e.n = true) (hl : argsOk 4 e.op (l.length : Int) = true) (hl2 : l.length ≤ 1000000) (hk : ∀ x ∈ l, 0 ≤ x) : ∃ r, R K (.call 159 [.agg (exC e), LR l] []) = some (r, []) ∧ OkT r (opK e.op e.n l) := by
  rw [q] at hl hn ⊢
  obtain ⟨a, rfl⟩ := len1 hl
  rw [show opK 26 e.n [a] = opP [a] [4] 2 from rfl]
  have hf := c_fits [a] [4] (by simp) (by simp)
  simp only [LR, List.map] at hf ⊢
  refine ⟨_, ?_, OkT.ofP _ _ _⟩
  rw [call_159]
  simp -implicitDefEqProofs only [go_sem, simprocAttr, Tryz.f159, exC_eq, q, hf]
theorem c_op27 (e : Ex) (l : List Int) (q : e.op = 27) (hn : rightNS e.op e.n = true) (hl : argsOk 4 e.op (l.length : Int) = true) (hl2 : l.length ≤ 1000000) (hk : ∀ x ∈ l, 0 ≤ x) : ∃ r, R K (.call 159 [.agg (exC e), LR l] []) = some (r, []) ∧ OkT r (opK e.op e.n l) := by
  rw [q] at hl hn ⊢
  obtain ⟨a, rfl⟩ := len1 hl
  rw [show opK 27 e.n [a] = castK [a] e.n from rfl]
  have hw : within e.n 1 4 = true := hn
  have hf := c_Can a e.n
  have hz : ∀ b : Bool, OkT (.tup [I e.n, .bool b]) (if b = true then some e.n else none) := fun b => by
    cases b
    · exact ⟨e.n, rfl⟩
    · rfl
  have hs : a = e.n → canS a e.n = true := by
    rintro rfl
    have hb := (wit_iff _ _ _).1 hw
    unfold canS
    rw [hw]
    have h1 : (e.n == 1 && e.n == 4) = false := by rw [Bool.and_eq_false_iff]; simp; omega
    have h2 : (e.n == 4 && e.n == 1) = false := by rw [Bool.and_eq_false_iff]; simp; omega
    rw [h1, h2]; rfl
  refine ⟨.tup [I e.n, .bool (a == 0 || canS a e.n)], ?_, hz _⟩
  simp only [LR, List.map]
  by_cases h0 : a = 0
  · have b0 : (a == 0) = true := by simp [h0]
    rw [call_159]
    simp -implicitDefEqProofs only [go_sem, simprocAttr, Tryz.f159, exC_eq, q, at?, Int.toNat_zero, hf, b0]
  · have b0 : (a == 0) = false := by simpa using h0
    by_cases h1 : a = e.n
    · have b1 : (a == e.n) = true := by simp [h1]
      rw [hs h1]
      rw [call_159]
      simp -implicitDefEqProofs only [go_sem, simprocAttr, Tryz.f159, exC_eq, q, at?, Int.toNat_zero, hf, b0, b1]
    · have b1 : (a == e.n) = false := by simpa using h1
      rw [call_159]
      simp -implicitDefEqProofs only [go_sem, simprocAttr, Tryz.f159, exC_eq, q, at?, Int.toNat_zero, hf, b0, b1]
theorem c_operated (e : Ex) (l : List Int) (hop : within e.op 1 27 = true) (hn : rightNS e.op e.n = true) (hl : argsOk 4 e.op (l.length : Int) = true) (hl2 : l.length ≤ 1000000) (hk : ∀ x ∈ l, 0 ≤ x) : ∃ r, R K (.call 159 [.agg (exC e), LR l] []) = some (r, []) ∧ OkT r (opK e.op e.n l) := by
  have hb := (wit_iff _ _ _).1 hop
  have hc : e.op = 1 ∨ e.op = 2 ∨ e.op = 3 ∨ e.op = 4 ∨ e.op = 5 ∨ e.op = 6 ∨ e.op = 7 ∨ e.op = 8 ∨ e.op = 9 ∨ e.op = 10 ∨ e.op = 11 ∨ e.op = 12 ∨ e.op = 13 ∨ e.op = 14 ∨ e.op = 15 ∨ e.op = 16 ∨ e.op = 17 ∨ e.op = 18 ∨ e.op = 19 ∨ e.op = 20 ∨ e.op = 21 ∨ e.op = 22 ∨ e.op = 23 ∨ e.op = 24 ∨ e.op = 25 ∨ e.op = 26 ∨ e.op = 27 := by omega
  rcases hc with q | q | q | q | q | q | q | q | q | q | q | q | q | q | q | q | q | q | q | q | q | q | q | q | q | q | q
  · exact c_op1 e l q hn hl hl2 hk
  · exact c_op2 e l q hn hl hl2 hk
  · exact c_op3 e l q hn hl hl2 hk
  · exact c_op4 e l q hn hl hl2 hk
  · exact c_op5 e l q hn hl hl2 hk
  · exact c_op6 e l q hn hl hl2 hk
  · exact c_op7 e l q hn hl hl2 hk
  · exact c_op8 e l q hn hl hl2 hk
  · exact c_op9 e l q hn hl hl2 hk
  · exact c_op10 e l q hn hl hl2 hk
  · exact c_op11 e l q hn hl hl2 hk
  · exact c_op12 e l q hn hl hl2 hk
  · exact c_op13 e l q hn hl hl2 hk
  · exact c_op14 e l q hn hl hl2 hk
  · exact c_op15 e l q hn hl hl2 hk
  · exact c_op16 e l q hn hl hl2 hk
  · exact c_op17 e l q hn hl hl2 hk
  · exact c_op18 e l q hn hl hl2 hk
  · exact c_op19 e l q hn hl hl2 hk
  · exact c_op20 e l q hn hl hl2 hk
  · exact c_op21 e l q hn hl hl2 hk
  · exact c_op22 e l q hn hl hl2 hk
  · exact c_op23 e l q hn hl hl2 hk
  · exact c_op24 e l q hn hl hl2 hk
  · exact c_op25 e l q hn hl hl2 hk
  · exact c_op26 e l q hn hl hl2 hk
  · exact c_op27 e l q hn hl hl2 hk
theorem r_op1 (e : Ex) (l : List Int) (q : e.op = 1) (hn : rightNS e.op e.n = true) (hl : argsOk 4 e.op (l.length : Int) = true) (hl2 : l.length ≤ 1000000) (hk : ∀ x ∈ l, 0 ≤ x) : ∃ r, R K (.call 167 [.agg (exC e), LR l] []) = some (r, []) ∧ OkT r (opK e.op e.n l) := by
  rw [q] at hl hn ⊢
  obtain ⟨a, rfl⟩ := len1 hl
  rw [show opK 1 e.n [a] = opP [a] [1] 1 from rfl]
  have hf := r_is [a] [1] (by simp) (by simp) (by decide) 1
  rw [ofP_eq] at hf
  generalize opP [a] [1] 1 = x at hf ⊢
  obtain ⟨z, hz, _⟩ := okI_tup x
  rw [hz] at hf
  simp only [LR, List.map] at hf ⊢
  refine ⟨_, ?_, OkT.ofI _⟩
  rw [hz]
  rw [call_167]
  simp -implicitDefEqProofs only [go_sem, simprocAttr, Tryz.f167, exC_eq, q, hf]
theorem r_op2 (e : Ex) (l : List Int) (q : e.op = 2) (hn : rightNS e.op e.n = true) (hl : argsOk 4 e.op (l.length : Int) = true) (hl2 : l.length ≤ 1000000) (hk : ∀ x ∈ l, 0 ≤ x) : ∃ r, R K (.call 167 [.agg (exC e), LR l] []) = some (r, []) ∧ OkT r (opK e.op e.n l) := by
  rw [q] at hl hn ⊢
  obtain ⟨a, b, rfl⟩ := len2 hl
  rw [show opK 2 e.n [a, b] = opP [a, b] [1, 1] 1 from rfl]
  have hf := r_is [a, b] [1, 1] (by simp) (by simp) (by decide) 1
  rw [ofP_eq] at hf
  generalize opP [a, b] [1, 1] 1 = x at hf ⊢
  obtain ⟨z, hz, _⟩ := okI_tup x
  rw [hz] at hf
  simp only [LR, List.map] at hf ⊢
  refine ⟨_, ?_, OkT.ofI _⟩
  rw [hz]
  rw [call_167]
  simp -implicitDefEqProofs only [go_sem, simprocAttr, Tryz.f167, exC_eq, q, hf]
theorem r_op3 (e : Ex) (l : List Int) (q : e.op = 3) (hn : rightNS e.op e.n = true) (hl : argsOk 4 e.op (l.length : Int) = true) (hl2 : l.length ≤ 1000000) (hk : ∀ x ∈ l, 0 ≤ x) : ∃ r, R K (.call 167 [.agg (exC e), LR l] []) = some (r, []) ∧ OkT r (opK e.op e.n l) := by
  rw [q] at hl hn ⊢
  obtain ⟨a, b, rfl⟩ := len2 hl
  rw [show opK 3 e.n [a, b] = opP [a, b] [1, 1] 1 from rfl]
  have hf := r_is [a, b] [1, 1] (by simp) (by simp) (by decide) 1
  rw [ofP_eq] at hf
  generalize opP [a, b] [1, 1] 1 = x at hf ⊢
  obtain ⟨z, hz, _⟩ := okI_tup x
  rw [hz] at hf
  simp only [LR, List.map] at hf ⊢
  refine ⟨_, ?_, OkT.ofI _⟩
  rw [hz]
  rw [call_167]
  simp -implicitDefEqProofs only [go_sem, simprocAttr, Tryz.f167, exC_eq, q, hf]
theorem r_op4 (e : Ex) (l : List Int) (q : e.op = 4) (hn : rightNS e.op e.n = true) (hl : argsOk 4 e.op (l.length : Int) = true) (hl2 : l.length ≤ 1000000) (hk : ∀ x ∈ l, 0 ≤ x) : ∃ r, R K (.call 167 [.agg (exC e), LR l] []) = some (r, []) ∧ OkT r (opK e.op e.n l) := by
  rw [q] at hl hn ⊢
  obtain ⟨a, b, rfl⟩ := len2 hl
  rw [show opK 4 e.n [a, b] = anyK [a, b] from rfl]
  have hf := r_Fits [a, b] (by simp)
  unfold anyK
  generalize fitsS [a, b] 0 = x at hf ⊢
  obtain ⟨z, hz, _⟩ := okI_tup x
  rw [hz] at hf
  simp only [LR, List.map] at hf ⊢
  refine ⟨.tup [I 1, .bool x.isSome], ?_, ?_⟩
  · rw [call_167]
    simp -implicitDefEqProofs only [go_sem, simprocAttr, Tryz.f167, exC_eq, q, hf]
  · cases x with
    | some y => rfl
    | none => exact ⟨1, rfl⟩
theorem r_op5 (e : Ex) (l : List Int) (q : e.op = 5) (hn : rightNS e.op e.n = true) (hl : argsOk 4 e.op (l.length : Int) = true) (hl2 : l.length ≤ 1000000) (hk : ∀ x ∈ l, 0 ≤ x) : ∃ r, R K (.call 167 [.agg (exC e), LR l] []) = some (r, []) ∧ OkT r (opK e.op e.n l) := by
  rw [q] at hl hn ⊢
  obtain ⟨a, b, rfl⟩ := len2 hl
  rw [show opK 5 e.n [a, b] = anyK [a, b] from rfl]
  have hf := r_Fits [a, b] (by simp)
  unfold anyK
  generalize fitsS [a, b] 0 = x at hf ⊢
  obtain ⟨z, hz, _⟩ := okI_tup x
  rw [hz] at hf
  simp only [LR, List.map] at hf ⊢
  refine ⟨.tup [I 1, .bool x.isSome], ?_, ?_⟩
  · rw [call_167]
    simp -implicitDefEqProofs only [go_sem, simprocAttr, Tryz.f167, exC_eq, q, hf]
  · cases x with
    | some y => rfl
    | none => exact ⟨1, rfl⟩
theorem r_op6 (e : Ex) (l : List Int) (q : e.op = 6) (hn : rightNS e.op e.n = true) (hl : argsOk 4 e.op (l.length : Int) = true) (hl2 : l.length ≤ 1000000) (hk : ∀ x ∈ l, 0 ≤ x) : ∃ r, R K (.call 167 [.agg (exC e), LR l] []) = some (r, []) ∧ OkT r (opK e.op e.n l) := by
  rw [q] at hl hn ⊢
  obtain ⟨a, b, rfl⟩ := len2 hl
  rw [show opK 6 e.n [a, b] = anyK [a, b] from rfl]
  have hf := r_Fits [a, b] (by simp)
  unfold anyK
  generalize fitsS [a, b] 0 = x at hf ⊢
  obtain ⟨z, hz, _⟩ := okI_tup x
  rw [hz] at hf
  simp only [LR, List.map] at hf ⊢
  refine ⟨.tup [I 1, .bool x.isSome], ?_, ?_⟩
  · rw [call_167]
    simp -implicitDefEqProofs only [go_sem, simprocAttr, Tryz.f167, exC_eq, q, hf]
  · cases x with
    | some y => rfl
    | none => exact ⟨1, rfl⟩
theorem r_op7 (e : Ex) (l : List Int) (q : e.op = 7) (hn : rightNS e.op e.n = true) (hl : argsOk 4 e.op (l.length : Int) = true) (hl2 : l.length ≤ 1000000) (hk : ∀ x ∈ l, 0 ≤ x) : ∃ r, R K (.call 167 [.agg (exC e), LR l] []) = some (r, []) ∧ OkT r (opK e.op e.n l) := by
  rw [q] at hl hn ⊢
  obtain ⟨a, b, rfl⟩ := len2 hl
  rw [show opK 7 e.n [a, b] = anyK [a, b] from rfl]
  have hf := r_Fits [a, b] (by simp)
  unfold anyK
  generalize fitsS [a, b] 0 = x at hf ⊢
  obtain ⟨z, hz, _⟩ := okI_tup x
  rw [hz] at hf
  simp only [LR, List.map] at hf ⊢
  refine ⟨.tup [I 1, .bool x.isSome], ?_, ?_⟩
  · rw [call_167]
    simp -implicitDefEqProofs only [go_sem, simprocAttr, Tryz.f167, exC_eq, q, hf]
  · cases x with
    | some y => rfl
    | none => exact ⟨1, rfl⟩
theorem r_op8 (e : Ex) (l : List Int) (q : e.op = 8) (hn : rightNS e.op e.n = true) (hl : argsOk 4 e.op (l.length : Int) = true) (hl2 : l.length ≤ 1000000) (hk : ∀ x ∈ l, 0 ≤ x) : ∃ r, R K (.call 167 [.agg (exC e), LR l] []) = some (r, []) ∧ OkT r (opK e.op e.n l) := by
  rw [q] at hl hn ⊢
  obtain ⟨a, b, rfl⟩ := len2 hl
  rw [show opK 8 e.n [a, b] = anyK [a, b] from rfl]
  have hf := r_Fits [a, b] (by simp)
  unfold anyK
  generalize fitsS [a, b] 0 = x at hf ⊢
  obtain ⟨z, hz, _⟩ := okI_tup x
  rw [hz] at hf
  simp only [LR, List.map] at hf ⊢
  refine ⟨.tup [I 1, .bool x.isSome], ?_, ?_⟩
  · rw [call_167]
    simp -implicitDefEqProofs only [go_sem, simprocAttr, Tryz.f167, exC_eq, q, hf]
  · cases x with
    | some y => rfl
    | none => exact ⟨1, rfl⟩
theorem r_op9 (e : Ex) (l : List Int) (q : e.op = 9) (hn : rightNS e.op e.n = true) (hl : argsOk 4 e.op (l.length : Int) = true) (hl2 : l.length ≤ 1000000) (hk : ∀ x ∈ l, 0 ≤ x) : ∃ r, R K (.call 167 [.agg (exC e), LR l] []) = some (r, []) ∧ OkT r (opK e.op e.n l) := by
  rw [q] at hl hn ⊢
  obtain ⟨a, b, rfl⟩ := len2 hl
  rw [show opK 9 e.n [a, b] = anyK [a, b] from rfl]
  have hf := r_Fits [a, b] (by simp)
  unfold anyK
  generalize fitsS [a, b] 0 = x at hf ⊢
  obtain ⟨z, hz, _⟩ := okI_tup x
  rw [hz] at hf
  simp only [LR, List.map] at hf ⊢
  refine ⟨.tup [I 1, .bool x.isSome], ?_, ?_⟩
  · rw [call_167]
    simp -implicitDefEqProofs only [go_sem, simprocAttr, Tryz.f167, exC_eq, q, hf]
  · cases x with
    | some y => rfl
    | none => exact ⟨1, rfl⟩
theorem r_op10 (e : Ex) (l : List Int) (q : e.op = 10) (hn : rightNS e.op e.n = true) (hl : argsOk 4 e.op (l.length : Int) = true) (hl2 : l.length ≤ 1000000) (hk : ∀ x ∈ l, 0 ≤ x) : ∃ r, R K (.call 167 [.agg (exC e), LR l] []) = some (r, []) ∧ OkT r (opK e.op e.n l) := by
  rw [q] at hl hn ⊢
  obtain ⟨a, b, rfl⟩ := len2 hl
  rw [show opK 10 e.n [a, b] = anyK [a, b] from rfl]
  have hf := r_Fits [a, b] (by simp)
  unfold anyK
  generalize fitsS [a, b] 0 = x at hf ⊢
  obtain ⟨z, hz, _⟩ := okI_tup x
  rw [hz] at hf
  simp only [LR, List.map] at hf ⊢
  refine ⟨.tup [I 1, .bool x.isSome], ?_, ?_⟩
  · rw [call_167]
    simp -implicitDefEqProofs only [go_sem, simprocAttr, Tryz.f167, exC_eq, q, hf]
  · cases x with
    | some y => rfl
    | none => exact ⟨1, rfl⟩
theorem r_op11 (e : Ex) (l : List Int) (q : e.op = 11) (hn : rightNS e.op e.n = true) (hl : argsOk 4 e.op (l.length : Int) = true) (hl2 : l.length ≤ 1000000) (hk : ∀ x ∈ l, 0 ≤ x) : ∃ r, R K (.call 167 [.agg (exC e), LR l] []) = some (r, []) ∧ OkT r (opK e.op e.n l) := by
  rw [q] at hl hn ⊢
  obtain ⟨a, rfl⟩ := len1 hl
  rw [show opK 11 e.n [a] = some 1 from rfl]
  refine ⟨.tup [I 1, .bool true], ?_, rfl⟩
  rw [call_167]
  simp -implicitDefEqProofs only [go_sem, simprocAttr, Tryz.f167, exC_eq, q]
theorem r_op12 (e : Ex) (l : List Int) (q : e.op = 12) (hn : rightNS e.op e.n = true) (hl : argsOk 4 e.op (l.length : Int) = true) (hl2 : l.length ≤ 1000000) (hk : ∀ x ∈ l, 0 ≤ x) : ∃ r, R K (.call 167 [.agg (exC e), LR l] []) = some (r, []) ∧ OkT r (opK e.op e.n l) := by
  rw [q] at hl hn ⊢
  obtain ⟨a, b, rfl⟩ := len2 hl
  rw [show opK 12 e.n [a, b] = sumS 12 a b from rfl]
  have hf := r_sumKind 12 a b (by omega)
  rw [show sumK 12 a b = sumS 12 a b from rfl] at hf
  generalize sumS 12 a b = x at hf ⊢
  obtain ⟨z, hz, _⟩ := okI_tup x
  rw [hz] at hf
  simp only [LR, List.map] at hf ⊢
  refine ⟨_, ?_, OkT.ofI _⟩
  rw [hz]
  rw [call_167]
  simp -implicitDefEqProofs only [go_sem, simprocAttr, Tryz.f167, exC_eq, q, hf, at?]
theorem r_op13 (e : Ex) (l : List Int) (q : e.op = 13) (hn : rightNS e.op e.n = true) (hl : argsOk 4 e.op (l.length : Int) = true) (hl2 : l.length ≤ 1000000) (hk : ∀ x ∈ l, 0 ≤ x) : ∃ r, R K (.call 167 [.agg (exC e), LR l] []) = some (r, []) ∧ OkT r (opK e.op e.n l) := by
  rw [q] at hl hn ⊢
  obtain ⟨a, b, rfl⟩ := len2 hl
  rw [show opK 13 e.n [a, b] = sumS 13 a b from rfl]
  have hf := r_sumKind 13 a b (by omega)
  rw [show sumK 13 a b = sumS 13 a b from rfl] at hf
  generalize sumS 13 a b = x at hf ⊢
  obtain ⟨z, hz, _⟩ := okI_tup x
  rw [hz] at hf
  simp only [LR, List.map] at hf ⊢
  refine ⟨_, ?_, OkT.ofI _⟩
  rw [hz]
  rw [call_167]
  simp -implicitDefEqProofs only [go_sem, simprocAttr, Tryz.f167, exC_eq, q, hf, at?]
theorem r_op14 (e : Ex) (l : List Int) (q : e.op = 14) (hn : rightNS e.op e.n = true) (hl : argsOk 4 e.op (l.length : Int) = true) (hl2 : l.length ≤ 1000000) (hk : ∀ x ∈ l, 0 ≤ x) : ∃ r, R K (.call 167 [.agg (exC e), LR l] []) = some (r, []) ∧ OkT r (opK e.op e.n l) := by
  rw [q] at hl hn ⊢
  obtain ⟨a, b, rfl⟩ := len2 hl
  rw [show opK 14 e.n [a, b] = opP [a, b] [2, 2] 2 from rfl]
  have hf := r_sumKind 14 a b (by omega)
  rw [show sumK 14 a b = opP [a, b] [2, 2] 2 from rfl] at hf
  generalize opP [a, b] [2, 2] 2 = x at hf ⊢
  obtain ⟨z, hz, _⟩ := okI_tup x
  rw [hz] at hf
  simp only [LR, List.map] at hf ⊢
  refine ⟨_, ?_, OkT.ofI _⟩
  rw [hz]
  rw [call_167]
  simp -implicitDefEqProofs only [go_sem, simprocAttr, Tryz.f167, exC_eq, q, hf, at?]
theorem r_op15 (e : Ex) (l : List Int) (q : e.op = 15) (hn : rightNS e.op e.n = true) (hl : argsOk 4 e.op (l.length : Int) = true) (hl2 : l.length ≤ 1000000) (hk : ∀ x ∈ l, 0 ≤ x) : ∃ r, R K (.call 167 [.agg (exC e), LR l] []) = some (r, []) ∧ OkT r (opK e.op e.n l) := by
  rw [q] at hl hn ⊢
  obtain ⟨a, b, rfl⟩ := len2 hl
  rw [show opK 15 e.n [a, b] = opP [a, b] [2, 2] 2 from rfl]
  have hf := r_sumKind 15 a b (by omega)
  rw [show sumK 15 a b = opP [a, b] [2, 2] 2 from rfl] at hf
  generalize opP [a, b] [2, 2] 2 = x at hf ⊢
  obtain ⟨z, hz, _⟩ := okI_tup x
  rw [hz] at hf
  simp only [LR, List.map] at hf ⊢
  refine ⟨_, ?_, OkT.ofI _⟩
  rw [hz]
  rw [call_167]
  simp -implicitDefEqProofs only [go_sem, simprocAttr, Tryz.f167, exC_eq, q, hf, at?]
theorem r_op16 (e : Ex) (l : List Int) (q : e.op = 16) (hn : rightNS e.op e.n = true) (hl : argsOk 4 e.op (l.length : Int) = true) (hl2 : l.length ≤ 1000000) (hk : ∀ x ∈ l, 0 ≤ x) : ∃ r, R K (.call 167 [.agg (exC e), LR l] []) = some (r, []) ∧ OkT r (opK e.op e.n l) := by
  rw [q] at hl hn ⊢
  obtain ⟨a, b, rfl⟩ := len2 hl
  rw [show opK 16 e.n [a, b] = opP [a, b] [2, 2] 2 from rfl]
  have hf := r_sumKind 16 a b (by omega)
  rw [show sumK 16 a b = opP [a, b] [2, 2] 2 from rfl] at hf
  generalize opP [a, b] [2, 2] 2 = x at hf ⊢
  obtain ⟨z, hz, _⟩ := okI_tup x
  rw [hz] at hf
  simp only [LR, List.map] at hf ⊢
  refine ⟨_, ?_, OkT.ofI _⟩
  rw [hz]
  rw [call_167]
  simp -implicitDefEqProofs only [go_sem, simprocAttr, Tryz.f167, exC_eq, q, hf, at?]
theorem r_op17 (e : Ex) (l : List Int) (q : e.op = 17) (hn : rightNS e.op e.n = true) (hl : argsOk 4 e.op (l.length : Int) = true) (hl2 : l.length ≤ 1000000) (hk : ∀ x ∈ l, 0 ≤ x) : ∃ r, R K (.call 167 [.agg (exC e), LR l] []) = some (r, []) ∧ OkT r (opK e.op e.n l) := by
  rw [q] at hl hn ⊢
  obtain ⟨a, rfl⟩ := len1 hl
  rw [show opK 17 e.n [a] = opP [a] [2] 2 from rfl]
  have hf := r_is [a] [2] (by simp) (by simp) (by decide) 2
  rw [ofP_eq] at hf
  generalize opP [a] [2] 2 = x at hf ⊢
  obtain ⟨z, hz, _⟩ := okI_tup x
  rw [hz] at hf
  simp only [LR, List.map] at hf ⊢
  refine ⟨_, ?_, OkT.ofI _⟩
  rw [hz]
  rw [call_167]
  simp -implicitDefEqProofs only [go_sem, simprocAttr, Tryz.f167, exC_eq, q, hf]
theorem r_op18 (e : Ex) (l : List Int) (q : e.op = 18) (hn : rightNS e.op e.n = true) (hl : argsOk 4 e.op (l.length : Int) = true) (hl2 : l.length ≤ 1000000) (hk : ∀ x ∈ l, 0 ≤ x) : ∃ r, R K (.call 167 [.agg (exC e), LR l] []) = some (r, []) ∧ OkT r (opK e.op e.n l) := by
  rw [q] at hl hn ⊢
  obtain ⟨a, b, rfl⟩ := len2 hl
  rw [show opK 18 e.n [a, b] = opP [a, b] [3, 3] 3 from rfl]
  have hf := r_is [a, b] [3, 3] (by simp) (by simp) (by decide) 3
  rw [ofP_eq] at hf
  generalize opP [a, b] [3, 3] 3 = x at hf ⊢
  obtain ⟨z, hz, _⟩ := okI_tup x
  rw [hz] at hf
  simp only [LR, List.map] at hf ⊢
  refine ⟨_, ?_, OkT.ofI _⟩
  rw [hz]
  rw [call_167]
  simp -implicitDefEqProofs only [go_sem, simprocAttr, Tryz.f167, exC_eq, q, hf]
theorem r_op19 (e : Ex) (l : List Int) (q : e.op = 19) (hn : rightNS e.op e.n = true) (hl : argsOk 4 e.op (l.length : Int) = true) (hl2 : l.length ≤ 1000000) (hk : ∀ x ∈ l, 0 ≤ x) : ∃ r, R K (.call 167 [.agg (exC e), LR l] []) = some (r, []) ∧ OkT r (opK e.op e.n l) := by
  rw [q] at hl hn ⊢
  obtain ⟨a, b, rfl⟩ := len2 hl
  rw [show opK 19 e.n [a, b] = opP [a, b] [3, 3] 1 from rfl]
  have hf := r_is [a, b] [3, 3] (by simp) (by simp) (by decide) 1
  rw [ofP_eq] at hf
  generalize opP [a, b] [3, 3] 1 = x at hf ⊢
  obtain ⟨z, hz, _⟩ := okI_tup x
  rw [hz] at hf
  simp only [LR, List.map] at hf ⊢
  refine ⟨_, ?_, OkT.ofI _⟩
  rw [hz]
  rw [call_167]
  simp -implicitDefEqProofs only [go_sem, simprocAttr, Tryz.f167, exC_eq, q, hf]
theorem r_op20 (e : Ex) (l : List Int) (q : e.op = 20) (hn : rightNS e.op e.n = true) (hl : argsOk 4 e.op (l.length : Int) = true) (hl2 : l.length ≤ 1000000) (hk : ∀ x ∈ l, 0 ≤ x) : ∃ r, R K (.call 167 [.agg (exC e), LR l] []) = some (r, []) ∧ OkT r (opK e.op e.n l) := by
  rw [q] at hl hn ⊢
  obtain ⟨a, rfl⟩ := len1 hl
  rw [show opK 20 e.n [a] = opP [a] [3] 3 from rfl]
  have hf := r_is [a] [3] (by simp) (by simp) (by decide) 3
  rw [ofP_eq] at hf
  generalize opP [a] [3] 3 = x at hf ⊢
  obtain ⟨z, hz, _⟩ := okI_tup x
  rw [hz] at hf
  simp only [LR, List.map] at hf ⊢
  refine ⟨_, ?_, OkT.ofI _⟩
  rw [hz]
  rw [call_167]
  simp -implicitDefEqProofs only [go_sem, simprocAttr, Tryz.f167, exC_eq, q, hf]
theorem r_op21 (e : Ex) (l : List Int) (q : e.op = 21) (hn : rightNS e.op e.n = true) (hl : argsOk 4 e.op (l.length : Int) = true) (hl2 : l.length ≤ 1000000) (hk : ∀ x ∈ l, 0 ≤ x) : ∃ r, R K (.call 167 [.agg (exC e), LR l] []) = some (r, []) ∧ OkT r (opK e.op e.n l) := by
  rw [q] at hl hn ⊢
  obtain ⟨a, rfl⟩ := len1 hl
  rw [show opK 21 e.n [a] = opP [a] [3] 3 from rfl]
  have hf := r_is [a] [3] (by simp) (by simp) (by decide) 3
  rw [ofP_eq] at hf
  generalize opP [a] [3] 3 = x at hf ⊢
  obtain ⟨z, hz, _⟩ := okI_tup x
  rw [hz] at hf
  simp only [LR, List.map] at hf ⊢
  refine ⟨_, ?_, OkT.ofI _⟩
  rw [hz]
  rw [call_167]
  simp -implicitDefEqProofs only [go_sem, simprocAttr, Tryz.f167, exC_eq, q, hf]
theorem r_op22 (e : Ex) (l : List Int) (q : e.op = 22) (hn : rightNS e.op e.n = true) (hl : argsOk 4 e.op (l.length : Int) = true) (hl2 : l.length ≤ 1000000) (hk : ∀ x ∈ l, 0 ≤ x) : ∃ r, R K (.call 167 [.agg (exC e), LR l] []) = some (r, []) ∧ OkT r (opK e.op e.n l) := by
  rw [q] at hl hn ⊢
  obtain ⟨a, rfl⟩ := len1 hl
  rw [show opK 22 e.n [a] = opP [a] [3] 2 from rfl]
  have hf := r_is [a] [3] (by simp) (by simp) (by decide) 2
  rw [ofP_eq] at hf
  generalize opP [a] [3] 2 = x at hf ⊢
  obtain ⟨z, hz, _⟩ := okI_tup x
  rw [hz] at hf
  simp only [LR, List.map] at hf ⊢
  refine ⟨_, ?_, OkT.ofI _⟩
  rw [hz]
  rw [call_167]
  simp -implicitDefEqProofs only [go_sem, simprocAttr, Tryz.f167, exC_eq, q, hf]
theorem r_op23 (e : Ex) (l : List Int) (q : e.op = 23) (hn : rightNS e.op e.n = true) (hl : argsOk 4 e.op (l.length : Int) = true) (hl2 : l.length ≤ 1000000) (hk : ∀ x ∈ l, 0 ≤ x) : ∃ r, R K (.call 167 [.agg (exC e), LR l] []) = some (r, []) ∧ OkT r (opK e.op e.n l) := by
  rw [q] at hl hn ⊢
  obtain ⟨a, b, c, rfl⟩ := len3 hl
  rw [show opK 23 e.n [a, b, c] = opP [a, b, c] [3, 2, 2] 3 from rfl]
  have hf := r_is [a, b, c] [3, 2, 2] (by simp) (by simp) (by decide) 3
  rw [ofP_eq] at hf
  generalize opP [a, b, c] [3, 2, 2] 3 = x at hf ⊢
  obtain ⟨z, hz, _⟩ := okI_tup x
  rw [hz] at hf
  simp only [LR, List.map] at hf ⊢
  refine ⟨_, ?_, OkT.ofI _⟩
  rw [hz]
  rw [call_167]
  simp -implicitDefEqProofs only [go_sem, simprocAttr, Tryz.f167, exC_eq, q, hf]
theorem r_op24 (e : Ex) (l : List Int) (q : e.op = 24) (hn : rightNS e.op e.n = true) (hl : argsOk 4 e.op (l.length : Int) = true) (hl2 : l.length ≤ 1000000) (hk : ∀ x ∈ l, 0 ≤ x) : ∃ r, R K (.call 167 [.agg (exC e), LR l] []) = some (r, []) ∧ OkT r (opK e.op e.n l) := by
  rw [q] at hl hn ⊢
  rw [show opK 24 e.n l = fitsS l 0 from rfl]
  have hf := r_Fits l hl2
  generalize fitsS l 0 = x at hf ⊢
  obtain ⟨z, hz, _⟩ := okI_tup x
  rw [hz] at hf
  refine ⟨_, ?_, OkT.ofI _⟩
  rw [hz]
  rw [call_167]
  simp -implicitDefEqProofs only [go_sem, simprocAttr, Tryz.f167, exC_eq, q, hf]
theorem r_op25 (e : Ex) (l : List Int) (q : e.op = 25) (hn : rightNS e.op e.n = true) (hl : argsOk 4 e.op (l.length : Int) = true) (hl2 : l.length ≤ 1000000) (hk : ∀ x ∈ l, 0 ≤ x) : ∃ r, R K (.call 167 [.agg (exC e), LR l] []) = some (r, []) ∧ OkT r (opK e.op e.n l) := by
  rw [q] at hl hn ⊢
  obtain ⟨a, rfl⟩ := len1 hl
  rw [show opK 25 e.n [a] = opP [a] [4] 4 from rfl]
  have hf := r_is [a] [4] (by simp) (by simp) (by decide) 4
  rw [ofP_eq] at hf
  generalize opP [a] [4] 4 = x at hf ⊢
  obtain ⟨z, hz, _⟩ := okI_tup x
  rw [hz] at hf
  simp only [LR, List.map] at hf ⊢
  refine ⟨_, ?_, OkT.ofI _⟩
  rw [hz]
  rw [call_167]
  simp -implicitDefEqProofs only [go_sem, simprocAttr, Tryz.f167, exC_eq, q, hf]
theorem r_op26 (e : Ex) (l : List Int) (q : e.op = 26) (hn : rightNS e.op e.n = true) (hl : argsOk 4 e.op (l.length : Int) = true) (hl2 : l.length ≤ 1000000) (hk : ∀ x ∈ l, 0 ≤ x) : ∃ r, R K (.call 167 [.agg (exC e), LR l] []) = some (r, []) ∧ OkT r (opK e.op e.n l) := by
  rw [q] at hl hn ⊢
  obtain ⟨a, rfl⟩ := len1 hl
  rw [show opK 26 e.n [a] = opP [a] [4] 2 from rfl]
  have hf := r_is [a] [4] (by simp) (by simp) (by decide) 2
  rw [ofP_eq] at hf
  generalize opP [a] [4] 2 = x at hf ⊢
  obtain ⟨z, hz, _⟩ := okI_tup x
  rw [hz] at hf
  simp only [LR, List.map] at hf ⊢
  refine ⟨_, ?_, OkT.ofI _⟩
  rw [hz]
  rw [call_167]
  simp -implicitDefEqProofs only [go_sem, simprocAttr, Tryz.f167, exC_eq, q, hf]
theorem r_op27 (e : Ex) (l : List Int) (q : e.op = 27) (hn : rightNS e.op e.n = true) (hl : argsOk 4 e.op (l.length : Int) = true) (hl2 : l.length ≤ 1000000) (hk : ∀ x ∈ l, 0 ≤ x) : ∃ r, R K (.call 167 [.agg (exC e), LR l] []) = some (r, []) ∧ OkT r (opK e.op e.n l) := by
  rw [q] at hl hn ⊢
  obtain ⟨a, rfl⟩ := len1 hl
  rw [show opK 27 e.n [a] = castK [a] e.n from rfl]
  have hw : within e.n 1 4 = true := hn
  have hf := r_CanCast a e.n
  have hz : ∀ b : Bool, OkT (.tup [I e.n, .bool b]) (if b = true then some e.n else none) := fun b => by
    cases b
    · exact ⟨e.n, rfl⟩
    · rfl
  refine ⟨.tup [I e.n, .bool (a == 0 || canS a e.n)], ?_, hz _⟩
  simp only [LR, List.map]
  by_cases h0 : a = 0
  · have b0 : (a == 0) = true := by simp [h0]
    rw [call_167]
    simp -implicitDefEqProofs only [go_sem, simprocAttr, Tryz.f167, exC_eq, q, at?, Int.toNat_zero, hf, b0]
  · have b0 : (a == 0) = false := by simpa using h0
    rw [call_167]
    simp -implicitDefEqProofs only [go_sem, simprocAttr, Tryz.f167, exC_eq, q, at?, Int.toNat_zero, hf, b0]
theorem r_operated (e : Ex) (l : List Int) (hop : within e.op 1 27 = true) (hn : rightNS e.op e.n = true) (hl : argsOk 4 e.op (l.length : Int) = true) (hl2 : l.length ≤ 1000000) (hk : ∀ x ∈ l, 0 ≤ x) : ∃ r, R K (.call 167 [.agg (exC e), LR l] []) = some (r, []) ∧ OkT r (opK e.op e.n l) := by
  have hb := (wit_iff _ _ _).1 hop
  have hc : e.op = 1 ∨ e.op = 2 ∨ e.op = 3 ∨ e.op = 4 ∨ e.op = 5 ∨ e.op = 6 ∨ e.op = 7 ∨ e.op = 8 ∨ e.op = 9 ∨ e.op = 10 ∨ e.op = 11 ∨ e.op = 12 ∨ e.op = 13 ∨ e.op = 14 ∨ e.op = 15 ∨ e.op = 16 ∨ e.op = 17 ∨ e.op = 18 ∨ e.op = 19 ∨ e.op = 20 ∨ e.op = 21 ∨ e.op = 22 ∨ e.op = 23 ∨ e.op = 24 ∨ e.op = 25 ∨ e.op = 26 ∨ e.op = 27 := by omega
  rcases hc with q | q | q | q | q | q | q | q | q | q | q | q | q | q | q | q | q | q | q | q | q | q | q | q | q | q | q
  · exact r_op1 e l q hn hl hl2 hk
  · exact r_op2 e l q hn hl hl2 hk
  · exact r_op3 e l q hn hl hl2 hk
  · exact r_op4 e l q hn hl hl2 hk
  · exact r_op5 e l q hn hl hl2 hk
  · exact r_op6 e l q hn hl hl2 hk
  · exact r_op7 e l q hn hl hl2 hk
  · exact r_op8 e l q hn hl hl2 hk
  · exact r_op9 e l q hn hl hl2 hk
  · exact r_op10 e l q hn hl hl2 hk
  · exact r_op11 e l q hn hl hl2 hk
  · exact r_op12 e l q hn hl hl2 hk
  · exact r_op13 e l q hn hl hl2 hk
  · exact r_op14 e l q hn hl hl2 hk
  · exact r_op15 e l q hn hl hl2 hk
  · exact r_op16 e l q hn hl hl2 hk
  · exact r_op17 e l q hn hl hl2 hk
  · exact r_op18 e l q hn hl hl2 hk
  · exact r_op19 e l q hn hl hl2 hk
  · exact r_op20 e l q hn hl hl2 hk
  · exact r_op21 e l q hn hl hl2 hk
  · exact r_op22 e l q hn hl hl2 hk
  · exact r_op23 e l q hn hl hl2 hk
  · exact r_op24 e l q hn hl hl2 hk
  · exact r_op25 e l q hn hl hl2 hk
  · exact r_op26 e l q hn hl hl2 hk
  · exact r_op27 e l q hn hl hl2 hk
def caseV : List Int → Option (List Int)
  | c :: v :: r => if c = 0 ∨ c = 1 then (caseV r).map (fun l => v :: l) else none
  | _ => some []
def Grown0 (k : Nat) (h0 : Heap) (vals : List Int) (X : AV) (h : Heap) : Prop := (X = .lit (vals.map fun x => [I x]) ∧ h = h0) ∨ (X = .own k vals.length ∧ h = h0 ++ [.rows 1 (vals.map fun x => [I x]) false])
theorem allLen_ints : ∀ l : List Int, allLen 1 (l.map fun x => [I x]) = true
  | [] => rfl
  | _ :: r => by simp only [List.map_cons, allLen, allLen_ints r]; rfl
theorem caseV_short {l : List Int} (h : l.length ≤ 1) : caseV l = some [] := by
  match l, h with
  | [], _ => rfl
  | [_], _ => rfl
theorem l_cases (l : List Int) (hl : l.length ≤ 50000) (ks : List It) (T : List Int → Res) (hks : ∀ (vals : List Int) (fr : Fr) (X : AV) (h : Heap), get fr 4 = X → Grown0 0 [] vals X h → vals.length ≤ 200000 → (∀ x ∈ vals, x ∈ l) → R K (.run 160 0 ks fr h) = T vals) :
   ∀ (m i : Nat) (j : Int) (vals : List Int) (fr : Fr) (X : AV) (h : Heap) (Bo : Code), Loop Tryz.f160 0 Bo → j = (i : Int) → l.length ≤ i + m → i ≤ l.length + 1 → vals.length ≤ i + 1 → (∀ x ∈ vals, x ∈ l) → get fr 0 = LR l → get fr 4 = X → get fr 5 = I j → Grown0 0 [] vals X h →
   RL K (.run 160 0 (.code Bo :: .lp Bo none 0 :: .blk 0 0 :: ks) fr h) = match caseV (l.drop i) with
     | some vs => T (vals ++ vs)
     | none => some (.tup [I 0, .bool false], [])
  | 0, i, j, vals, fr, X, h, Bo, hB, hj, hm, hi, hv, hin, g0, g4, g5, hX => by
    subst hj
    have w1 : wrapI .i64 ((i : Int) + 1) = ((i + 1 : Nat) : Int) := by rw [wrap_id (by omega) (by omega)]; omega
    have h1 : decide (((i + 1 : Nat) : Int) < (l.length : Int)) = false := decide_eq_false (by omega)
    rw [caseV_short (by rw [List.length_drop]; omega)]
    simp only [List.append_nil]
    unfold Loop at hB
    simp -implicitDefEqProofs only [go_sem, simprocAttr, Tryz.f160, loopOf] at hB
    subst hB
    rw [RL_eq]
    simp -implicitDefEqProofs only [go_sem, simprocAttr, g0, g5, w1, h1]
    refine hks vals _ X h ?_ hX (by omega) hin
    simp -implicitDefEqProofs only [go_sem, simprocAttr, g4]
  | m + 1, i, j, vals, fr, X, h, Bo, hB, hj, hm, hi, hv, hin, g0, g4, g5, hX => by
    subst hj
    have hB' := hB
    have w1 : wrapI .i64 ((i : Int) + 1) = ((i + 1 : Nat) : Int) := by rw [wrap_id (by omega) (by omega)]; omega
    by_cases hlt : i + 1 < l.length
    rotate_left
    · have h1 : decide (((i + 1 : Nat) : Int) < (l.length : Int)) = false := decide_eq_false (by omega)
      rw [caseV_short (by rw [List.length_drop]; omega)]
      simp only [List.append_nil]
      unfold Loop at hB
      simp -implicitDefEqProofs only [go_sem, simprocAttr, Tryz.f160, loopOf] at hB
      subst hB
      rw [RL_eq]
      simp -implicitDefEqProofs only [go_sem, simprocAttr, g0, g5, w1, h1]
      refine hks vals _ X h ?_ hX (by omega) hin
      simp -implicitDefEqProofs only [go_sem, simprocAttr, g4]
    have h1 : decide (((i + 1 : Nat) : Int) < (l.length : Int)) = true := decide_eq_true (by omega)
    obtain ⟨c, hc⟩ := some_at (l := l) (i := i) (by omega)
    obtain ⟨v, hv'⟩ := some_at (l := l) (i := i + 1) (by omega)
    have hgv := int_get hv'
    have hcut : List.take (l.length - i) (List.drop i (l.map fun x => [I x])) = (l.drop i).map fun x => [I x] := by
      rw [List.take_of_length_le (by simp), List.map_drop]
    have c1 : ((0 : Int) ≤ (i : Int)) = True := eq_true (by omega)
    have c2 : ((i : Int) ≤ (l.length : Int)) = True := eq_true (by omega)
    have ha := allLen_ints l
    have hf := c_fits (l.drop i) [1] (by simp; omega) (by simp; omega)
    simp only [LR, List.map_cons, List.map_nil] at hf
    have w2 : wrapI .i64 ((i : Int) + 2) = ((i + 2 : Nat) : Int) := by rw [wrap_id (by omega) (by omega)]; omega
    have hr := room_small (vals.length + 1) (by omega)
    have ed : l.drop i = c :: v :: l.drop (i + 2) := by rw [drop_get hc, drop_get hv']
    have efp : fitP (l.drop i) [1] = (c == 0 || c == 1) := by rw [ed]; simp only [fitP, Bool.and_true]
    rw [efp] at hf
    rw [ed]
    simp only [caseV]
    by_cases hcc : c = 0 ∨ c = 1
    · have bc : (c == 0 || c == 1) = true := by simpa using hcc
      rw [bc] at hf
      rw [if_pos hcc]
      have ih := fun fr X h g0 g4 g5 hX => l_cases l hl ks T hks m (i + 2) _ (vals ++ [v]) fr X h Bo hB' rfl (by omega) (by omega) (by simp; omega) (by
        intro x hx
        rcases List.mem_append.1 hx with hx | hx
        · exact hin x hx
        · simp only [List.mem_cons, List.not_mem_nil, or_false] at hx; subst hx; exact List.mem_of_getElem? hv') g0 g4 g5 hX
      have em : (match (caseV (l.drop (i + 2))).map (fun l => v :: l) with
        | some vs => T (vals ++ vs)
        | none => some (.tup [I 0, .bool false], [])) = match caseV (l.drop (i + 2)) with
        | some vs => T (vals ++ [v] ++ vs)
        | none => some (.tup [I 0, .bool false], []) := by
        cases caseV (l.drop (i + 2)) with
        | none => rfl
        | some vs => simp
      rw [em]
      rcases hX with ⟨rfl, rfl⟩ | ⟨rfl, rfl⟩
      · unfold Loop at hB
        simp -implicitDefEqProofs only [go_sem, simprocAttr, Tryz.f160, loopOf] at hB
        subst hB
        rw [RL_eq]
        simp -implicitDefEqProofs only [go_sem, simprocAttr, g0, g4, g5, w1, h1, c1, c2, hcut, ha, Int.toNat_natCast, hf, hgv, w2, hr, allLen_ints]
        rw [R_lpn, ← RL_eq]
        refine ih _ (.own 0 (vals ++ [v]).length) _ ?_ ?_ ?_ (.inr ⟨rfl, ?_⟩)
        · simp -implicitDefEqProofs only [go_sem, simprocAttr, g0]
        · simp -implicitDefEqProofs only [go_sem, simprocAttr]
        · simp -implicitDefEqProofs only [go_sem, simprocAttr]
        · rw [List.nil_append, ← ints_snoc]
      · unfold Loop at hB
        simp -implicitDefEqProofs only [go_sem, simprocAttr, Tryz.f160, loopOf] at hB
        subst hB
        rw [RL_eq]
        simp -implicitDefEqProofs only [go_sem, simprocAttr, g0, g4, g5, w1, h1, c1, c2, hcut, ha, Int.toNat_natCast, hf, hgv, w2, hr, allLen_ints]
        rw [R_lpn, ← RL_eq]
        refine ih _ (.own 0 (vals ++ [v]).length) _ ?_ ?_ ?_ (.inr ⟨rfl, ?_⟩)
        · simp -implicitDefEqProofs only [go_sem, simprocAttr, g0]
        · simp -implicitDefEqProofs only [go_sem, simprocAttr]
        · simp -implicitDefEqProofs only [go_sem, simprocAttr]
        · rw [List.nil_append, ← ints_snoc]
    · have bc : (c == 0 || c == 1) = false := by simp only [Bool.or_eq_false_iff, beq_eq_false_iff_ne]; omega
      rw [bc] at hf
      rw [if_neg hcc]
      rcases hX with ⟨rfl, rfl⟩ | ⟨rfl, rfl⟩
      · unfold Loop at hB
        simp -implicitDefEqProofs only [go_sem, simprocAttr, Tryz.f160, loopOf] at hB
        subst hB
        rw [RL_eq]
        simp -implicitDefEqProofs only [go_sem, simprocAttr, g0, g4, g5, w1, h1, c1, c2, hcut, ha, Int.toNat_natCast, hf]
      · unfold Loop at hB
        simp -implicitDefEqProofs only [go_sem, simprocAttr, Tryz.f160, loopOf] at hB
        subst hB
        rw [RL_eq]
        simp -implicitDefEqProofs only [go_sem, simprocAttr, g0, g4, g5, w1, h1, c1, c2, hcut, ha, Int.toNat_natCast, hf]
def caseS (l : List Int) : Option Int := match caseV l with
  | some vs => fitsS ((l[l.length - 1]?).getD 0 :: vs) 0
  | none => none
theorem caseV_mem : ∀ (l vs : List Int), caseV l = some vs → ∀ x ∈ vs, x ∈ l
  | c :: v :: r, vs, h, x, hx => by
    simp only [caseV] at h
    split at h
    · cases hr : caseV r with
      | none => rw [hr] at h; simp at h
      | some ws =>
        rw [hr] at h
        simp only [Option.map_some, Option.some.injEq] at h
        subst h
        rcases List.mem_cons.1 hx with rfl | hx
        · simp
        · have := caseV_mem r ws hr x hx; simp [this]
    · simp at h
  | [], vs, h, x, hx => by simp only [caseV, Option.some.injEq] at h; subst h; simp at hx
  | [_], vs, h, x, hx => by simp only [caseV, Option.some.injEq] at h; subst h; simp at hx
theorem c_cases (l : List Int) (hl0 : 1 ≤ l.length) (hl : l.length ≤ 50000) (hk : ∀ x ∈ l, 0 ≤ x) : R K (.call 160 [LR l] []) = some (okI (caseS l), []) := by
  obtain ⟨x, hx⟩ := some_at (l := l) (i := l.length - 1) (by omega)
  have hg := int_get hx
  have w : wrapI .i64 ((l.length : Int) - 1) = ((l.length - 1 : Nat) : Int) := by rw [wrap_id (by omega) (by omega)]; omega
  have e1 : some (okI (caseS l), ([] : Heap)) = match caseV (l.drop 0) with
     | some vs => (fun vals => some (okI (fitsS vals 0), [])) ([x] ++ vs)
     | none => some (.tup [I 0, .bool false], []) := by
    unfold caseS
    rw [hx, List.drop_zero]
    cases caseV l <;> rfl
  rw [call_160]
  simp -implicitDefEqProofs only [go_sem, simprocAttr, Tryz.f160, w, hg, block_plain]
  rw [R_loop, ← RL_eq]
  refine (l_cases l hl _ (fun vals => some (okI (fitsS vals 0), [])) ?_ l.length 0 0 [x] _ (.lit [[I x]]) [] _ rfl rfl (by omega) (by omega) (by simp) (by simpa using List.mem_of_getElem? hx) ?_ ?_ ?_ (.inl ⟨rfl, rfl⟩)).trans e1.symm
  · intro vals fr X h hX hG hvl hin
    have hc := c_common vals (by omega) (fun y hy => hk y (hin y hy))
    obtain ⟨z, hz, _⟩ := okI_tup (fitsS vals 0)
    rw [hz] at hc ⊢
    rcases hG with ⟨rfl, rfl⟩ | ⟨rfl, rfl⟩
    · simp -implicitDefEqProofs only [go_sem, simprocAttr, hX, hc]
    · simp -implicitDefEqProofs only [go_sem, simprocAttr, hX, hc, List.length_map]
  · simp -implicitDefEqProofs only [go_sem, simprocAttr]
  · simp -implicitDefEqProofs only [go_sem, simprocAttr]
  · simp -implicitDefEqProofs only [go_sem, simprocAttr]
theorem l_caseKind (H0 : List AV) (hH : locsL H0 = []) (l : List Int) (hl : l.length ≤ 50000) (ks : List It) (T : List Int → Res) (hks : ∀ (vals : List Int) (fr : Fr) (X : AV) (h : Heap), get fr 8 = X → Grown0 1 [.cells H0] vals X h → vals.length ≤ 200000 → (∀ x ∈ vals, x ∈ l) → R K (.run 168 0 ks fr h) = T vals) :
   ∀ (m i : Nat) (j : Int) (vals : List Int) (fr : Fr) (X : AV) (h : Heap) (Bo : Code), Loop Tryz.f168 0 Bo → j = (i : Int) → l.length ≤ i + m → i ≤ l.length + 1 → vals.length ≤ i + 1 → (∀ x ∈ vals, x ∈ l) → get fr 1 = LR l → get fr 8 = X → get fr 9 = I j → Grown0 1 [.cells H0] vals X h →
   RL K (.run 168 0 (.code Bo :: .lp Bo none 0 :: .blk 0 1 :: ks) fr h) = match caseV (l.drop i) with
     | some vs => T (vals ++ vs)
     | none => some (.tup [I 0, .bool false], [])
  | 0, i, j, vals, fr, X, h, Bo, hB, hj, hm, hi, hv, hin, g0, g4, g5, hX => by
    subst hj
    have w1 : wrapI .i64 ((i : Int) + 1) = ((i + 1 : Nat) : Int) := by rw [wrap_id (by omega) (by omega)]; omega
    have h1 : decide (((i + 1 : Nat) : Int) < (l.length : Int)) = false := decide_eq_false (by omega)
    rw [caseV_short (by rw [List.length_drop]; omega)]
    simp only [List.append_nil]
    unfold Loop at hB
    simp -implicitDefEqProofs only [go_sem, simprocAttr, Tryz.f168, loopOf] at hB
    subst hB
    rw [RL_eq]
    simp -implicitDefEqProofs only [go_sem, simprocAttr, g0, g5, w1, h1]
    refine hks vals _ X h ?_ hX (by omega) hin
    simp -implicitDefEqProofs only [go_sem, simprocAttr, g4]
  | m + 1, i, j, vals, fr, X, h, Bo, hB, hj, hm, hi, hv, hin, g0, g4, g5, hX => by
    subst hj
    have hB' := hB
    have w1 : wrapI .i64 ((i : Int) + 1) = ((i + 1 : Nat) : Int) := by rw [wrap_id (by omega) (by omega)]; omega
    by_cases hlt : i + 1 < l.length
    rotate_left
    · have h1 : decide (((i + 1 : Nat) : Int) < (l.length : Int)) = false := decide_eq_false (by omega)
      rw [caseV_short (by rw [List.length_drop]; omega)]
      simp only [List.append_nil]
      unfold Loop at hB
      simp -implicitDefEqProofs only [go_sem, simprocAttr, Tryz.f168, loopOf] at hB
      subst hB
      rw [RL_eq]
      simp -implicitDefEqProofs only [go_sem, simprocAttr, g0, g5, w1, h1]
      refine hks vals _ X h ?_ hX (by omega) hin
      simp -implicitDefEqProofs only [go_sem, simprocAttr, g4]
    have h1 : decide (((i + 1 : Nat) : Int) < (l.length : Int)) = true := decide_eq_true (by omega)
    obtain ⟨c, hc⟩ := some_at (l := l) (i := i) (by omega)
    obtain ⟨v, hv'⟩ := some_at (l := l) (i := i + 1) (by omega)
    have hgv := int_get hv'
    have c1 : ((0 : Int) ≤ (i : Int)) = True := eq_true (by omega)
    have c2 : ((i : Int) ≤ (l.length : Int)) = True := eq_true (by omega)
    have hgc := int_get hc
    obtain ⟨z, hf⟩ := r_fits2 c 1 (by decide)
    have w2 : wrapI .i64 ((i : Int) + 2) = ((i + 2 : Nat) : Int) := by rw [wrap_id (by omega) (by omega)]; omega
    have hr := room_small (vals.length + 1) (by omega)
    have ed : l.drop i = c :: v :: l.drop (i + 2) := by rw [drop_get hc, drop_get hv']
    rw [ed]
    simp only [caseV]
    by_cases hcc : c = 0 ∨ c = 1
    · have bc : (c == 0 || c == 1) = true := by simpa using hcc
      rw [bc] at hf
      rw [if_pos hcc]
      have ih := fun fr X h g0 g4 g5 hX => l_caseKind H0 hH l hl ks T hks m (i + 2) _ (vals ++ [v]) fr X h Bo hB' rfl (by omega) (by omega) (by simp; omega) (by
        intro x hx
        rcases List.mem_append.1 hx with hx | hx
        · exact hin x hx
        · simp only [List.mem_cons, List.not_mem_nil, or_false] at hx; subst hx; exact List.mem_of_getElem? hv') g0 g4 g5 hX
      have em : (match (caseV (l.drop (i + 2))).map (fun l => v :: l) with
        | some vs => T (vals ++ vs)
        | none => some (.tup [I 0, .bool false], [])) = match caseV (l.drop (i + 2)) with
        | some vs => T (vals ++ [v] ++ vs)
        | none => some (.tup [I 0, .bool false], []) := by
        cases caseV (l.drop (i + 2)) with
        | none => rfl
        | some vs => simp
      rw [em]
      rcases hX with ⟨rfl, rfl⟩ | ⟨rfl, rfl⟩
      · unfold Loop at hB
        simp -implicitDefEqProofs only [go_sem, simprocAttr, Tryz.f168, loopOf] at hB
        subst hB
        rw [RL_eq]
        simp -implicitDefEqProofs only [go_sem, simprocAttr, g0, g4, g5, w1, h1, hgc, hH, hf, hgv, w2, hr, allLen_ints]
        rw [R_lpn, ← RL_eq]
        refine ih _ (.own 1 (vals ++ [v]).length) _ ?_ ?_ ?_ (.inr ⟨rfl, ?_⟩)
        · simp -implicitDefEqProofs only [go_sem, simprocAttr, g0]
        · simp -implicitDefEqProofs only [go_sem, simprocAttr]
        · simp -implicitDefEqProofs only [go_sem, simprocAttr]
        · rw [← ints_snoc]; rfl
      · unfold Loop at hB
        simp -implicitDefEqProofs only [go_sem, simprocAttr, Tryz.f168, loopOf] at hB
        subst hB
        rw [RL_eq]
        simp -implicitDefEqProofs only [go_sem, simprocAttr, g0, g4, g5, w1, h1, hgc, hH, hf, hgv, w2, hr, allLen_ints]
        rw [R_lpn, ← RL_eq]
        refine ih _ (.own 1 (vals ++ [v]).length) _ ?_ ?_ ?_ (.inr ⟨rfl, ?_⟩)
        · simp -implicitDefEqProofs only [go_sem, simprocAttr, g0]
        · simp -implicitDefEqProofs only [go_sem, simprocAttr]
        · simp -implicitDefEqProofs only [go_sem, simprocAttr]
        · rw [← ints_snoc]; rfl
    · have bc : (c == 0 || c == 1) = false := by simp only [Bool.or_eq_false_iff, beq_eq_false_iff_ne]; omega
      rw [bc] at hf
      rw [if_neg hcc]
      rcases hX with ⟨rfl, rfl⟩ | ⟨rfl, rfl⟩
      · unfold Loop at hB
        simp -implicitDefEqProofs only [go_sem, simprocAttr, Tryz.f168, loopOf] at hB
        subst hB
        rw [RL_eq]
        simp -implicitDefEqProofs only [go_sem, simprocAttr, g0, g4, g5, w1, h1, hgc, hH, hf]
      · unfold Loop at hB
        simp -implicitDefEqProofs only [go_sem, simprocAttr, Tryz.f168, loopOf] at hB
        subst hB
        rw [RL_eq]
        simp -implicitDefEqProofs only [go_sem, simprocAttr, g0, g4, g5, w1, h1, hgc, hH, hf]
theorem r_caseKind5 (e : Ex) (q : e.k = 5) (l : List Int) (hl0 : 1 ≤ l.length) (hl : l.length ≤ 50000) : R K (.call 168 [.agg (exC e), LR l] []) = some (okI (caseS l), []) := by
  obtain ⟨x, hx⟩ := some_at (l := l) (i := l.length - 1) (by omega)
  have hg := int_get hx
  have w : wrapI .i64 ((l.length : Int) - 1) = ((l.length - 1 : Nat) : Int) := by rw [wrap_id (by omega) (by omega)]; omega
  have e1 : some (okI (caseS l), ([] : Heap)) = match caseV (l.drop 0) with
     | some vs => (fun vals => some (okI (fitsS vals 0), [])) ([x] ++ vs)
     | none => some (.tup [I 0, .bool false], []) := by
    unfold caseS
    rw [hx, List.drop_zero]
    cases caseV l <;> rfl
  have hH := exC_locs e
  have hd : (e.k == 6) = false := by rw [q]; rfl
  have ee := exC_eq e
  rw [call_168]
  simp -implicitDefEqProofs only [go_sem, simprocAttr, Tryz.f168, exC_eq, hd, w, hg, block_plain]
  rw [R_loop, ← RL_eq, ← ee]
  refine (l_caseKind (exC e) (exC_locs e) l hl _ (fun vals => some (okI (fitsS vals 0), [])) ?_ l.length 0 0 [x] _ (.lit [[I x]]) [.cells (exC e)] _ rfl rfl (by omega) (by omega) (by simp) (by simpa using List.mem_of_getElem? hx) ?_ ?_ ?_ (.inl ⟨rfl, rfl⟩)).trans e1.symm
  · intro vals fr X h hX hG hvl hin
    have hc := r_Fits vals (by omega)
    obtain ⟨z, hz, _⟩ := okI_tup (fitsS vals 0)
    rw [hz] at hc ⊢
    rcases hG with ⟨rfl, rfl⟩ | ⟨rfl, rfl⟩
    · simp -implicitDefEqProofs only [go_sem, simprocAttr, hX, hc]
    · simp -implicitDefEqProofs only [go_sem, simprocAttr, hX, hc, List.length_map]
  · simp -implicitDefEqProofs only [go_sem, simprocAttr]
  · simp -implicitDefEqProofs only [go_sem, simprocAttr]
  · simp -implicitDefEqProofs only [go_sem, simprocAttr]
theorem r_caseKind6 (e : Ex) (q : e.k = 6) (l : List Int) (hl : l.length ≤ 50000) : ∃ r, R K (.call 168 [.agg (exC e), LR l] []) = some (r, []) ∧ OkT r (anyK l) := by
  have hf := r_Fits l (by omega)
  have hd : (e.k == 6) = true := by rw [q]; rfl
  unfold anyK
  generalize fitsS l 0 = x at hf ⊢
  obtain ⟨z, hz, _⟩ := okI_tup x
  rw [hz] at hf
  refine ⟨.tup [I 1, .bool x.isSome], ?_, ?_⟩
  · rw [call_168]
    simp -implicitDefEqProofs only [go_sem, simprocAttr, Tryz.f168, exC_eq, hd, hf]
  · cases x with
    | some y => rfl
    | none => exact ⟨1, rfl⟩
def opsK (e : Ex) (ks : List Int) : Option Int := if e.k = 4 then opK e.op e.n ks else if e.k = 5 then caseS ks else anyK ks
def nodeS (cols : List Cel) (ps : List Int) (e : Ex) (ks : List Int) : Int × Int :=
  if exF e ≠ 0 then (0, exF e) else if (leafK cols ps e).2 ≠ 0 then (0, (leafK cols ps e).2) else if e.k ≤ 3 then ((leafK cols ps e).1, 0)
  else match opsK e ks with
    | some k => (k, 0)
    | none => (0, 8)
mutual
def kindE (cols : List Cel) (ps : List Int) : Ex → Int × Int
  | .mk k op n v src nm d args => if (kindL cols ps args).2 = 0 then nodeS cols ps (.mk k op n v src nm d args) (kindL cols ps args).1 else (0, (kindL cols ps args).2)
def kindL (cols : List Cel) (ps : List Int) : List Ex → List Int × Int
  | [] => ([], 0)
  | e :: r => if (kindE cols ps e).2 = 0 then (if (kindL cols ps r).2 = 0 then ((kindE cols ps e).1 :: (kindL cols ps r).1, 0) else ([], (kindL cols ps r).2)) else ([], (kindE cols ps e).2)
end
theorem kindE_eq (cols : List Cel) (ps : List Int) (e : Ex) : kindE cols ps e = if (kindL cols ps e.args).2 = 0 then nodeS cols ps e (kindL cols ps e.args).1 else (0, (kindL cols ps e.args).2) := by
  cases e
  rw [kindE]
  rfl
theorem kindL_len (cols : List Cel) (ps : List Int) : ∀ l : List Ex, (kindL cols ps l).2 = 0 → (kindL cols ps l).1.length = l.length
  | [], _ => by simp [kindL]
  | e :: r, h => by
    simp only [kindL] at h ⊢
    by_cases h1 : (kindE cols ps e).2 = 0
    · rw [if_pos h1] at h ⊢
      by_cases h2 : (kindL cols ps r).2 = 0
      · rw [if_pos h2]
        simp [kindL_len cols ps r h2]
      · rw [if_neg h2] at h
        exact absurd h h2
    · rw [if_neg h1] at h
      exact absurd h h1
theorem fitsS_nn : ∀ (l : List Int) (o k : Int), (∀ x ∈ l, 0 ≤ x) → 0 ≤ o → fitsS l o = some k → 0 ≤ k
  | [], o, k, _, ho, h => by simp only [fitsS, Option.some.injEq] at h; omega
  | x :: r, o, k, hl, ho, h => by
    have hr : ∀ y ∈ r, 0 ≤ y := fun y hy => hl y (List.mem_cons_of_mem _ hy)
    simp only [fitsS] at h
    split at h
    · exact fitsS_nn r o k hr ho h
    · split at h
      · exact fitsS_nn r x k hr (hl x (by simp)) h
      · simp at h
theorem opP_nn {l ws : List Int} {k x : Int} (h : opP l ws k = some x) (hk : 0 ≤ k) : 0 ≤ x := by
  unfold opP at h
  split at h
  · simp only [Option.some.injEq] at h; omega
  · simp at h
theorem sumS_nn {op a b k : Int} (ha : 0 ≤ a) (h : sumS op a b = some k) : 0 ≤ k := by
  unfold sumS at h
  split at h
  · split at h <;> (simp only [Option.some.injEq] at h; omega)
  · split at h
    · simp at h
    · split at h <;> (simp only [Option.some.injEq] at h; omega)
theorem anyK_nn {l : List Int} {k : Int} (h : anyK l = some k) : 0 ≤ k := by
  unfold anyK at h
  split at h
  · simp only [Option.some.injEq] at h; omega
  · simp at h
theorem ite_nn {c : Prop} [Decidable c] {a b : Option Int} {k : Int} (h : (if c then a else b) = some k) (ha : c → a = some k → 0 ≤ k) (hb : ¬ c → b = some k → 0 ≤ k) : 0 ≤ k := by
  by_cases hc : c
  · rw [if_pos hc] at h; exact ha hc h
  · rw [if_neg hc] at h; exact hb hc h
theorem opK_nn {op n k : Int} {l : List Int} (hn : rightNS op n = true) (hl : ∀ x ∈ l, 0 ≤ x) (h : opK op n l = some k) : 0 ≤ k := by
  unfold opK at h
  refine ite_nn h (fun _ h => opP_nn h (by omega)) (fun _ h => ?_)
  refine ite_nn h (fun _ h => opP_nn h (by omega)) (fun _ h => ?_)
  refine ite_nn h (fun _ h => by simp only [Option.some.injEq] at h; omega) (fun _ h => ?_)
  refine ite_nn h (fun _ h => ?_) (fun _ h => ?_)
  · unfold sumL at h
    split at h
    · exact sumS_nn (hl _ (by simp)) h
    · simp at h
  refine ite_nn h (fun _ h => opP_nn h (by omega)) (fun _ h => ?_)
  refine ite_nn h (fun _ h => opP_nn h (by omega)) (fun _ h => ?_)
  refine ite_nn h (fun _ h => opP_nn h (by omega)) (fun _ h => ?_)
  refine ite_nn h (fun _ h => opP_nn h (by omega)) (fun _ h => ?_)
  refine ite_nn h (fun _ h => opP_nn h (by omega)) (fun _ h => ?_)
  refine ite_nn h (fun _ h => opP_nn h (by omega)) (fun _ h => ?_)
  refine ite_nn h (fun _ h => opP_nn h (by omega)) (fun _ h => ?_)
  refine ite_nn h (fun _ h => fitsS_nn l 0 k hl (by omega) h) (fun _ h => ?_)
  refine ite_nn h (fun _ h => opP_nn h (by omega)) (fun _ h => ?_)
  refine ite_nn h (fun _ h => opP_nn h (by omega)) (fun _ h => ?_)
  refine ite_nn h (fun h27 h => ?_) (fun _ h => anyK_nn h)
  have hw : within n 1 4 = true := by
    unfold rightNS at hn
    rwa [if_neg (by omega), if_pos h27] at hn
  have hb := (wit_iff _ _ _).1 hw
  unfold castK at h
  split at h
  · split at h
    · simp only [Option.some.injEq] at h; omega
    · simp at h
  · simp at h
theorem caseS_nn {l : List Int} {k : Int} (hl : ∀ x ∈ l, 0 ≤ x) (h : caseS l = some k) : 0 ≤ k := by
  unfold caseS at h
  cases hv : caseV l with
  | none => rw [hv] at h; simp at h
  | some vs =>
    rw [hv] at h
    refine fitsS_nn _ 0 k (fun x hx => ?_) (by omega) h
    rcases List.mem_cons.1 hx with rfl | hx
    · cases hq : l[l.length - 1]? with
      | none => simp
      | some y => exact hl y (List.mem_of_getElem? hq)
    · exact hl x (caseV_mem l vs hv x hx)
theorem fault_k {v : Val} (h : faultS v = 0) : 0 ≤ v.k := by
  have := (fault_right v).1 h
  have hp := plain_of_right this
  have := plain_kinds v
  rw [hp] at this
  omega
theorem exF_args {e : Ex} (h : exF e = 0) : within e.k 1 6 = true ∧ (e.k = 4 → within e.op 1 27 = true) ∧ argsOk e.k e.op (e.args.length : Int) = true := by
  unfold exF at h
  split at h
  · simp at h
  · rename_i h1
    split at h
    · simp at h
    · rename_i h2
      simp only [not_or, not_and, Bool.not_eq_false] at h1
      refine ⟨h1.1, fun h4 => h1.2 h4, ?_⟩
      simp only [partBad, Bool.not_eq_true, Bool.or_eq_false_iff, Bool.not_eq_false'] at h2
      exact h2.2.2.2.2.2
theorem leafK_nn (cols : List Cel) (ps : List Int) (e : Ex) (hc : ∀ c ∈ cols, CelOk c) (hp : ∀ x ∈ ps, 0 ≤ x) : (leafK cols ps e).2 = 0 → 0 ≤ (leafK cols ps e).1 := by
  intro h
  unfold leafK at h ⊢
  split
  · rename_i h1
    rw [if_pos h1] at h
    split
    · rename_i h2; exact fault_k h2
    · simp
  · split
    · split
      · cases hq : ps[e.n.toNat]? with
        | none => simp
        | some y => exact hp y (List.mem_of_getElem? hq)
      · simp
    · split
      · split
        · cases hq : cols[(findC e.src e.nm cols 0).toNat]? with
          | none => simp
          | some c => exact (hc c (List.mem_of_getElem? hq)).2.2
        · simp
      · split
        · split <;> simp
        · simp
theorem rightN_of_leaf {cols : List Cel} {ps : List Int} {e : Ex} (q : e.k = 4) (h : (leafK cols ps e).2 = 0) : rightNS e.op e.n = true := by
  unfold leafK at h
  rw [if_neg (by omega), if_neg (by omega), if_neg (by omega), if_pos q] at h
  split at h
  · assumption
  · simp at h
theorem node_nn (cols : List Cel) (ps : List Int) (hc : ∀ c ∈ cols, CelOk c) (hp : ∀ x ∈ ps, 0 ≤ x) (e : Ex) (ks : List Int) (hks : ∀ x ∈ ks, 0 ≤ x) (h : (nodeS cols ps e ks).2 = 0) : 0 ≤ (nodeS cols ps e ks).1 := by
  have hl := leafK_nn cols ps e hc hp
  unfold nodeS at h ⊢
  split
  · simp
  · rename_i h1
    rw [if_neg h1] at h
    split
    · simp
    · rename_i h2
      have h2 : (leafK cols ps e).2 = 0 := by simpa using h2
      split
      · exact hl h2
      · cases ho : opsK e ks with
        | none => simp
        | some k =>
          simp only
          unfold opsK at ho
          split at ho
          · rename_i q; exact opK_nn (rightN_of_leaf q h2) hks ho
          · split at ho
            · exact caseS_nn hks ho
            · exact anyK_nn ho
theorem kind_nn (cols : List Cel) (ps : List Int) (hc : ∀ c ∈ cols, CelOk c) (hp : ∀ x ∈ ps, 0 ≤ x) : ∀ e : Ex, (kindE cols ps e).2 = 0 → 0 ≤ (kindE cols ps e).1 := by
  refine Ex.rec (motive_1 := fun e => (kindE cols ps e).2 = 0 → 0 ≤ (kindE cols ps e).1) (motive_2 := fun l => (kindL cols ps l).2 = 0 → ∀ x ∈ (kindL cols ps l).1, 0 ≤ x) ?_ ?_ ?_
  · intro k op n v src nm d args ih h
    simp only [kindE] at h ⊢
    split
    · rename_i h1
      rw [if_pos h1] at h
      exact node_nn cols ps hc hp _ _ (ih h1) h
    · simp
  · intro _ x hx; simp [kindL] at hx
  · intro e r h1 h2 h x hx
    simp only [kindL] at h hx
    by_cases c1 : (kindE cols ps e).2 = 0
    · rw [if_pos c1] at h hx
      by_cases c2 : (kindL cols ps r).2 = 0
      · rw [if_pos c2] at hx
        rcases List.mem_cons.1 hx with rfl | hx
        · exact h1 c1
        · exact h2 c2 x hx
      · rw [if_neg c2] at hx; simp at hx
    · rw [if_neg c1] at hx; simp at hx
theorem kindL_nn (cols : List Cel) (ps : List Int) (hc : ∀ c ∈ cols, CelOk c) (hp : ∀ x ∈ ps, 0 ≤ x) : ∀ l : List Ex, (kindL cols ps l).2 = 0 → ∀ x ∈ (kindL cols ps l).1, 0 ≤ x
  | [], _, x, hx => by simp [kindL] at hx
  | e :: r, h, x, hx => by
    simp only [kindL] at h hx
    by_cases c1 : (kindE cols ps e).2 = 0
    · rw [if_pos c1] at h hx
      by_cases c2 : (kindL cols ps r).2 = 0
      · rw [if_pos c2] at hx
        rcases List.mem_cons.1 hx with rfl | hx
        · exact kind_nn cols ps hc hp e c1
        · exact kindL_nn cols ps hc hp r c2 x hx
      · rw [if_neg c2] at hx; simp at hx
    · rw [if_neg c1] at hx; simp at hx
theorem drop_ex' {l : List Ex} {i : Nat} {x : Ex} (h : l[i]? = some x) : l.drop i = x :: l.drop (i + 1) := drop_get h
theorem kindL_cons (cols : List Cel) (ps : List Int) (e : Ex) (r : List Ex) : kindL cols ps (e :: r) = if (kindE cols ps e).2 = 0 then (if (kindL cols ps r).2 = 0 then ((kindE cols ps e).1 :: (kindL cols ps r).1, 0) else ([], (kindL cols ps r).2)) else ([], (kindE cols ps e).2) := by rw [kindL]
theorem l_scalar (cols : List Cel) (ps : List Int) (args : List Ex) (hlen : args.length ≤ 40000) (ih : ∀ a ∈ args, R K (.call 108 [.agg (exC a), colsC cols, LR ps, .bool true] []) = some (.tup [I (kindE cols ps a).1, I (kindE cols ps a).2], [])) (H0 : List AV) (hH : locsL H0 = []) (ks : List It) : ∀ (m j : Nat) (i : Int) (acc : List Int) (Bo : Code), Loop Tryz.f108 0 Bo → i = (j : Int) → args.length = j + m → acc.length = j →
   RL K (.run 108 0 (.code Bo :: .lp Bo (some ([1, 2, 3, 4, 10, 20, 21, 22], [])) 2 :: .blk 0 2 :: ks) [(1, colsC cols), (2, LR ps), (3, .bool true), (4, .ptr 0 0), (10, .own 1 acc.length), (20, .rows (exR args)), (21, I (args.length : Int)), (22, I i)] [.cells H0, .rows 1 (acc.map fun x => [I x]) false]) =
   if (kindL cols ps (args.drop j)).2 = 0 then R K (.run 108 0 ks [(1, colsC cols), (2, LR ps), (3, .bool true), (4, .ptr 0 0), (10, .own 1 (acc ++ (kindL cols ps (args.drop j)).1).length)] [.cells H0, .rows 1 ((acc ++ (kindL cols ps (args.drop j)).1).map fun x => [I x]) false])
   else some (.tup [I 0, I (kindL cols ps (args.drop j)).2], [])
  | 0, j, i, acc, Bo, hB, hi, hj, ha => by
    subst hi
    have h1 : decide ((j : Int) < (args.length : Int)) = false := decide_eq_false (by omega)
    rw [List.drop_of_length_le (by omega)]
    simp only [kindL, List.append_nil]
    rw [if_pos trivial]
    unfold Loop at hB
    simp -implicitDefEqProofs only [go_sem, simprocAttr, Tryz.f108, loopOf] at hB
    subst hB
    rw [RL_eq]
    simp -implicitDefEqProofs only [go_sem, simprocAttr, h1, hH]
  | m + 1, j, i, acc, Bo, hB, hi, hj, ha => by
    subst hi
    have hB' := hB
    have h1 : decide ((j : Int) < (args.length : Int)) = true := decide_eq_true (by omega)
    have h7 := next_id (i := j) (n := args.length) (by omega) (by omega)
    obtain ⟨x, hx⟩ := some_at (l := args) (i := j) (by omega)
    have hg := ex_get hx
    have r := ih x (List.mem_of_getElem? hx)
    have hr := room_small (acc.length + 1) (by omega)
    rw [drop_ex' hx, kindL_cons]
    generalize hk : kindE cols ps x = kx at r ⊢
    obtain ⟨k, f⟩ := kx
    simp only at r ⊢
    by_cases hf : f = 0
    · subst hf
      rw [if_pos rfl]
      have ih2 := l_scalar cols ps args hlen ih H0 hH ks m (j + 1) _ (acc ++ [k]) Bo hB' rfl (by omega) (by simp; omega)
      generalize kindL cols ps (args.drop (j + 1)) = rest at ih2 ⊢
      obtain ⟨kr, fr⟩ := rest
      simp only at ih2 ⊢
      by_cases hfr : fr = 0
      · subst hfr
        rw [if_pos rfl, if_pos rfl]
        rw [if_pos rfl] at ih2
        simp only [List.append_assoc, List.cons_append, List.nil_append] at ih2
        unfold Loop at hB
        simp -implicitDefEqProofs only [go_sem, simprocAttr, Tryz.f108, loopOf] at hB
        subst hB
        rw [RL_eq]
        simp -implicitDefEqProofs only [go_sem, simprocAttr, h1, hH, h7, hg, exC_len, exC_take, r, bne, beq_self_eq_true, hr]
        simp only [← ints_snoc, List.length_append, List.length_cons, List.length_nil, Nat.zero_add] at ih2
        rw [ih2]
        try simp only [List.length_append, List.length_cons]
      · rw [if_neg hfr, if_neg hfr]
        rw [if_neg hfr] at ih2
        unfold Loop at hB
        simp -implicitDefEqProofs only [go_sem, simprocAttr, Tryz.f108, loopOf] at hB
        subst hB
        rw [RL_eq]
        simp -implicitDefEqProofs only [go_sem, simprocAttr, h1, hH, h7, hg, exC_len, exC_take, r, bne, beq_self_eq_true, hr]
        simp only [← ints_snoc, List.length_append, List.length_cons, List.length_nil, Nat.zero_add] at ih2
        rw [ih2]
        try simp only [List.length_append, List.length_cons]
    · have b0 : (f == 0) = false := by simpa using hf
      rw [if_neg hf, if_neg hf]
      unfold Loop at hB
      simp -implicitDefEqProofs only [go_sem, simprocAttr, Tryz.f108, loopOf] at hB
      subst hB
      rw [RL_eq]
      simp -implicitDefEqProofs only [go_sem, simprocAttr, h1, hH, h7, hg, exC_len, exC_take, r, bne, b0]
theorem r_scalar (cols : List Cel) (ps : List Int) (hco : ∀ c ∈ cols, CelOk c) (hpo : ∀ x ∈ ps, 0 ≤ x) (hc : cols.length ≤ 1000000) (hp : ps.length ≤ 1000000) : ∀ e : Ex, exN e ≤ 40000 → R K (.call 108 [.agg (exC e), colsC cols, LR ps, .bool true] []) = some (.tup [I (kindE cols ps e).1, I (kindE cols ps e).2], []) := by
  refine Ex.ind fun e ih => ?_
  intro hN
  have hN2 : exNs e.args ≤ 40000 := by cases e; simp only [exN, Ex.args] at hN ⊢; omega
  have hl := exNs_len e.args
  have ih : ∀ a ∈ e.args, R K (.call 108 [.agg (exC a), colsC cols, LR ps, .bool true] []) = some (.tup [I (kindE cols ps a).1, I (kindE cols ps a).2], []) := fun a ha => ih a ha (by have := exN_mem ha; omega)
  have lk := fun ks B hB => l_scalar cols ps e.args (by omega) ih (exC e) (exC_locs e) ks e.args.length 0 0 [] B hB rfl (by omega) rfl
  simp only [List.drop_zero, List.length_nil, List.map_nil, List.nil_append] at lk
  have hfm := r_scalarForm e (by omega)
  have hlf := r_leaf cols ps e hc hp
  rw [kindE_eq]
  have hkl := kindL_len cols ps e.args
  have hkn := kindL_nn cols ps hco hpo e.args
  generalize kindL cols ps e.args = kl at lk hkl hkn ⊢
  obtain ⟨kk, f⟩ := kl
  simp only at lk hkl hkn ⊢
  simp only [exC_eq] at lk hfm hlf
  by_cases hf : f = 0
  rotate_left
  · rw [if_neg hf]
    simp only [if_neg hf] at lk
    rw [call_108]
    simp -implicitDefEqProofs only [go_sem, simprocAttr, Tryz.f108, exC_eq, exR_len]
    rw [lk _ _ ?_]
    rfl
  · subst hf
    rw [if_pos rfl]
    simp only [if_pos] at lk
    have hkl := hkl rfl
    have hkn := hkn rfl
    rw [call_108]
    simp -implicitDefEqProofs only [go_sem, simprocAttr, Tryz.f108, exC_eq, exR_len]
    rw [lk _ _ ?_]
    rotate_left
    · rfl
    by_cases h1 : exF e = 0
    rotate_left
    · have b1 : (exF e == 0) = false := by simpa using h1
      have en : nodeS cols ps e kk = (0, exF e) := by unfold nodeS; rw [if_pos h1]
      rw [en]
      simp -implicitDefEqProofs only [go_sem, simprocAttr, hfm, bne, b1]
    · rw [h1] at hfm
      obtain ⟨hx1, hx2, hx3⟩ := exF_args h1
      by_cases h2 : (leafK cols ps e).2 = 0
      rotate_left
      · have b2 : ((leafK cols ps e).2 == 0) = false := by simpa using h2
        have en : nodeS cols ps e kk = (0, (leafK cols ps e).2) := by unfold nodeS; rw [if_neg (by simpa using h1), if_pos h2]
        have l0 : (leafK cols ps e).1 = 0 := by
          unfold leafK at h2 ⊢
          repeat' (first | rfl | split at h2 | (simp at h2; done) | split)
          all_goals simp_all
        rw [en]
        simp -implicitDefEqProofs only [go_sem, simprocAttr, hfm, bne, beq_self_eq_true, hlf, b2, l0]
      · rw [h2] at hlf
        by_cases h3 : e.k ≤ 3
        · have d3 : decide (e.k ≤ 3) = true := decide_eq_true h3
          have en : nodeS cols ps e kk = ((leafK cols ps e).1, 0) := by unfold nodeS; rw [if_neg (by simpa using h1), if_neg (by simpa using h2), if_pos h3]
          rw [en]
          simp -implicitDefEqProofs only [go_sem, simprocAttr, hfm, bne, beq_self_eq_true, hlf, d3]
        · have d3 : decide (e.k ≤ 3) = false := decide_eq_false h3
          have en : nodeS cols ps e kk = match opsK e kk with | some k => (k, 0) | none => (0, 8) := by unfold nodeS; rw [if_neg (by simpa using h1), if_neg (by simpa using h2), if_neg h3] <;> cases opsK e kk <;> rfl
          rw [en]
          have hb := (wit_iff _ _ _).1 hx1
          have hk3 : e.k = 4 ∨ e.k = 5 ∨ e.k = 6 := by omega
          have hg : ∃ r, R K (.call (if e.k = 4 then 167 else 168) [.agg (exC e), LR kk] []) = some (r, []) ∧ OkT r (opsK e kk) := by
            rcases hk3 with q | q | q
            · rw [if_pos q]
              have : opsK e kk = opK e.op e.n kk := by unfold opsK; rw [if_pos q]
              rw [this]
              exact r_operated e kk (hx2 q) (rightN_of_leaf q h2) (by rw [hkl]; rw [q] at hx3; exact hx3) (by omega) hkn
            · rw [if_neg (by omega)]
              have : opsK e kk = caseS kk := by unfold opsK; rw [if_neg (by omega), if_pos q]
              rw [this]
              have h3' : 3 ≤ (e.args.length : Int) := by
                rw [q] at hx3; simp [argsOk] at hx3; omega
              exact ⟨_, r_caseKind5 e q kk (by omega) (by omega), OkT.ofI _⟩
            · rw [if_neg (by omega)]
              have : opsK e kk = anyK kk := by unfold opsK; rw [if_neg (by omega), if_neg (by omega)]
              rw [this]
              exact r_caseKind6 e q kk (by omega)
          obtain ⟨r, hr, ho⟩ := hg
          simp only [exC_eq] at hr
          by_cases q : e.k = 4
          · have b4 : (e.k == 4) = true := by simp [q]
            rw [if_pos q] at hr
            cases hop : opsK e kk with
            | some k =>
              rw [hop] at ho
              obtain rfl : r = .tup [I k, .bool true] := ho
              simp -implicitDefEqProofs only [go_sem, simprocAttr, hfm, bne, beq_self_eq_true, hlf, d3, b4, hr, List.length_map]
            | none =>
              rw [hop] at ho
              obtain ⟨z, rfl⟩ : ∃ z, r = .tup [I z, .bool false] := ho
              simp -implicitDefEqProofs only [go_sem, simprocAttr, hfm, bne, beq_self_eq_true, hlf, d3, b4, hr, List.length_map]
          · have b4 : (e.k == 4) = false := by simpa using q
            rw [if_neg q] at hr
            cases hop : opsK e kk with
            | some k =>
              rw [hop] at ho
              obtain rfl : r = .tup [I k, .bool true] := ho
              simp -implicitDefEqProofs only [go_sem, simprocAttr, hfm, bne, beq_self_eq_true, hlf, d3, b4, hr, List.length_map]
            | none =>
              rw [hop] at ho
              obtain ⟨z, rfl⟩ : ∃ z, r = .tup [I z, .bool false] := ho
              simp -implicitDefEqProofs only [go_sem, simprocAttr, hfm, bne, beq_self_eq_true, hlf, d3, b4, hr, List.length_map]
theorem l_kind (cols : List Cel) (ps : List Int) (args : List Ex) (hbs : exBs args) (hlen : args.length ≤ 40000) (ih : ∀ a ∈ args, R K (.call 105 [.agg [colsC cols, LR ps], .agg (exC a)] []) = some (.tup [I (kindE cols ps a).1, I (kindE cols ps a).2], [])) (H0 : List AV) (hH : locsL H0 = []) (ks : List It) : ∀ (m j : Nat) (i : Int) (acc : List Int) (Bo : Code), Loop Tryz.f105 0 Bo → i = (j : Int) → args.length = j + m → acc.length = j →
   RL K (.run 105 0 (.code Bo :: .lp Bo (some ([2, 3, 6, 16, 17, 18], [])) 3 :: .blk 0 3 :: ks) [(2, .ptr 0 0), (3, .ptr 1 0), (6, .own 2 acc.length), (16, .rows (exR args)), (17, I (args.length : Int)), (18, I i)] [.cells [colsC cols, LR ps], .cells H0, .rows 1 (acc.map fun x => [I x]) false]) =
   if (kindL cols ps (args.drop j)).2 = 0 then R K (.run 105 0 ks [(2, .ptr 0 0), (3, .ptr 1 0), (6, .own 2 (acc ++ (kindL cols ps (args.drop j)).1).length)] [.cells [colsC cols, LR ps], .cells H0, .rows 1 ((acc ++ (kindL cols ps (args.drop j)).1).map fun x => [I x]) false])
   else some (.tup [I 0, I (kindL cols ps (args.drop j)).2], [])
  | 0, j, i, acc, Bo, hB, hi, hj, ha => by
    subst hi
    have h1 : decide ((j : Int) < (args.length : Int)) = false := decide_eq_false (by omega)
    rw [List.drop_of_length_le (by omega)]
    simp only [kindL, List.append_nil]
    rw [if_pos trivial]
    unfold Loop at hB
    simp -implicitDefEqProofs only [go_sem, simprocAttr, Tryz.f105, loopOf] at hB
    subst hB
    rw [RL_eq]
    simp -implicitDefEqProofs only [go_sem, simprocAttr, h1, hH]
  | m + 1, j, i, acc, Bo, hB, hi, hj, ha => by
    subst hi
    have hB' := hB
    have h1 : decide ((j : Int) < (args.length : Int)) = true := decide_eq_true (by omega)
    have h7 := next_id (i := j) (n := args.length) (by omega) (by omega)
    obtain ⟨x, hx⟩ := some_at (l := args) (i := j) (by omega)
    have hg := ex_get hx
    have r := ih x (List.mem_of_getElem? hx)
    have hr := room_small (acc.length + 1) (by omega)
    rw [drop_ex' hx, kindL_cons]
    generalize hk : kindE cols ps x = kx at r ⊢
    obtain ⟨k, f⟩ := kx
    simp only at r ⊢
    by_cases hf : f = 0
    · subst hf
      rw [if_pos rfl]
      have ih2 := l_kind cols ps args hbs hlen ih H0 hH ks m (j + 1) _ (acc ++ [k]) Bo hB' rfl (by omega) (by simp; omega)
      generalize kindL cols ps (args.drop (j + 1)) = rest at ih2 ⊢
      obtain ⟨kr, fr⟩ := rest
      simp only at ih2 ⊢
      by_cases hfr : fr = 0
      · subst hfr
        rw [if_pos rfl, if_pos rfl]
        rw [if_pos rfl] at ih2
        simp only [List.append_assoc, List.cons_append, List.nil_append] at ih2
        unfold Loop at hB
        simp -implicitDefEqProofs only [go_sem, simprocAttr, Tryz.f105, loopOf] at hB
        subst hB
        rw [RL_eq]
        simp -implicitDefEqProofs only [go_sem, simprocAttr, h1, hH, h7, hg, exC_len, exC_take, r, bne, beq_self_eq_true, hr]
        simp only [← ints_snoc, List.length_append, List.length_cons, List.length_nil, Nat.zero_add] at ih2
        rw [ih2]
        try simp only [List.length_append, List.length_cons]
      · rw [if_neg hfr, if_neg hfr]
        rw [if_neg hfr] at ih2
        unfold Loop at hB
        simp -implicitDefEqProofs only [go_sem, simprocAttr, Tryz.f105, loopOf] at hB
        subst hB
        rw [RL_eq]
        simp -implicitDefEqProofs only [go_sem, simprocAttr, h1, hH, h7, hg, exC_len, exC_take, r, bne, beq_self_eq_true, hr]
        simp only [← ints_snoc, List.length_append, List.length_cons, List.length_nil, Nat.zero_add] at ih2
        rw [ih2]
        try simp only [List.length_append, List.length_cons]
    · have b0 : (f == 0) = false := by simpa using hf
      rw [if_neg hf, if_neg hf]
      unfold Loop at hB
      simp -implicitDefEqProofs only [go_sem, simprocAttr, Tryz.f105, loopOf] at hB
      subst hB
      rw [RL_eq]
      simp -implicitDefEqProofs only [go_sem, simprocAttr, h1, hH, h7, hg, exC_len, exC_take, r, bne, b0]
theorem c_kind (cols : List Cel) (ps : List Int) (hco : ∀ c ∈ cols, CelOk c) (hpo : ∀ x ∈ ps, 0 ≤ x) (hc : cols.length ≤ 1000000) (hp : ps.length ≤ 1000000) : ∀ e : Ex, exN e ≤ 40000 → exB e → R K (.call 105 [.agg [colsC cols, LR ps], .agg (exC e)] []) = some (.tup [I (kindE cols ps e).1, I (kindE cols ps e).2], []) := by
  refine Ex.ind fun e ih => ?_
  intro hN hbb
  have hN2 : exNs e.args ≤ 40000 := by cases e; simp only [exN, Ex.args] at hN ⊢; omega
  have hb3 : e.src.length ≤ 100 ∧ e.nm.length ≤ 100 ∧ exBs e.args := by cases e; simp only [exB] at hbb; exact hbb
  have hl := exNs_len e.args
  have ih : ∀ a ∈ e.args, R K (.call 105 [.agg [colsC cols, LR ps], .agg (exC a)] []) = some (.tup [I (kindE cols ps a).1, I (kindE cols ps a).2], []) := fun a ha => ih a ha (by have := exN_mem ha; omega) (exB_mem hb3.2.2 ha)
  have lk := fun ks B hB => l_kind cols ps e.args hb3.2.2 (by omega) ih (exC e) (exC_locs e) ks e.args.length 0 0 [] B hB rfl (by omega) rfl
  simp only [List.drop_zero, List.length_nil, List.map_nil, List.nil_append] at lk
  have hfm := c_formOf e hb3.1 hb3.2.1
  rw [kindE_eq]
  have hkl := kindL_len cols ps e.args
  have hkn := kindL_nn cols ps hco hpo e.args
  generalize kindL cols ps e.args = kl at lk hkl hkn ⊢
  obtain ⟨kk, f⟩ := kl
  simp only at lk hkl hkn ⊢
  simp only [exC_eq] at lk hfm
  by_cases hf : f = 0
  rotate_left
  · rw [if_neg hf]
    simp only [if_neg hf] at lk
    rw [call_105]
    simp -implicitDefEqProofs only [go_sem, simprocAttr, Tryz.f105, exC_eq, exR_len]
    rw [lk _ _ ?_]
    rfl
  · subst hf
    rw [if_pos rfl]
    simp only [if_pos] at lk
    have hkl := hkl rfl
    have hkn := hkn rfl
    rw [call_105]
    simp -implicitDefEqProofs only [go_sem, simprocAttr, Tryz.f105, exC_eq, exR_len]
    rw [lk _ _ ?_]
    rotate_left
    · rfl
    by_cases h1 : exF e = 0
    rotate_left
    · have e0 : formOfS e = exF e := by unfold formOfS; rw [if_pos h1]
      rw [e0] at hfm
      have b1 : (exF e == 0) = false := by simpa using h1
      have en : nodeS cols ps e kk = (0, exF e) := by unfold nodeS; rw [if_pos h1]
      rw [en]
      simp -implicitDefEqProofs only [go_sem, simprocAttr, hfm, bne, b1]
    obtain ⟨hx1, hx2, hx3⟩ := exF_args h1
    have hb := (wit_iff _ _ _).1 hx1
    by_cases q1 : e.k = 1
    · have e0 : formOfS e = faultS e.v := by unfold formOfS; rw [if_neg (by simpa using h1), if_pos q1]
      rw [e0, q1] at hfm
      by_cases h2 : faultS e.v = 0
      · rw [h2] at hfm
        have el : leafK cols ps e = (e.v.k, 0) := by unfold leafK; rw [if_pos q1, if_pos h2]
        have en : nodeS cols ps e kk = (e.v.k, 0) := by unfold nodeS; rw [if_neg (by simpa using h1), el, if_neg (by simp), if_pos (by omega)]
        rw [en]
        simp -implicitDefEqProofs only [go_sem, simprocAttr, q1, hfm, bne, beq_self_eq_true]
      · have b2 : (faultS e.v == 0) = false := by simpa using h2
        have el : leafK cols ps e = (0, faultS e.v) := by unfold leafK; rw [if_pos q1, if_neg h2]
        have en : nodeS cols ps e kk = (0, faultS e.v) := by unfold nodeS; rw [if_neg (by simpa using h1), el, if_pos h2]
        rw [en]
        simp -implicitDefEqProofs only [go_sem, simprocAttr, q1, hfm, bne, b2]
    have e0 : formOfS e = 0 := by unfold formOfS; rw [if_neg (by simpa using h1), if_neg q1]
    rw [e0] at hfm
    have nb1 : (e.k == 1) = false := by simpa using q1
    by_cases q2 : e.k = 2
    · rw [q2] at hfm
      have w : wrapI .i64 ((ps.length : Int) - 1) = (ps.length : Int) - 1 := wrap_id (by omega) (by omega)
      cases h : within e.n 0 ((ps.length : Int) - 1) with
      | true =>
        have hbn := (wit_iff _ _ _).1 h
        obtain ⟨x, hx⟩ := some_at (l := ps) (i := e.n.toNat) (by omega)
        have hg : at? (ps.map fun x => [I x]) e.n = some [I x] := by unfold at?; rw [if_pos hbn.1]; simp [hx]
        have el : leafK cols ps e = (x, 0) := by unfold leafK; rw [if_neg q1, if_pos q2, if_pos h, hx]; rfl
        have en : nodeS cols ps e kk = (x, 0) := by unfold nodeS; rw [if_neg (by simpa using h1), el, if_neg (by simp), if_pos (by omega)]
        rw [en]
        simp -implicitDefEqProofs only [go_sem, simprocAttr, q2, hfm, bne, beq_self_eq_true, w, c_within, h, hg]
      | false =>
        have el : leafK cols ps e = (0, 1) := by unfold leafK; rw [if_neg q1, if_pos q2, if_neg (by rw [h]; simp)]
        have en : nodeS cols ps e kk = (0, 1) := by unfold nodeS; rw [if_neg (by simpa using h1), el, if_pos (by simp)]
        rw [en]
        simp -implicitDefEqProofs only [go_sem, simprocAttr, q2, hfm, bne, beq_self_eq_true, w, c_within, h]
    have nb2 : (e.k == 2) = false := by simpa using q2
    by_cases q3 : e.k = 3
    · have hcl := c_column cols hc e
      simp only [exC_eq] at hcl
      rw [q3] at hfm hcl
      by_cases h : 0 ≤ findC e.src e.nm cols 0
      · have d0 : decide (findC e.src e.nm cols 0 < 0) = false := decide_eq_false (by omega)
        have hbf := findC_bound e.src e.nm cols 0 h
        obtain ⟨c, hc'⟩ := some_at (l := cols) (i := (findC e.src e.nm cols 0).toNat) (by omega)
        have hg : at? (cols.map celC) (findC e.src e.nm cols 0) = some (celC c) := by unfold at?; rw [if_pos h]; simp [hc']
        have el : leafK cols ps e = (c.k, 0) := by unfold leafK; rw [if_neg q1, if_neg q2, if_pos q3, if_pos h, hc']; rfl
        have en : nodeS cols ps e kk = (c.k, 0) := by unfold nodeS; rw [if_neg (by simpa using h1), el, if_neg (by simp), if_pos (by omega)]
        rw [en]
        simp -implicitDefEqProofs only [go_sem, simprocAttr, q3, hfm, bne, beq_self_eq_true, hcl, d0, hg, celC]
      · have d0 : decide (findC e.src e.nm cols 0 < 0) = true := decide_eq_true (by omega)
        have el : leafK cols ps e = (0, 5) := by unfold leafK; rw [if_neg q1, if_neg q2, if_pos q3, if_neg h]
        have en : nodeS cols ps e kk = (0, 5) := by unfold nodeS; rw [if_neg (by simpa using h1), el, if_pos (by simp)]
        rw [en]
        simp -implicitDefEqProofs only [go_sem, simprocAttr, q3, hfm, bne, beq_self_eq_true, hcl, d0]
    have nb3 : (e.k == 3) = false := by simpa using q3
    have no3 : ¬ e.k ≤ 3 := by omega
    by_cases q4 : e.k = 4
    · have hrn := c_rightN e.op e.n
      rw [q4] at hfm
      cases hr : rightNS e.op e.n with
      | false =>
        rw [hr] at hrn
        have el : leafK cols ps e = (0, 1) := by unfold leafK; rw [if_neg q1, if_neg q2, if_neg q3, if_pos q4, if_neg (by rw [hr]; simp)]
        have en : nodeS cols ps e kk = (0, 1) := by unfold nodeS; rw [if_neg (by simpa using h1), el, if_pos (by simp)]
        rw [en]
        simp -implicitDefEqProofs only [go_sem, simprocAttr, q4, hfm, bne, beq_self_eq_true, hrn]
      | true =>
        rw [hr] at hrn
        have el : leafK cols ps e = (0, 0) := by unfold leafK; rw [if_neg q1, if_neg q2, if_neg q3, if_pos q4, if_pos hr]
        have en : nodeS cols ps e kk = match opK e.op e.n kk with | some k => (k, 0) | none => (0, 8) := by
          unfold nodeS opsK; rw [if_neg (by simpa using h1), el, if_neg (by simp), if_neg no3, if_pos q4] <;> cases opK e.op e.n kk <;> rfl
        rw [en]
        obtain ⟨r, hop, ho⟩ := c_operated e kk (hx2 q4) hr (by rw [hkl]; rw [q4] at hx3; exact hx3) (by omega) hkn
        simp only [exC_eq] at hop
        rw [q4] at hop
        cases hx : opK e.op e.n kk with
        | some k =>
          rw [hx] at ho
          obtain rfl : r = .tup [I k, .bool true] := ho
          simp -implicitDefEqProofs only [go_sem, simprocAttr, q4, hfm, bne, beq_self_eq_true, hrn, hop, List.length_map]
        | none =>
          rw [hx] at ho
          obtain ⟨z, rfl⟩ : ∃ z, r = .tup [I z, .bool false] := ho
          simp -implicitDefEqProofs only [go_sem, simprocAttr, q4, hfm, bne, beq_self_eq_true, hrn, hop, List.length_map]
    have nb4 : (e.k == 4) = false := by simpa using q4
    have el : leafK cols ps e = (0, 0) := by unfold leafK; rw [if_neg q1, if_neg q2, if_neg q3, if_neg q4]
    by_cases q5 : e.k = 5
    · rw [q5] at hfm
      have h3' : 3 ≤ (e.args.length : Int) := by
        rw [q5] at hx3; simp [argsOk] at hx3; omega
      have hcs := c_cases kk (by omega) (by omega) hkn
      have en : nodeS cols ps e kk = match caseS kk with | some k => (k, 0) | none => (0, 8) := by
        unfold nodeS opsK; rw [if_neg (by simpa using h1), el, if_neg (by simp), if_neg no3, if_neg q4, if_pos q5] <;> cases caseS kk <;> rfl
      rw [en]
      cases hx : caseS kk with
      | some k =>
        rw [hx] at hcs
        simp only [okI] at hcs
        simp -implicitDefEqProofs only [go_sem, simprocAttr, q5, hfm, bne, beq_self_eq_true, hcs, List.length_map]
      | none =>
        rw [hx] at hcs
        simp only [okI] at hcs
        simp -implicitDefEqProofs only [go_sem, simprocAttr, q5, hfm, bne, beq_self_eq_true, hcs, List.length_map]
    have nb5 : (e.k == 5) = false := by simpa using q5
    have hcm := c_common kk (by omega) hkn
    have en : nodeS cols ps e kk = match anyK kk with | some k => (k, 0) | none => (0, 8) := by
      unfold nodeS opsK; rw [if_neg (by simpa using h1), el, if_neg (by simp), if_neg no3, if_neg q4, if_neg q5] <;> cases anyK kk <;> rfl
    rw [en]
    unfold anyK
    cases hx : fitsS kk 0 with
    | some k =>
      rw [hx] at hcm
      simp only [okI] at hcm
      simp -implicitDefEqProofs only [go_sem, simprocAttr, nb1, nb2, nb3, nb4, nb5, hfm, bne, beq_self_eq_true, hcm, List.length_map]
      all_goals rfl
    | none =>
      rw [hx] at hcm
      simp only [okI] at hcm
      simp -implicitDefEqProofs only [go_sem, simprocAttr, nb1, nb2, nb3, nb4, nb5, hfm, bne, beq_self_eq_true, hcm, List.length_map]
      all_goals rfl
theorem c_moment (k n : Int) (s : List UInt8) : R K (.call 269 [V k n s] []) = some (.bool ((plainV ⟨k, n, s⟩).k == 4), []) := by
  rw [call_269]
  simp -implicitDefEqProofs only [go_sem, simprocAttr, Tryz.f269, c_plain]
noncomputable def dAt (n : Int) (i : Nat) : Int := (dateS n).getD i 0
noncomputable def unitV (a : Val) (u : Int) : Val := if (plainV a).k = 4 ∧ within u 1 6 = true then numberS 2 (dAt a.n (6 - u).toNat) else null
noncomputable def cutAt (n u : Int) (i : Nat) (x : Int) : Int := if 7 - u ≤ (i : Int) then x else dAt n i
noncomputable def truncV (a : Val) (u : Int) : Val := if (plainV a).k = 4 ∧ within u 1 6 = true then dateV (dAt a.n 0) (cutAt a.n u 1 1) (cutAt a.n u 2 1) (cutAt a.n u 3 0) (cutAt a.n u 4 0) (cutAt a.n u 5 0) else null
theorem six {u : Int} (h : within u 1 6 = true) : u = 1 ∨ u = 2 ∨ u = 3 ∨ u = 4 ∨ u = 5 ∨ u = 6 := by
  have := (wit_iff u 1 6).1 h
  omega
theorem c_dateOf' (n : Int) (h0 : 0 ≤ n) (h1 : n ≤ 253402300799) : R K (.call 127 [I n] []) = some (.agg [I (dAt n 0), I (dAt n 1), I (dAt n 2), I (dAt n 3), I (dAt n 4), I (dAt n 5)], []) := by
  rw [c_dateOf n h0 h1]; rfl
theorem r_parts' (n : Int) (h0 : 0 ≤ n) (h1 : n ≤ 253402300799) : R K (.call 130 [I n] []) = some (.agg [I (dAt n 5), I (dAt n 4), I (dAt n 3), I (dAt n 2), I (dAt n 1), I (dAt n 0)], []) := by
  rw [r_parts n h0 h1]; rfl
theorem within1 : within 1 1 6 = true := rfl
theorem within2 : within 2 1 6 = true := rfl
theorem within3 : within 3 1 6 = true := rfl
theorem within4 : within 4 1 6 = true := rfl
theorem within5 : within 5 1 6 = true := rfl
theorem within6 : within 6 1 6 = true := rfl
theorem c_Unit1 (n : Int) (s : List UInt8) (hp : plainV ⟨4, n, s⟩ = ⟨4, n, s⟩) (h0 : 0 ≤ n) (h1 : n ≤ 253402300799) : R K (.call 218 [V 4 n s, I 1] []) = some (enc (unitV ⟨4, n, s⟩ 1), []) := by
  have hv : unitV ⟨4, n, s⟩ 1 = numberS 2 (dAt n 5) := by unfold unitV; rw [hp]; exact if_pos ⟨rfl, rfl⟩
  rw [hv]
  have hd := c_dateOf' n h0 h1
  rw [call_218]
  simp -implicitDefEqProofs only [go_sem, simprocAttr, Tryz.f218, c_moment, c_within, hp, within1, hd, c_number, at?, List.length_cons, List.length_nil]
theorem c_Unit2 (n : Int) (s : List UInt8) (hp : plainV ⟨4, n, s⟩ = ⟨4, n, s⟩) (h0 : 0 ≤ n) (h1 : n ≤ 253402300799) : R K (.call 218 [V 4 n s, I 2] []) = some (enc (unitV ⟨4, n, s⟩ 2), []) := by
  have hv : unitV ⟨4, n, s⟩ 2 = numberS 2 (dAt n 4) := by unfold unitV; rw [hp]; exact if_pos ⟨rfl, rfl⟩
  rw [hv]
  have hd := c_dateOf' n h0 h1
  rw [call_218]
  simp -implicitDefEqProofs only [go_sem, simprocAttr, Tryz.f218, c_moment, c_within, hp, within2, hd, c_number, at?, List.length_cons, List.length_nil]
theorem c_Unit3 (n : Int) (s : List UInt8) (hp : plainV ⟨4, n, s⟩ = ⟨4, n, s⟩) (h0 : 0 ≤ n) (h1 : n ≤ 253402300799) : R K (.call 218 [V 4 n s, I 3] []) = some (enc (unitV ⟨4, n, s⟩ 3), []) := by
  have hv : unitV ⟨4, n, s⟩ 3 = numberS 2 (dAt n 3) := by unfold unitV; rw [hp]; exact if_pos ⟨rfl, rfl⟩
  rw [hv]
  have hd := c_dateOf' n h0 h1
  rw [call_218]
  simp -implicitDefEqProofs only [go_sem, simprocAttr, Tryz.f218, c_moment, c_within, hp, within3, hd, c_number, at?, List.length_cons, List.length_nil]
theorem c_Unit4 (n : Int) (s : List UInt8) (hp : plainV ⟨4, n, s⟩ = ⟨4, n, s⟩) (h0 : 0 ≤ n) (h1 : n ≤ 253402300799) : R K (.call 218 [V 4 n s, I 4] []) = some (enc (unitV ⟨4, n, s⟩ 4), []) := by
  have hv : unitV ⟨4, n, s⟩ 4 = numberS 2 (dAt n 2) := by unfold unitV; rw [hp]; exact if_pos ⟨rfl, rfl⟩
  rw [hv]
  have hd := c_dateOf' n h0 h1
  rw [call_218]
  simp -implicitDefEqProofs only [go_sem, simprocAttr, Tryz.f218, c_moment, c_within, hp, within4, hd, c_number, at?, List.length_cons, List.length_nil]
theorem c_Unit5 (n : Int) (s : List UInt8) (hp : plainV ⟨4, n, s⟩ = ⟨4, n, s⟩) (h0 : 0 ≤ n) (h1 : n ≤ 253402300799) : R K (.call 218 [V 4 n s, I 5] []) = some (enc (unitV ⟨4, n, s⟩ 5), []) := by
  have hv : unitV ⟨4, n, s⟩ 5 = numberS 2 (dAt n 1) := by unfold unitV; rw [hp]; exact if_pos ⟨rfl, rfl⟩
  rw [hv]
  have hd := c_dateOf' n h0 h1
  rw [call_218]
  simp -implicitDefEqProofs only [go_sem, simprocAttr, Tryz.f218, c_moment, c_within, hp, within5, hd, c_number, at?, List.length_cons, List.length_nil]
theorem c_Unit6 (n : Int) (s : List UInt8) (hp : plainV ⟨4, n, s⟩ = ⟨4, n, s⟩) (h0 : 0 ≤ n) (h1 : n ≤ 253402300799) : R K (.call 218 [V 4 n s, I 6] []) = some (enc (unitV ⟨4, n, s⟩ 6), []) := by
  have hv : unitV ⟨4, n, s⟩ 6 = numberS 2 (dAt n 0) := by unfold unitV; rw [hp]; exact if_pos ⟨rfl, rfl⟩
  rw [hv]
  have hd := c_dateOf' n h0 h1
  rw [call_218]
  simp -implicitDefEqProofs only [go_sem, simprocAttr, Tryz.f218, c_moment, c_within, hp, within6, hd, c_number, at?, List.length_cons, List.length_nil]
theorem c_Unit (k n : Int) (s : List UInt8) (u : Int) : R K (.call 218 [V k n s, I u] []) = some (enc (unitV ⟨k, n, s⟩ u), []) := by
  by_cases hk : (plainV ⟨k, n, s⟩).k = 4
  · have hp := plain_full (v := ⟨k, n, s⟩) (by rw [hk]; decide)
    have hb := right_bounds ⟨k, n, s⟩
    simp only [] at hb
    have hb := hb.2.2.2.2.2.2.2.2 hk
    rw [hp] at hk hb
    have hk : k = 4 := hk
    subst hk
    by_cases hu : within u 1 6 = true
    · rcases six hu with q | q | q | q | q | q <;> subst q
      · exact c_Unit1 n s hp hb.1 hb.2
      · exact c_Unit2 n s hp hb.1 hb.2
      · exact c_Unit3 n s hp hb.1 hb.2
      · exact c_Unit4 n s hp hb.1 hb.2
      · exact c_Unit5 n s hp hb.1 hb.2
      · exact c_Unit6 n s hp hb.1 hb.2
    · have hv : unitV ⟨4, n, s⟩ u = null := if_neg (fun h => hu h.2)
      have hu' : within u 1 6 = false := by simpa using hu
      rw [hv]
      rw [call_218]
      simp -implicitDefEqProofs only [go_sem, simprocAttr, Tryz.f218, c_moment, c_within, hp, hu']
      all_goals rfl
  · have hv : unitV ⟨k, n, s⟩ u = null := if_neg (fun h => hk h.1)
    have hk' : ((plainV ⟨k, n, s⟩).k == 4) = false := beq_eq_false_iff_ne.2 hk
    rw [hv]
    rw [call_218]
    simp -implicitDefEqProofs only [go_sem, simprocAttr, Tryz.f218, c_moment, c_within, hk']
    all_goals rfl
theorem r_UnitOf1 (n : Int) (s : List UInt8) (hp : plainV ⟨4, n, s⟩ = ⟨4, n, s⟩) (h0 : 0 ≤ n) (h1 : n ≤ 253402300799) : R K (.call 83 [V 4 n s, I 1] []) = some (enc (unitV ⟨4, n, s⟩ 1), []) := by
  have hv : unitV ⟨4, n, s⟩ 1 = numberS 2 (dAt n 5) := by unfold unitV; rw [hp]; exact if_pos ⟨rfl, rfl⟩
  rw [hv]
  have hd := r_parts' n h0 h1
  rw [call_83]
  simp -implicitDefEqProofs only [go_sem, simprocAttr, Tryz.f83, bne, r_right, r_within, hp, within1, hd, r_Number, at?, List.length_cons, List.length_nil]
theorem r_UnitOf2 (n : Int) (s : List UInt8) (hp : plainV ⟨4, n, s⟩ = ⟨4, n, s⟩) (h0 : 0 ≤ n) (h1 : n ≤ 253402300799) : R K (.call 83 [V 4 n s, I 2] []) = some (enc (unitV ⟨4, n, s⟩ 2), []) := by
  have hv : unitV ⟨4, n, s⟩ 2 = numberS 2 (dAt n 4) := by unfold unitV; rw [hp]; exact if_pos ⟨rfl, rfl⟩
  rw [hv]
  have hd := r_parts' n h0 h1
  rw [call_83]
  simp -implicitDefEqProofs only [go_sem, simprocAttr, Tryz.f83, bne, r_right, r_within, hp, within2, hd, r_Number, at?, List.length_cons, List.length_nil]
theorem r_UnitOf3 (n : Int) (s : List UInt8) (hp : plainV ⟨4, n, s⟩ = ⟨4, n, s⟩) (h0 : 0 ≤ n) (h1 : n ≤ 253402300799) : R K (.call 83 [V 4 n s, I 3] []) = some (enc (unitV ⟨4, n, s⟩ 3), []) := by
  have hv : unitV ⟨4, n, s⟩ 3 = numberS 2 (dAt n 3) := by unfold unitV; rw [hp]; exact if_pos ⟨rfl, rfl⟩
  rw [hv]
  have hd := r_parts' n h0 h1
  rw [call_83]
  simp -implicitDefEqProofs only [go_sem, simprocAttr, Tryz.f83, bne, r_right, r_within, hp, within3, hd, r_Number, at?, List.length_cons, List.length_nil]
theorem r_UnitOf4 (n : Int) (s : List UInt8) (hp : plainV ⟨4, n, s⟩ = ⟨4, n, s⟩) (h0 : 0 ≤ n) (h1 : n ≤ 253402300799) : R K (.call 83 [V 4 n s, I 4] []) = some (enc (unitV ⟨4, n, s⟩ 4), []) := by
  have hv : unitV ⟨4, n, s⟩ 4 = numberS 2 (dAt n 2) := by unfold unitV; rw [hp]; exact if_pos ⟨rfl, rfl⟩
  rw [hv]
  have hd := r_parts' n h0 h1
  rw [call_83]
  simp -implicitDefEqProofs only [go_sem, simprocAttr, Tryz.f83, bne, r_right, r_within, hp, within4, hd, r_Number, at?, List.length_cons, List.length_nil]
theorem r_UnitOf5 (n : Int) (s : List UInt8) (hp : plainV ⟨4, n, s⟩ = ⟨4, n, s⟩) (h0 : 0 ≤ n) (h1 : n ≤ 253402300799) : R K (.call 83 [V 4 n s, I 5] []) = some (enc (unitV ⟨4, n, s⟩ 5), []) := by
  have hv : unitV ⟨4, n, s⟩ 5 = numberS 2 (dAt n 1) := by unfold unitV; rw [hp]; exact if_pos ⟨rfl, rfl⟩
  rw [hv]
  have hd := r_parts' n h0 h1
  rw [call_83]
  simp -implicitDefEqProofs only [go_sem, simprocAttr, Tryz.f83, bne, r_right, r_within, hp, within5, hd, r_Number, at?, List.length_cons, List.length_nil]
theorem r_UnitOf6 (n : Int) (s : List UInt8) (hp : plainV ⟨4, n, s⟩ = ⟨4, n, s⟩) (h0 : 0 ≤ n) (h1 : n ≤ 253402300799) : R K (.call 83 [V 4 n s, I 6] []) = some (enc (unitV ⟨4, n, s⟩ 6), []) := by
  have hv : unitV ⟨4, n, s⟩ 6 = numberS 2 (dAt n 0) := by unfold unitV; rw [hp]; exact if_pos ⟨rfl, rfl⟩
  rw [hv]
  have hd := r_parts' n h0 h1
  rw [call_83]
  simp -implicitDefEqProofs only [go_sem, simprocAttr, Tryz.f83, bne, r_right, r_within, hp, within6, hd, r_Number, at?, List.length_cons, List.length_nil]
theorem r_UnitOf (k n : Int) (s : List UInt8) (u : Int) : R K (.call 83 [V k n s, I u] []) = some (enc (unitV ⟨k, n, s⟩ u), []) := by
  by_cases hk : (plainV ⟨k, n, s⟩).k = 4
  · have hp := plain_full (v := ⟨k, n, s⟩) (by rw [hk]; decide)
    have hb := right_bounds ⟨k, n, s⟩
    simp only [] at hb
    have hb := hb.2.2.2.2.2.2.2.2 hk
    rw [hp] at hk hb
    have hk : k = 4 := hk
    subst hk
    by_cases hu : within u 1 6 = true
    · rcases six hu with q | q | q | q | q | q <;> subst q
      · exact r_UnitOf1 n s hp hb.1 hb.2
      · exact r_UnitOf2 n s hp hb.1 hb.2
      · exact r_UnitOf3 n s hp hb.1 hb.2
      · exact r_UnitOf4 n s hp hb.1 hb.2
      · exact r_UnitOf5 n s hp hb.1 hb.2
      · exact r_UnitOf6 n s hp hb.1 hb.2
    · have hv : unitV ⟨4, n, s⟩ u = null := if_neg (fun h => hu h.2)
      have hu' : within u 1 6 = false := by simpa using hu
      rw [hv]
      rw [call_83]
      simp -implicitDefEqProofs only [go_sem, simprocAttr, Tryz.f83, bne, r_right, r_within, hp, hu']
      all_goals rfl
  · have hv : unitV ⟨k, n, s⟩ u = null := if_neg (fun h => hk h.1)
    have hk' : ((plainV ⟨k, n, s⟩).k == 4) = false := beq_eq_false_iff_ne.2 hk
    rw [hv]
    rw [call_83]
    simp -implicitDefEqProofs only [go_sem, simprocAttr, Tryz.f83, bne, r_right, r_within, hk']
    all_goals rfl
theorem c_Trunc1 (n : Int) (s : List UInt8) (hp : plainV ⟨4, n, s⟩ = ⟨4, n, s⟩) (h0 : 0 ≤ n) (h1 : n ≤ 253402300799) : R K (.call 217 [V 4 n s, I 1] []) = some (enc (truncV ⟨4, n, s⟩ 1), []) := by
  have hv : truncV ⟨4, n, s⟩ 1 = dateV (dAt n 0) (dAt n 1) (dAt n 2) (dAt n 3) (dAt n 4) (dAt n 5) := by unfold truncV; rw [hp]; exact if_pos ⟨rfl, rfl⟩
  rw [hv]
  have hd := c_dateOf' n h0 h1
  rw [call_217]
  simp -implicitDefEqProofs only [go_sem, simprocAttr, Tryz.f217, c_moment, c_within, hp, within1, hd, c_Date, at?, List.length_cons, List.length_nil]
  rw [RL_eq]
  simp -implicitDefEqProofs only [go_sem, simprocAttr, c_Date, at?]
theorem c_Trunc2 (n : Int) (s : List UInt8) (hp : plainV ⟨4, n, s⟩ = ⟨4, n, s⟩) (h0 : 0 ≤ n) (h1 : n ≤ 253402300799) : R K (.call 217 [V 4 n s, I 2] []) = some (enc (truncV ⟨4, n, s⟩ 2), []) := by
  have hv : truncV ⟨4, n, s⟩ 2 = dateV (dAt n 0) (dAt n 1) (dAt n 2) (dAt n 3) (dAt n 4) 0 := by unfold truncV; rw [hp]; exact if_pos ⟨rfl, rfl⟩
  rw [hv]
  have hd := c_dateOf' n h0 h1
  rw [call_217]
  simp -implicitDefEqProofs only [go_sem, simprocAttr, Tryz.f217, c_moment, c_within, hp, within2, hd, c_Date, at?, List.length_cons, List.length_nil]
  rw [RL_eq]
  simp -implicitDefEqProofs only [go_sem, simprocAttr, c_Date, at?]
  rw [RL_eq]
  simp -implicitDefEqProofs only [go_sem, simprocAttr, c_Date, at?]
theorem c_Trunc3 (n : Int) (s : List UInt8) (hp : plainV ⟨4, n, s⟩ = ⟨4, n, s⟩) (h0 : 0 ≤ n) (h1 : n ≤ 253402300799) : R K (.call 217 [V 4 n s, I 3] []) = some (enc (truncV ⟨4, n, s⟩ 3), []) := by
  have hv : truncV ⟨4, n, s⟩ 3 = dateV (dAt n 0) (dAt n 1) (dAt n 2) (dAt n 3) 0 0 := by unfold truncV; rw [hp]; exact if_pos ⟨rfl, rfl⟩
  rw [hv]
  have hd := c_dateOf' n h0 h1
  rw [call_217]
  simp -implicitDefEqProofs only [go_sem, simprocAttr, Tryz.f217, c_moment, c_within, hp, within3, hd, c_Date, at?, List.length_cons, List.length_nil]
  rw [RL_eq]
  simp -implicitDefEqProofs only [go_sem, simprocAttr, c_Date, at?]
  rw [RL_eq]
  simp -implicitDefEqProofs only [go_sem, simprocAttr, c_Date, at?]
  rw [RL_eq]
  simp -implicitDefEqProofs only [go_sem, simprocAttr, c_Date, at?]
theorem c_Trunc4 (n : Int) (s : List UInt8) (hp : plainV ⟨4, n, s⟩ = ⟨4, n, s⟩) (h0 : 0 ≤ n) (h1 : n ≤ 253402300799) : R K (.call 217 [V 4 n s, I 4] []) = some (enc (truncV ⟨4, n, s⟩ 4), []) := by
  have hv : truncV ⟨4, n, s⟩ 4 = dateV (dAt n 0) (dAt n 1) (dAt n 2) 0 0 0 := by unfold truncV; rw [hp]; exact if_pos ⟨rfl, rfl⟩
  rw [hv]
  have hd := c_dateOf' n h0 h1
  rw [call_217]
  simp -implicitDefEqProofs only [go_sem, simprocAttr, Tryz.f217, c_moment, c_within, hp, within4, hd, c_Date, at?, List.length_cons, List.length_nil]
  rw [RL_eq]
  simp -implicitDefEqProofs only [go_sem, simprocAttr, c_Date, at?]
  rw [RL_eq]
  simp -implicitDefEqProofs only [go_sem, simprocAttr, c_Date, at?]
  rw [RL_eq]
  simp -implicitDefEqProofs only [go_sem, simprocAttr, c_Date, at?]
  rw [RL_eq]
  simp -implicitDefEqProofs only [go_sem, simprocAttr, c_Date, at?]
theorem c_Trunc5 (n : Int) (s : List UInt8) (hp : plainV ⟨4, n, s⟩ = ⟨4, n, s⟩) (h0 : 0 ≤ n) (h1 : n ≤ 253402300799) : R K (.call 217 [V 4 n s, I 5] []) = some (enc (truncV ⟨4, n, s⟩ 5), []) := by
  have hv : truncV ⟨4, n, s⟩ 5 = dateV (dAt n 0) (dAt n 1) 1 0 0 0 := by unfold truncV; rw [hp]; exact if_pos ⟨rfl, rfl⟩
  rw [hv]
  have hd := c_dateOf' n h0 h1
  rw [call_217]
  simp -implicitDefEqProofs only [go_sem, simprocAttr, Tryz.f217, c_moment, c_within, hp, within5, hd, c_Date, at?, List.length_cons, List.length_nil]
  rw [RL_eq]
  simp -implicitDefEqProofs only [go_sem, simprocAttr, c_Date, at?]
  rw [RL_eq]
  simp -implicitDefEqProofs only [go_sem, simprocAttr, c_Date, at?]
  rw [RL_eq]
  simp -implicitDefEqProofs only [go_sem, simprocAttr, c_Date, at?]
  rw [RL_eq]
  simp -implicitDefEqProofs only [go_sem, simprocAttr, c_Date, at?]
  rw [RL_eq]
  simp -implicitDefEqProofs only [go_sem, simprocAttr, c_Date, at?]
theorem c_Trunc6 (n : Int) (s : List UInt8) (hp : plainV ⟨4, n, s⟩ = ⟨4, n, s⟩) (h0 : 0 ≤ n) (h1 : n ≤ 253402300799) : R K (.call 217 [V 4 n s, I 6] []) = some (enc (truncV ⟨4, n, s⟩ 6), []) := by
  have hv : truncV ⟨4, n, s⟩ 6 = dateV (dAt n 0) 1 1 0 0 0 := by unfold truncV; rw [hp]; exact if_pos ⟨rfl, rfl⟩
  rw [hv]
  have hd := c_dateOf' n h0 h1
  rw [call_217]
  simp -implicitDefEqProofs only [go_sem, simprocAttr, Tryz.f217, c_moment, c_within, hp, within6, hd, c_Date, at?, List.length_cons, List.length_nil]
  rw [RL_eq]
  simp -implicitDefEqProofs only [go_sem, simprocAttr, c_Date, at?]
  rw [RL_eq]
  simp -implicitDefEqProofs only [go_sem, simprocAttr, c_Date, at?]
  rw [RL_eq]
  simp -implicitDefEqProofs only [go_sem, simprocAttr, c_Date, at?]
  rw [RL_eq]
  simp -implicitDefEqProofs only [go_sem, simprocAttr, c_Date, at?]
  rw [RL_eq]
  simp -implicitDefEqProofs only [go_sem, simprocAttr, c_Date, at?]
  rw [RL_eq]
  simp -implicitDefEqProofs only [go_sem, simprocAttr, c_Date, at?]
theorem c_Trunc (k n : Int) (s : List UInt8) (u : Int) : R K (.call 217 [V k n s, I u] []) = some (enc (truncV ⟨k, n, s⟩ u), []) := by
  by_cases hk : (plainV ⟨k, n, s⟩).k = 4
  · have hp := plain_full (v := ⟨k, n, s⟩) (by rw [hk]; decide)
    have hb := right_bounds ⟨k, n, s⟩
    simp only [] at hb
    have hb := hb.2.2.2.2.2.2.2.2 hk
    rw [hp] at hk hb
    have hk : k = 4 := hk
    subst hk
    by_cases hu : within u 1 6 = true
    · rcases six hu with q | q | q | q | q | q <;> subst q
      · exact c_Trunc1 n s hp hb.1 hb.2
      · exact c_Trunc2 n s hp hb.1 hb.2
      · exact c_Trunc3 n s hp hb.1 hb.2
      · exact c_Trunc4 n s hp hb.1 hb.2
      · exact c_Trunc5 n s hp hb.1 hb.2
      · exact c_Trunc6 n s hp hb.1 hb.2
    · have hv : truncV ⟨4, n, s⟩ u = null := if_neg (fun h => hu h.2)
      have hu' : within u 1 6 = false := by simpa using hu
      rw [hv]
      rw [call_217]
      simp -implicitDefEqProofs only [go_sem, simprocAttr, Tryz.f217, c_moment, c_within, hp, hu']
      all_goals rfl
  · have hv : truncV ⟨k, n, s⟩ u = null := if_neg (fun h => hk h.1)
    have hk' : ((plainV ⟨k, n, s⟩).k == 4) = false := beq_eq_false_iff_ne.2 hk
    rw [hv]
    rw [call_217]
    simp -implicitDefEqProofs only [go_sem, simprocAttr, Tryz.f217, c_moment, c_within, hk']
    all_goals rfl
theorem r_Truncated1 (n : Int) (s : List UInt8) (hp : plainV ⟨4, n, s⟩ = ⟨4, n, s⟩) (h0 : 0 ≤ n) (h1 : n ≤ 253402300799) : R K (.call 82 [V 4 n s, I 1] []) = some (enc (truncV ⟨4, n, s⟩ 1), []) := by
  have hv : truncV ⟨4, n, s⟩ 1 = dateV (dAt n 0) (dAt n 1) (dAt n 2) (dAt n 3) (dAt n 4) (dAt n 5) := by unfold truncV; rw [hp]; exact if_pos ⟨rfl, rfl⟩
  rw [hv]
  have hd := r_parts' n h0 h1
  rw [call_82]
  simp -implicitDefEqProofs only [go_sem, simprocAttr, Tryz.f82, bne, r_right, r_within, hp, within1, hd, r_Dated, at?, List.length_cons, List.length_nil]
  rw [RL_eq]
  simp -implicitDefEqProofs only [go_sem, simprocAttr, r_Dated, at?]
theorem r_Truncated2 (n : Int) (s : List UInt8) (hp : plainV ⟨4, n, s⟩ = ⟨4, n, s⟩) (h0 : 0 ≤ n) (h1 : n ≤ 253402300799) : R K (.call 82 [V 4 n s, I 2] []) = some (enc (truncV ⟨4, n, s⟩ 2), []) := by
  have hv : truncV ⟨4, n, s⟩ 2 = dateV (dAt n 0) (dAt n 1) (dAt n 2) (dAt n 3) (dAt n 4) 0 := by unfold truncV; rw [hp]; exact if_pos ⟨rfl, rfl⟩
  rw [hv]
  have hd := r_parts' n h0 h1
  rw [call_82]
  simp -implicitDefEqProofs only [go_sem, simprocAttr, Tryz.f82, bne, r_right, r_within, hp, within2, hd, r_Dated, at?, List.length_cons, List.length_nil]
  rw [RL_eq]
  simp -implicitDefEqProofs only [go_sem, simprocAttr, r_Dated, at?]
  rw [RL_eq]
  simp -implicitDefEqProofs only [go_sem, simprocAttr, r_Dated, at?]
theorem r_Truncated3 (n : Int) (s : List UInt8) (hp : plainV ⟨4, n, s⟩ = ⟨4, n, s⟩) (h0 : 0 ≤ n) (h1 : n ≤ 253402300799) : R K (.call 82 [V 4 n s, I 3] []) = some (enc (truncV ⟨4, n, s⟩ 3), []) := by
  have hv : truncV ⟨4, n, s⟩ 3 = dateV (dAt n 0) (dAt n 1) (dAt n 2) (dAt n 3) 0 0 := by unfold truncV; rw [hp]; exact if_pos ⟨rfl, rfl⟩
  rw [hv]
  have hd := r_parts' n h0 h1
  rw [call_82]
  simp -implicitDefEqProofs only [go_sem, simprocAttr, Tryz.f82, bne, r_right, r_within, hp, within3, hd, r_Dated, at?, List.length_cons, List.length_nil]
  rw [RL_eq]
  simp -implicitDefEqProofs only [go_sem, simprocAttr, r_Dated, at?]
  rw [RL_eq]
  simp -implicitDefEqProofs only [go_sem, simprocAttr, r_Dated, at?]
  rw [RL_eq]
  simp -implicitDefEqProofs only [go_sem, simprocAttr, r_Dated, at?]
theorem r_Truncated4 (n : Int) (s : List UInt8) (hp : plainV ⟨4, n, s⟩ = ⟨4, n, s⟩) (h0 : 0 ≤ n) (h1 : n ≤ 253402300799) : R K (.call 82 [V 4 n s, I 4] []) = some (enc (truncV ⟨4, n, s⟩ 4), []) := by
  have hv : truncV ⟨4, n, s⟩ 4 = dateV (dAt n 0) (dAt n 1) (dAt n 2) 0 0 0 := by unfold truncV; rw [hp]; exact if_pos ⟨rfl, rfl⟩
  rw [hv]
  have hd := r_parts' n h0 h1
  rw [call_82]
  simp -implicitDefEqProofs only [go_sem, simprocAttr, Tryz.f82, bne, r_right, r_within, hp, within4, hd, r_Dated, at?, List.length_cons, List.length_nil]
  rw [RL_eq]
  simp -implicitDefEqProofs only [go_sem, simprocAttr, r_Dated, at?]
  rw [RL_eq]
  simp -implicitDefEqProofs only [go_sem, simprocAttr, r_Dated, at?]
  rw [RL_eq]
  simp -implicitDefEqProofs only [go_sem, simprocAttr, r_Dated, at?]
  rw [RL_eq]
  simp -implicitDefEqProofs only [go_sem, simprocAttr, r_Dated, at?]
theorem r_Truncated5 (n : Int) (s : List UInt8) (hp : plainV ⟨4, n, s⟩ = ⟨4, n, s⟩) (h0 : 0 ≤ n) (h1 : n ≤ 253402300799) : R K (.call 82 [V 4 n s, I 5] []) = some (enc (truncV ⟨4, n, s⟩ 5), []) := by
  have hv : truncV ⟨4, n, s⟩ 5 = dateV (dAt n 0) (dAt n 1) 1 0 0 0 := by unfold truncV; rw [hp]; exact if_pos ⟨rfl, rfl⟩
  rw [hv]
  have hd := r_parts' n h0 h1
  rw [call_82]
  simp -implicitDefEqProofs only [go_sem, simprocAttr, Tryz.f82, bne, r_right, r_within, hp, within5, hd, r_Dated, at?, List.length_cons, List.length_nil]
  rw [RL_eq]
  simp -implicitDefEqProofs only [go_sem, simprocAttr, r_Dated, at?]
  rw [RL_eq]
  simp -implicitDefEqProofs only [go_sem, simprocAttr, r_Dated, at?]
  rw [RL_eq]
  simp -implicitDefEqProofs only [go_sem, simprocAttr, r_Dated, at?]
  rw [RL_eq]
  simp -implicitDefEqProofs only [go_sem, simprocAttr, r_Dated, at?]
  rw [RL_eq]
  simp -implicitDefEqProofs only [go_sem, simprocAttr, r_Dated, at?]
theorem r_Truncated6 (n : Int) (s : List UInt8) (hp : plainV ⟨4, n, s⟩ = ⟨4, n, s⟩) (h0 : 0 ≤ n) (h1 : n ≤ 253402300799) : R K (.call 82 [V 4 n s, I 6] []) = some (enc (truncV ⟨4, n, s⟩ 6), []) := by
  have hv : truncV ⟨4, n, s⟩ 6 = dateV (dAt n 0) 1 1 0 0 0 := by unfold truncV; rw [hp]; exact if_pos ⟨rfl, rfl⟩
  rw [hv]
  have hd := r_parts' n h0 h1
  rw [call_82]
  simp -implicitDefEqProofs only [go_sem, simprocAttr, Tryz.f82, bne, r_right, r_within, hp, within6, hd, r_Dated, at?, List.length_cons, List.length_nil]
  rw [RL_eq]
  simp -implicitDefEqProofs only [go_sem, simprocAttr, r_Dated, at?]
  rw [RL_eq]
  simp -implicitDefEqProofs only [go_sem, simprocAttr, r_Dated, at?]
  rw [RL_eq]
  simp -implicitDefEqProofs only [go_sem, simprocAttr, r_Dated, at?]
  rw [RL_eq]
  simp -implicitDefEqProofs only [go_sem, simprocAttr, r_Dated, at?]
  rw [RL_eq]
  simp -implicitDefEqProofs only [go_sem, simprocAttr, r_Dated, at?]
  rw [RL_eq]
  simp -implicitDefEqProofs only [go_sem, simprocAttr, r_Dated, at?]
theorem r_Truncated (k n : Int) (s : List UInt8) (u : Int) : R K (.call 82 [V k n s, I u] []) = some (enc (truncV ⟨k, n, s⟩ u), []) := by
  by_cases hk : (plainV ⟨k, n, s⟩).k = 4
  · have hp := plain_full (v := ⟨k, n, s⟩) (by rw [hk]; decide)
    have hb := right_bounds ⟨k, n, s⟩
    simp only [] at hb
    have hb := hb.2.2.2.2.2.2.2.2 hk
    rw [hp] at hk hb
    have hk : k = 4 := hk
    subst hk
    by_cases hu : within u 1 6 = true
    · rcases six hu with q | q | q | q | q | q <;> subst q
      · exact r_Truncated1 n s hp hb.1 hb.2
      · exact r_Truncated2 n s hp hb.1 hb.2
      · exact r_Truncated3 n s hp hb.1 hb.2
      · exact r_Truncated4 n s hp hb.1 hb.2
      · exact r_Truncated5 n s hp hb.1 hb.2
      · exact r_Truncated6 n s hp hb.1 hb.2
    · have hv : truncV ⟨4, n, s⟩ u = null := if_neg (fun h => hu h.2)
      have hu' : within u 1 6 = false := by simpa using hu
      rw [hv]
      rw [call_82]
      simp -implicitDefEqProofs only [go_sem, simprocAttr, Tryz.f82, bne, r_right, r_within, hp, hu']
      all_goals rfl
  · have hv : truncV ⟨k, n, s⟩ u = null := if_neg (fun h => hk h.1)
    have hk' : ((plainV ⟨k, n, s⟩).k == 4) = false := beq_eq_false_iff_ne.2 hk
    rw [hv]
    rw [call_82]
    simp -implicitDefEqProofs only [go_sem, simprocAttr, Tryz.f82, bne, r_right, r_within, hk']
    all_goals rfl
theorem not_bool (b : Bool) : notS (boolV b) = boolV (!b) := by cases b <;> rfl
theorem not_null : notS null = null := rfl
theorem cmpI_turn (a b : Int) : cmpI b a = - cmpI a b := by unfold cmpI; split <;> (try split) <;> (try split) <;> omega
theorem compareBytes_turn : ∀ a b : List UInt8, Lib.compareBytes b a = - Lib.compareBytes a b
  | [], [] => by simp [Lib.compareBytes]
  | [], _ :: _ => by simp [Lib.compareBytes]
  | _ :: _, [] => by simp [Lib.compareBytes]
  | a :: x, b :: y => by
    have ih := compareBytes_turn x y
    simp only [Lib.compareBytes]
    by_cases h1 : a < b
    · have h2 : ¬ b < a := fun h => by rw [UInt8.lt_iff_toNat_lt] at h h1; omega
      simp [h1, h2]
    · by_cases h2 : b < a
      · simp [h1, h2]
      · simp [h1, h2, ih]
theorem compared_turn (a b : Val) : comparedS b a = - comparedS a b := by
  unfold comparedS
  rw [cmpI_turn (plainV a).k (plainV b).k]
  by_cases h : cmpI (plainV a).k (plainV b).k = 0
  · have hk := (cmpI_zero _ _).1 h
    rw [h]
    simp only [Int.neg_zero, ne_eq, not_true_eq_false, if_false]
    rw [← hk]
    split
    · exact compareBytes_turn _ _
    · exact cmpI_turn _ _
  · have h' : - cmpI (plainV a).k (plainV b).k ≠ 0 := by omega
    rw [if_pos h, if_pos h']
theorem alike_turn (a b : Val) : alikeB b a = alikeB a b := by
  unfold alikeB
  by_cases h : a.k = b.k
  · rw [h]
  · have h1 : (a.k == b.k) = false := beq_eq_false_iff_ne.2 h
    have h2 : (b.k == a.k) = false := beq_eq_false_iff_ne.2 (fun e => h e.symm)
    rw [h1, h2]; rfl
theorem not_if (c : Bool) (x : Bool) : notS (if c = true then boolV x else null) = if c = true then boolV (!x) else null := by
  cases c
  · exact not_null
  · exact not_bool x
theorem law5 (a b : Val) : notS (equalS a b) = if alikeB (plainV a) (plainV b) = true then boolV (comparedS (plainV a) (plainV b) != 0) else null := by
  rw [equal_law, not_if]
  rfl
theorem law8 (a b : Val) : lessS b a = if alikeB (plainV a) (plainV b) = true then boolV (decide (0 < comparedS (plainV a) (plainV b))) else null := by
  rw [less_law, alike_turn, compared_turn]
  have : decide (-comparedS (plainV a) (plainV b) < 0) = decide (0 < comparedS (plainV a) (plainV b)) := by rw [decide_eq_decide]; omega
  rw [this]
theorem law7 (a b : Val) : notS (lessS b a) = if alikeB (plainV a) (plainV b) = true then boolV (decide (comparedS (plainV a) (plainV b) ≤ 0)) else null := by
  rw [law8, not_if]
  have : (!decide (0 < comparedS (plainV a) (plainV b))) = decide (comparedS (plainV a) (plainV b) ≤ 0) := by rw [← decide_not, decide_eq_decide]; omega
  rw [this]
theorem law9 (a b : Val) : notS (lessS a b) = if alikeB (plainV a) (plainV b) = true then boolV (decide (0 ≤ comparedS (plainV a) (plainV b))) else null := by
  rw [less_law, not_if]
  have : (!decide (comparedS (plainV a) (plainV b) < 0)) = decide (0 ≤ comparedS (plainV a) (plainV b)) := by rw [← decide_not, decide_eq_decide]; omega
  rw [this]
def coalV : List Val → Val
  | [] => null
  | v :: r => if (plainV v).k = 0 then coalV r else v
def caseR (d : Val) : List Val → Val
  | c :: v :: r => if isS c true = true then plainV v else caseR d r
  | _ => plainV d
theorem tri_two (v : Val) : (tri v == 2) = isS v true := by
  unfold tri isS
  by_cases h : v = boolV true
  · simp [h]
  · by_cases h2 : v = boolV false
    · subst h2; rfl
    · simp [h, h2]
def inR (a : Val) : List Val → Val → Val
  | [], out => out
  | b :: r, out => inR a r (orS out (equalS a b))
def maxR (a : Val) : List Val → Int → Int
  | [], m => m
  | b :: r, m => maxR a r (if m < tri (equalS a b) then tri (equalS a b) else m)
theorem tri_from {m : Int} (h : 0 ≤ m ∧ m ≤ 2) : tri (plainV (fromTri m)) = m := by
  have : m = 0 ∨ m = 1 ∨ m = 2 := by omega
  rcases this with rfl | rfl | rfl <;> rfl
theorem equal_plain (a b : Val) : plainV (equalS a b) = equalS a b := by
  unfold equalS
  split
  · generalize decide (a = b) = c
    cases c <;> rfl
  · rfl
theorem in_law (a : Val) : ∀ (l : List Val) (m : Int), 0 ≤ m ∧ m ≤ 2 → inR a l (fromTri m) = fromTri (maxR a l m)
  | [], _, _ => rfl
  | b :: r, m, h => by
    have hb := tri_bounds (equalS a b)
    simp only [inR, maxR]
    rw [or_law, tri_from h, equal_plain]
    refine in_law a r _ ?_
    split <;> omega
theorem c_O1 (n : Int) (k1 n1 : Int) (s1 : List UInt8) : R K (.call 162 [I 1, I n, .rows [[.int .i64 k1, .int .i64 n1, .str s1]]] []) = some (enc (notS ⟨k1, n1, s1⟩), []) := by
  rw [call_162]
  simp -implicitDefEqProofs only [go_sem, simprocAttr, Tryz.f162, c_Not, at?]
theorem c_O11 (n : Int) (k1 n1 : Int) (s1 : List UInt8) : R K (.call 162 [I 11, I n, .rows [[.int .i64 k1, .int .i64 n1, .str s1]]] []) = some (enc (boolV ((plainV ⟨k1, n1, s1⟩).k == 0)), []) := by
  rw [call_162]
  simp -implicitDefEqProofs only [go_sem, simprocAttr, Tryz.f162, c_plain, c_boolean, at?]
theorem c_O17 (n : Int) (k1 n1 : Int) (s1 : List UInt8) : R K (.call 162 [I 17, I n, .rows [[.int .i64 k1, .int .i64 n1, .str s1]]] []) = some (enc (negS ⟨k1, n1, s1⟩), []) := by
  rw [call_162]
  simp -implicitDefEqProofs only [go_sem, simprocAttr, Tryz.f162, c_Neg, at?]
theorem c_O20 (n : Int) (k1 n1 : Int) (s1 : List UInt8) : R K (.call 162 [I 20, I n, .rows [[.int .i64 k1, .int .i64 n1, .str s1]]] []) = some (enc (lowerS ⟨k1, n1, s1⟩), []) := by
  rw [call_162]
  simp -implicitDefEqProofs only [go_sem, simprocAttr, Tryz.f162, c_Lower, at?]
theorem c_O21 (n : Int) (k1 n1 : Int) (s1 : List UInt8) : R K (.call 162 [I 21, I n, .rows [[.int .i64 k1, .int .i64 n1, .str s1]]] []) = some (enc (upperS ⟨k1, n1, s1⟩), []) := by
  rw [call_162]
  simp -implicitDefEqProofs only [go_sem, simprocAttr, Tryz.f162, c_Upper, at?]
theorem c_O22 (n : Int) (k1 n1 : Int) (s1 : List UInt8) : R K (.call 162 [I 22, I n, .rows [[.int .i64 k1, .int .i64 n1, .str s1]]] []) = some (enc (lengthS ⟨k1, n1, s1⟩), []) := by
  rw [call_162]
  simp -implicitDefEqProofs only [go_sem, simprocAttr, Tryz.f162, c_Length, at?]
theorem c_O25 (n : Int) (k1 n1 : Int) (s1 : List UInt8) : R K (.call 162 [I 25, I n, .rows [[.int .i64 k1, .int .i64 n1, .str s1]]] []) = some (enc (truncV ⟨k1, n1, s1⟩ n), []) := by
  rw [call_162]
  simp -implicitDefEqProofs only [go_sem, simprocAttr, Tryz.f162, c_Trunc, at?]
theorem c_O26 (n : Int) (k1 n1 : Int) (s1 : List UInt8) : R K (.call 162 [I 26, I n, .rows [[.int .i64 k1, .int .i64 n1, .str s1]]] []) = some (enc (unitV ⟨k1, n1, s1⟩ n), []) := by
  rw [call_162]
  simp -implicitDefEqProofs only [go_sem, simprocAttr, Tryz.f162, c_Unit, at?]
theorem c_O27 (n : Int) (k1 n1 : Int) (s1 : List UInt8) : R K (.call 162 [I 27, I n, .rows [[.int .i64 k1, .int .i64 n1, .str s1]]] []) = some (enc (castS ⟨k1, n1, s1⟩ n), []) := by
  rw [call_162]
  simp -implicitDefEqProofs only [go_sem, simprocAttr, Tryz.f162, c_Cast, at?]
theorem c_O2 (n : Int) (k1 n1 : Int) (s1 : List UInt8) (k2 n2 : Int) (s2 : List UInt8) : R K (.call 162 [I 2, I n, .rows [[.int .i64 k1, .int .i64 n1, .str s1], [.int .i64 k2, .int .i64 n2, .str s2]]] []) = some (enc (andS ⟨k1, n1, s1⟩ ⟨k2, n2, s2⟩), []) := by
  rw [call_162]
  simp -implicitDefEqProofs only [go_sem, simprocAttr, Tryz.f162, c_And, at?]
theorem c_O3 (n : Int) (k1 n1 : Int) (s1 : List UInt8) (k2 n2 : Int) (s2 : List UInt8) : R K (.call 162 [I 3, I n, .rows [[.int .i64 k1, .int .i64 n1, .str s1], [.int .i64 k2, .int .i64 n2, .str s2]]] []) = some (enc (orS ⟨k1, n1, s1⟩ ⟨k2, n2, s2⟩), []) := by
  rw [call_162]
  simp -implicitDefEqProofs only [go_sem, simprocAttr, Tryz.f162, c_Or, at?]
theorem c_O4 (n : Int) (k1 n1 : Int) (s1 : List UInt8) (k2 n2 : Int) (s2 : List UInt8) : R K (.call 162 [I 4, I n, .rows [[.int .i64 k1, .int .i64 n1, .str s1], [.int .i64 k2, .int .i64 n2, .str s2]]] []) = some (enc (equalS ⟨k1, n1, s1⟩ ⟨k2, n2, s2⟩), []) := by
  rw [call_162]
  simp -implicitDefEqProofs only [go_sem, simprocAttr, Tryz.f162, c_Equal, at?]
theorem c_O5 (n : Int) (k1 n1 : Int) (s1 : List UInt8) (k2 n2 : Int) (s2 : List UInt8) : R K (.call 162 [I 5, I n, .rows [[.int .i64 k1, .int .i64 n1, .str s1], [.int .i64 k2, .int .i64 n2, .str s2]]] []) = some (enc (notS (equalS ⟨k1, n1, s1⟩ ⟨k2, n2, s2⟩)), []) := by
  rw [call_162]
  simp -implicitDefEqProofs only [go_sem, simprocAttr, Tryz.f162, c_Equal, c_Not, at?]
theorem c_O6 (n : Int) (k1 n1 : Int) (s1 : List UInt8) (k2 n2 : Int) (s2 : List UInt8) : R K (.call 162 [I 6, I n, .rows [[.int .i64 k1, .int .i64 n1, .str s1], [.int .i64 k2, .int .i64 n2, .str s2]]] []) = some (enc (lessS ⟨k1, n1, s1⟩ ⟨k2, n2, s2⟩), []) := by
  rw [call_162]
  simp -implicitDefEqProofs only [go_sem, simprocAttr, Tryz.f162, c_Less, at?]
theorem c_O7 (n : Int) (k1 n1 : Int) (s1 : List UInt8) (k2 n2 : Int) (s2 : List UInt8) : R K (.call 162 [I 7, I n, .rows [[.int .i64 k1, .int .i64 n1, .str s1], [.int .i64 k2, .int .i64 n2, .str s2]]] []) = some (enc (notS (lessS ⟨k2, n2, s2⟩ ⟨k1, n1, s1⟩)), []) := by
  rw [call_162]
  simp -implicitDefEqProofs only [go_sem, simprocAttr, Tryz.f162, c_Less, c_Not, at?]
theorem c_O8 (n : Int) (k1 n1 : Int) (s1 : List UInt8) (k2 n2 : Int) (s2 : List UInt8) : R K (.call 162 [I 8, I n, .rows [[.int .i64 k1, .int .i64 n1, .str s1], [.int .i64 k2, .int .i64 n2, .str s2]]] []) = some (enc (lessS ⟨k2, n2, s2⟩ ⟨k1, n1, s1⟩), []) := by
  rw [call_162]
  simp -implicitDefEqProofs only [go_sem, simprocAttr, Tryz.f162, c_Less, at?]
theorem c_O9 (n : Int) (k1 n1 : Int) (s1 : List UInt8) (k2 n2 : Int) (s2 : List UInt8) : R K (.call 162 [I 9, I n, .rows [[.int .i64 k1, .int .i64 n1, .str s1], [.int .i64 k2, .int .i64 n2, .str s2]]] []) = some (enc (notS (lessS ⟨k1, n1, s1⟩ ⟨k2, n2, s2⟩)), []) := by
  rw [call_162]
  simp -implicitDefEqProofs only [go_sem, simprocAttr, Tryz.f162, c_Less, c_Not, at?]
theorem c_O10 (n : Int) (k1 n1 : Int) (s1 : List UInt8) (k2 n2 : Int) (s2 : List UInt8) : R K (.call 162 [I 10, I n, .rows [[.int .i64 k1, .int .i64 n1, .str s1], [.int .i64 k2, .int .i64 n2, .str s2]]] []) = some (enc (sameS ⟨k1, n1, s1⟩ ⟨k2, n2, s2⟩), []) := by
  rw [call_162]
  simp -implicitDefEqProofs only [go_sem, simprocAttr, Tryz.f162, c_Same, at?]
theorem c_O12 (n : Int) (k1 n1 : Int) (s1 : List UInt8) (k2 n2 : Int) (s2 : List UInt8) : R K (.call 162 [I 12, I n, .rows [[.int .i64 k1, .int .i64 n1, .str s1], [.int .i64 k2, .int .i64 n2, .str s2]]] []) = some (enc (addS ⟨k1, n1, s1⟩ ⟨k2, n2, s2⟩), []) := by
  rw [call_162]
  simp -implicitDefEqProofs only [go_sem, simprocAttr, Tryz.f162, c_Add, at?]
theorem c_O13 (n : Int) (k1 n1 : Int) (s1 : List UInt8) (k2 n2 : Int) (s2 : List UInt8) : R K (.call 162 [I 13, I n, .rows [[.int .i64 k1, .int .i64 n1, .str s1], [.int .i64 k2, .int .i64 n2, .str s2]]] []) = some (enc (subS ⟨k1, n1, s1⟩ ⟨k2, n2, s2⟩), []) := by
  rw [call_162]
  simp -implicitDefEqProofs only [go_sem, simprocAttr, Tryz.f162, c_Sub, at?]
theorem c_O14 (n : Int) (k1 n1 : Int) (s1 : List UInt8) (k2 n2 : Int) (s2 : List UInt8) : R K (.call 162 [I 14, I n, .rows [[.int .i64 k1, .int .i64 n1, .str s1], [.int .i64 k2, .int .i64 n2, .str s2]]] []) = some (enc (mulS ⟨k1, n1, s1⟩ ⟨k2, n2, s2⟩), []) := by
  rw [call_162]
  simp -implicitDefEqProofs only [go_sem, simprocAttr, Tryz.f162, c_Mul, at?]
theorem c_O15 (n : Int) (k1 n1 : Int) (s1 : List UInt8) (k2 n2 : Int) (s2 : List UInt8) : R K (.call 162 [I 15, I n, .rows [[.int .i64 k1, .int .i64 n1, .str s1], [.int .i64 k2, .int .i64 n2, .str s2]]] []) = some (enc (divS ⟨k1, n1, s1⟩ ⟨k2, n2, s2⟩), []) := by
  rw [call_162]
  simp -implicitDefEqProofs only [go_sem, simprocAttr, Tryz.f162, c_Div, at?]
theorem c_O16 (n : Int) (k1 n1 : Int) (s1 : List UInt8) (k2 n2 : Int) (s2 : List UInt8) : R K (.call 162 [I 16, I n, .rows [[.int .i64 k1, .int .i64 n1, .str s1], [.int .i64 k2, .int .i64 n2, .str s2]]] []) = some (enc (modS ⟨k1, n1, s1⟩ ⟨k2, n2, s2⟩), []) := by
  rw [call_162]
  simp -implicitDefEqProofs only [go_sem, simprocAttr, Tryz.f162, c_Mod, at?]
theorem c_O18 (n : Int) (k1 n1 : Int) (s1 : List UInt8) (k2 n2 : Int) (s2 : List UInt8) : R K (.call 162 [I 18, I n, .rows [[.int .i64 k1, .int .i64 n1, .str s1], [.int .i64 k2, .int .i64 n2, .str s2]]] []) = some (enc (concatS ⟨k1, n1, s1⟩ ⟨k2, n2, s2⟩), []) := by
  rw [call_162]
  simp -implicitDefEqProofs only [go_sem, simprocAttr, Tryz.f162, c_Concat, at?]
theorem c_O19 (n : Int) (k1 n1 : Int) (s1 : List UInt8) (k2 n2 : Int) (s2 : List UInt8) : R K (.call 162 [I 19, I n, .rows [[.int .i64 k1, .int .i64 n1, .str s1], [.int .i64 k2, .int .i64 n2, .str s2]]] []) = some (enc (likeV ⟨k1, n1, s1⟩ ⟨k2, n2, s2⟩), []) := by
  rw [call_162]
  simp -implicitDefEqProofs only [go_sem, simprocAttr, Tryz.f162, c_Like, at?]
theorem c_O23 (n : Int) (k1 n1 : Int) (s1 : List UInt8) (k2 n2 : Int) (s2 : List UInt8) (k3 n3 : Int) (s3 : List UInt8) : R K (.call 162 [I 23, I n, .rows [[.int .i64 k1, .int .i64 n1, .str s1], [.int .i64 k2, .int .i64 n2, .str s2], [.int .i64 k3, .int .i64 n3, .str s3]]] []) = some (enc (partS ⟨k1, n1, s1⟩ ⟨k2, n2, s2⟩ ⟨k3, n3, s3⟩), []) := by
  rw [call_162]
  simp -implicitDefEqProofs only [go_sem, simprocAttr, Tryz.f162, c_Part, at?]
theorem unit_plain (a : Val) (u : Int) : unitV (plainV a) u = unitV a u := by
  unfold unitV
  rw [plain_plain]
  by_cases h : (plainV a).k = 4
  · rw [plain_full (v := a) (by rw [h]; decide)]
  · rw [if_neg (fun e => h e.1), if_neg (fun e => h e.1)]
theorem trunc_plain (a : Val) (u : Int) : truncV (plainV a) u = truncV a u := by
  unfold truncV
  rw [plain_plain]
  by_cases h : (plainV a).k = 4
  · rw [plain_full (v := a) (by rw [h]; decide)]
  · rw [if_neg (fun e => h e.1), if_neg (fun e => h e.1)]
theorem casted_plain (a : Val) (k : Int) : castedS (plainV a) k = castedS a k := by
  unfold castedS
  rw [plain_plain]
theorem r_O1 (n : Int) (k1 n1 : Int) (s1 : List UInt8) : R K (.call 21 [I 1, I n, .rows [[.int .i64 k1, .int .i64 n1, .str s1]]] []) = some (enc (notS ⟨k1, n1, s1⟩), []) := by
  have hb := tri_bounds (plainV ⟨k1, n1, s1⟩)
  have hw : wrapI .i64 (2 - tri (plainV ⟨k1, n1, s1⟩)) = 2 - tri (plainV ⟨k1, n1, s1⟩) := wrap_id (by omega) (by omega)
  rw [not_law]
  rw [call_21]
  simp -implicitDefEqProofs only [go_sem, simprocAttr, Tryz.f21]
  rw [RL_eq]
  simp -implicitDefEqProofs only [go_sem, simprocAttr, r_right, at?]
  rw [RL_eq]
  simp -implicitDefEqProofs only [go_sem, simprocAttr, hw, r_right, at?, r_third, r_fromThird]
theorem r_O11 (n : Int) (k1 n1 : Int) (s1 : List UInt8) : R K (.call 21 [I 11, I n, .rows [[.int .i64 k1, .int .i64 n1, .str s1]]] []) = some (enc (boolV ((plainV ⟨k1, n1, s1⟩).k == 0)), []) := by
  rw [call_21]
  simp -implicitDefEqProofs only [go_sem, simprocAttr, Tryz.f21]
  rw [RL_eq]
  simp -implicitDefEqProofs only [go_sem, simprocAttr, r_right, at?]
  rw [RL_eq]
  simp -implicitDefEqProofs only [go_sem, simprocAttr, r_right, at?, r_Truth]
theorem r_O17 (n : Int) (k1 n1 : Int) (s1 : List UInt8) : R K (.call 21 [I 17, I n, .rows [[.int .i64 k1, .int .i64 n1, .str s1]]] []) = some (enc (negS ⟨k1, n1, s1⟩), []) := by
  rw [neg_law]
  rw [call_21]
  simp -implicitDefEqProofs only [go_sem, simprocAttr, Tryz.f21]
  rw [RL_eq]
  simp -implicitDefEqProofs only [go_sem, simprocAttr, r_right, at?]
  rw [RL_eq]
  simp -implicitDefEqProofs only [go_sem, simprocAttr, r_right, at?, r_Number, r_arith13]
theorem r_O20 (n : Int) (k1 n1 : Int) (s1 : List UInt8) : R K (.call 21 [I 20, I n, .rows [[.int .i64 k1, .int .i64 n1, .str s1]]] []) = some (enc (lowerS ⟨k1, n1, s1⟩), []) := by
  rw [lower_law ⟨k1, n1, s1⟩ null null, show plainV null = null from rfl]
  have ht := r_texts20 (plainV ⟨k1, n1, s1⟩).k (plainV ⟨k1, n1, s1⟩).n (plainV ⟨k1, n1, s1⟩).s 0 0 [] 0 0 [] (plain3 _)
  rw [call_21]
  simp -implicitDefEqProofs only [go_sem, simprocAttr, Tryz.f21]
  rw [RL_eq]
  simp -implicitDefEqProofs only [go_sem, simprocAttr, r_right, at?]
  rw [RL_eq]
  simp -implicitDefEqProofs only [go_sem, simprocAttr, r_right, at?, ht]
  rfl
theorem r_O21 (n : Int) (k1 n1 : Int) (s1 : List UInt8) : R K (.call 21 [I 21, I n, .rows [[.int .i64 k1, .int .i64 n1, .str s1]]] []) = some (enc (upperS ⟨k1, n1, s1⟩), []) := by
  rw [upper_law ⟨k1, n1, s1⟩ null null, show plainV null = null from rfl]
  have ht := r_texts21 (plainV ⟨k1, n1, s1⟩).k (plainV ⟨k1, n1, s1⟩).n (plainV ⟨k1, n1, s1⟩).s 0 0 [] 0 0 [] (plain3 _)
  rw [call_21]
  simp -implicitDefEqProofs only [go_sem, simprocAttr, Tryz.f21]
  rw [RL_eq]
  simp -implicitDefEqProofs only [go_sem, simprocAttr, r_right, at?]
  rw [RL_eq]
  simp -implicitDefEqProofs only [go_sem, simprocAttr, r_right, at?, ht]
  rfl
theorem r_O22 (n : Int) (k1 n1 : Int) (s1 : List UInt8) : R K (.call 21 [I 22, I n, .rows [[.int .i64 k1, .int .i64 n1, .str s1]]] []) = some (enc (lengthS ⟨k1, n1, s1⟩), []) := by
  rw [length_law ⟨k1, n1, s1⟩ null null, show plainV null = null from rfl]
  have ht := r_texts22 (plainV ⟨k1, n1, s1⟩).k (plainV ⟨k1, n1, s1⟩).n (plainV ⟨k1, n1, s1⟩).s 0 0 [] 0 0 []
  rw [call_21]
  simp -implicitDefEqProofs only [go_sem, simprocAttr, Tryz.f21]
  rw [RL_eq]
  simp -implicitDefEqProofs only [go_sem, simprocAttr, r_right, at?]
  rw [RL_eq]
  simp -implicitDefEqProofs only [go_sem, simprocAttr, r_right, at?, ht]
  rfl
theorem r_O25 (n : Int) (k1 n1 : Int) (s1 : List UInt8) : R K (.call 21 [I 25, I n, .rows [[.int .i64 k1, .int .i64 n1, .str s1]]] []) = some (enc (truncV ⟨k1, n1, s1⟩ n), []) := by
  rw [← trunc_plain]
  rw [call_21]
  simp -implicitDefEqProofs only [go_sem, simprocAttr, Tryz.f21]
  rw [RL_eq]
  simp -implicitDefEqProofs only [go_sem, simprocAttr, r_right, at?]
  rw [RL_eq]
  simp -implicitDefEqProofs only [go_sem, simprocAttr, r_right, at?, r_Truncated]
theorem r_O26 (n : Int) (k1 n1 : Int) (s1 : List UInt8) : R K (.call 21 [I 26, I n, .rows [[.int .i64 k1, .int .i64 n1, .str s1]]] []) = some (enc (unitV ⟨k1, n1, s1⟩ n), []) := by
  rw [← unit_plain]
  rw [call_21]
  simp -implicitDefEqProofs only [go_sem, simprocAttr, Tryz.f21]
  rw [RL_eq]
  simp -implicitDefEqProofs only [go_sem, simprocAttr, r_right, at?]
  rw [RL_eq]
  simp -implicitDefEqProofs only [go_sem, simprocAttr, r_right, at?, r_UnitOf]
theorem r_O27 (n : Int) (k1 n1 : Int) (s1 : List UInt8) : R K (.call 21 [I 27, I n, .rows [[.int .i64 k1, .int .i64 n1, .str s1]]] []) = some (enc (castS ⟨k1, n1, s1⟩ n), []) := by
  rw [← cast_law]
  rw [call_21]
  simp -implicitDefEqProofs only [go_sem, simprocAttr, Tryz.f21]
  rw [RL_eq]
  simp -implicitDefEqProofs only [go_sem, simprocAttr, r_right, at?]
  rw [RL_eq]
  simp -implicitDefEqProofs only [go_sem, simprocAttr, r_right, at?, r_Casted]
  rw [casted_plain]
theorem r_O5 (n : Int) (k1 n1 : Int) (s1 : List UInt8) (k2 n2 : Int) (s2 : List UInt8) : R K (.call 21 [I 5, I n, .rows [[.int .i64 k1, .int .i64 n1, .str s1], [.int .i64 k2, .int .i64 n2, .str s2]]] []) = some (enc (notS (equalS ⟨k1, n1, s1⟩ ⟨k2, n2, s2⟩)), []) := by
  rw [law5]
  rw [call_21]
  simp -implicitDefEqProofs only [go_sem, simprocAttr, Tryz.f21]
  rw [RL_eq]
  simp -implicitDefEqProofs only [go_sem, simprocAttr, r_right, at?]
  rw [RL_eq]
  simp -implicitDefEqProofs only [go_sem, simprocAttr, r_right, at?]
  rw [RL_eq]
  simp -implicitDefEqProofs only [go_sem, simprocAttr, r_right, at?, r_third, r_fromThird, r_Compared, r_Truth, r_alike]
  repeat' ((first | apply split_cond | apply split_yes | apply split_no) <;> intro hc <;> simp -implicitDefEqProofs only [hc, go_sem, simprocAttr, r_right, at?, r_third, r_fromThird, r_Compared, r_Truth, r_alike])
  all_goals simp_all [null]
theorem r_O7 (n : Int) (k1 n1 : Int) (s1 : List UInt8) (k2 n2 : Int) (s2 : List UInt8) : R K (.call 21 [I 7, I n, .rows [[.int .i64 k1, .int .i64 n1, .str s1], [.int .i64 k2, .int .i64 n2, .str s2]]] []) = some (enc (notS (lessS ⟨k2, n2, s2⟩ ⟨k1, n1, s1⟩)), []) := by
  rw [law7]
  rw [call_21]
  simp -implicitDefEqProofs only [go_sem, simprocAttr, Tryz.f21]
  rw [RL_eq]
  simp -implicitDefEqProofs only [go_sem, simprocAttr, r_right, at?]
  rw [RL_eq]
  simp -implicitDefEqProofs only [go_sem, simprocAttr, r_right, at?]
  rw [RL_eq]
  simp -implicitDefEqProofs only [go_sem, simprocAttr, r_right, at?, r_third, r_fromThird, r_Compared, r_Truth, r_alike]
  repeat' ((first | apply split_cond | apply split_yes | apply split_no) <;> intro hc <;> simp -implicitDefEqProofs only [hc, go_sem, simprocAttr, r_right, at?, r_third, r_fromThird, r_Compared, r_Truth, r_alike])
  all_goals simp_all [null]
theorem r_O8 (n : Int) (k1 n1 : Int) (s1 : List UInt8) (k2 n2 : Int) (s2 : List UInt8) : R K (.call 21 [I 8, I n, .rows [[.int .i64 k1, .int .i64 n1, .str s1], [.int .i64 k2, .int .i64 n2, .str s2]]] []) = some (enc (lessS ⟨k2, n2, s2⟩ ⟨k1, n1, s1⟩), []) := by
  rw [law8]
  rw [call_21]
  simp -implicitDefEqProofs only [go_sem, simprocAttr, Tryz.f21]
  rw [RL_eq]
  simp -implicitDefEqProofs only [go_sem, simprocAttr, r_right, at?]
  rw [RL_eq]
  simp -implicitDefEqProofs only [go_sem, simprocAttr, r_right, at?]
  rw [RL_eq]
  simp -implicitDefEqProofs only [go_sem, simprocAttr, r_right, at?, r_third, r_fromThird, r_Compared, r_Truth, r_alike]
  repeat' ((first | apply split_cond | apply split_yes | apply split_no) <;> intro hc <;> simp -implicitDefEqProofs only [hc, go_sem, simprocAttr, r_right, at?, r_third, r_fromThird, r_Compared, r_Truth, r_alike])
  all_goals simp_all [null]
theorem r_O9 (n : Int) (k1 n1 : Int) (s1 : List UInt8) (k2 n2 : Int) (s2 : List UInt8) : R K (.call 21 [I 9, I n, .rows [[.int .i64 k1, .int .i64 n1, .str s1], [.int .i64 k2, .int .i64 n2, .str s2]]] []) = some (enc (notS (lessS ⟨k1, n1, s1⟩ ⟨k2, n2, s2⟩)), []) := by
  rw [law9]
  rw [call_21]
  simp -implicitDefEqProofs only [go_sem, simprocAttr, Tryz.f21]
  rw [RL_eq]
  simp -implicitDefEqProofs only [go_sem, simprocAttr, r_right, at?]
  rw [RL_eq]
  simp -implicitDefEqProofs only [go_sem, simprocAttr, r_right, at?]
  rw [RL_eq]
  simp -implicitDefEqProofs only [go_sem, simprocAttr, r_right, at?, r_third, r_fromThird, r_Compared, r_Truth, r_alike]
  repeat' ((first | apply split_cond | apply split_yes | apply split_no) <;> intro hc <;> simp -implicitDefEqProofs only [hc, go_sem, simprocAttr, r_right, at?, r_third, r_fromThird, r_Compared, r_Truth, r_alike])
  all_goals simp_all [null]
theorem r_O18 (n : Int) (k1 n1 : Int) (s1 : List UInt8) (k2 n2 : Int) (s2 : List UInt8) : R K (.call 21 [I 18, I n, .rows [[.int .i64 k1, .int .i64 n1, .str s1], [.int .i64 k2, .int .i64 n2, .str s2]]] []) = some (enc (concatS ⟨k1, n1, s1⟩ ⟨k2, n2, s2⟩), []) := by
  rw [concat_law ⟨k1, n1, s1⟩ ⟨k2, n2, s2⟩ null, show plainV null = null from rfl]
  have ht := r_texts18 (plainV ⟨k1, n1, s1⟩).k (plainV ⟨k1, n1, s1⟩).n (plainV ⟨k1, n1, s1⟩).s (plainV ⟨k2, n2, s2⟩).k (plainV ⟨k2, n2, s2⟩).n (plainV ⟨k2, n2, s2⟩).s 0 0 [] (fun h h' => ⟨(plain3 _ h).1, (plain3 _ h').1⟩)
  rw [call_21]
  simp -implicitDefEqProofs only [go_sem, simprocAttr, Tryz.f21]
  rw [RL_eq]
  simp -implicitDefEqProofs only [go_sem, simprocAttr, r_right, at?]
  rw [RL_eq]
  simp -implicitDefEqProofs only [go_sem, simprocAttr, r_right, at?]
  rw [RL_eq]
  simp -implicitDefEqProofs only [go_sem, simprocAttr, r_right, at?, ht]
  rfl
theorem r_O2 (n : Int) (k1 n1 : Int) (s1 : List UInt8) (k2 n2 : Int) (s2 : List UInt8) : R K (.call 21 [I 2, I n, .rows [[.int .i64 k1, .int .i64 n1, .str s1], [.int .i64 k2, .int .i64 n2, .str s2]]] []) = some (enc (andS ⟨k1, n1, s1⟩ ⟨k2, n2, s2⟩), []) := by
  rw [r_Oper2, ← and_law]
theorem r_O3 (n : Int) (k1 n1 : Int) (s1 : List UInt8) (k2 n2 : Int) (s2 : List UInt8) : R K (.call 21 [I 3, I n, .rows [[.int .i64 k1, .int .i64 n1, .str s1], [.int .i64 k2, .int .i64 n2, .str s2]]] []) = some (enc (orS ⟨k1, n1, s1⟩ ⟨k2, n2, s2⟩), []) := by
  rw [r_Oper3, ← or_law]
theorem r_O4 (n : Int) (k1 n1 : Int) (s1 : List UInt8) (k2 n2 : Int) (s2 : List UInt8) : R K (.call 21 [I 4, I n, .rows [[.int .i64 k1, .int .i64 n1, .str s1], [.int .i64 k2, .int .i64 n2, .str s2]]] []) = some (enc (equalS ⟨k1, n1, s1⟩ ⟨k2, n2, s2⟩), []) := by
  rw [r_Oper4, ← equal_law]
theorem r_O6 (n : Int) (k1 n1 : Int) (s1 : List UInt8) (k2 n2 : Int) (s2 : List UInt8) : R K (.call 21 [I 6, I n, .rows [[.int .i64 k1, .int .i64 n1, .str s1], [.int .i64 k2, .int .i64 n2, .str s2]]] []) = some (enc (lessS ⟨k1, n1, s1⟩ ⟨k2, n2, s2⟩), []) := by
  rw [r_Oper6, ← less_law]
theorem r_O10 (n : Int) (k1 n1 : Int) (s1 : List UInt8) (k2 n2 : Int) (s2 : List UInt8) : R K (.call 21 [I 10, I n, .rows [[.int .i64 k1, .int .i64 n1, .str s1], [.int .i64 k2, .int .i64 n2, .str s2]]] []) = some (enc (sameS ⟨k1, n1, s1⟩ ⟨k2, n2, s2⟩), []) := by
  rw [r_Oper10, ← same_law]
theorem r_O12 (n : Int) (k1 n1 : Int) (s1 : List UInt8) (k2 n2 : Int) (s2 : List UInt8) : R K (.call 21 [I 12, I n, .rows [[.int .i64 k1, .int .i64 n1, .str s1], [.int .i64 k2, .int .i64 n2, .str s2]]] []) = some (enc (addS ⟨k1, n1, s1⟩ ⟨k2, n2, s2⟩), []) := by
  rw [r_Oper12, ← add_law]
theorem r_O13 (n : Int) (k1 n1 : Int) (s1 : List UInt8) (k2 n2 : Int) (s2 : List UInt8) : R K (.call 21 [I 13, I n, .rows [[.int .i64 k1, .int .i64 n1, .str s1], [.int .i64 k2, .int .i64 n2, .str s2]]] []) = some (enc (subS ⟨k1, n1, s1⟩ ⟨k2, n2, s2⟩), []) := by
  rw [r_Oper13, ← sub_law]
theorem r_O14 (n : Int) (k1 n1 : Int) (s1 : List UInt8) (k2 n2 : Int) (s2 : List UInt8) : R K (.call 21 [I 14, I n, .rows [[.int .i64 k1, .int .i64 n1, .str s1], [.int .i64 k2, .int .i64 n2, .str s2]]] []) = some (enc (mulS ⟨k1, n1, s1⟩ ⟨k2, n2, s2⟩), []) := by
  rw [r_Oper14, ← mul_law]
theorem r_O15 (n : Int) (k1 n1 : Int) (s1 : List UInt8) (k2 n2 : Int) (s2 : List UInt8) : R K (.call 21 [I 15, I n, .rows [[.int .i64 k1, .int .i64 n1, .str s1], [.int .i64 k2, .int .i64 n2, .str s2]]] []) = some (enc (divS ⟨k1, n1, s1⟩ ⟨k2, n2, s2⟩), []) := by
  rw [r_Oper15, ← div_law]
theorem r_O16 (n : Int) (k1 n1 : Int) (s1 : List UInt8) (k2 n2 : Int) (s2 : List UInt8) : R K (.call 21 [I 16, I n, .rows [[.int .i64 k1, .int .i64 n1, .str s1], [.int .i64 k2, .int .i64 n2, .str s2]]] []) = some (enc (modS ⟨k1, n1, s1⟩ ⟨k2, n2, s2⟩), []) := by
  rw [r_Oper16, ← mod_law]
theorem r_O19 (n : Int) (k1 n1 : Int) (s1 : List UInt8) (k2 n2 : Int) (s2 : List UInt8) : R K (.call 21 [I 19, I n, .rows [[.int .i64 k1, .int .i64 n1, .str s1], [.int .i64 k2, .int .i64 n2, .str s2]]] []) = some (enc (likeV ⟨k1, n1, s1⟩ ⟨k2, n2, s2⟩), []) := by
  rw [r_Oper19, ← like_law]
theorem r_O23 (n : Int) (k1 n1 : Int) (s1 : List UInt8) (k2 n2 : Int) (s2 : List UInt8) (k3 n3 : Int) (s3 : List UInt8) : R K (.call 21 [I 23, I n, .rows [[.int .i64 k1, .int .i64 n1, .str s1], [.int .i64 k2, .int .i64 n2, .str s2], [.int .i64 k3, .int .i64 n3, .str s3]]] []) = some (enc (partS ⟨k1, n1, s1⟩ ⟨k2, n2, s2⟩ ⟨k3, n3, s3⟩), []) := by
  rw [r_OperT23, ← part_law]
abbrev RV (l : List Val) : AV := .rows (l.map rowV)
theorem val_get {l : List Val} {i : Nat} {v : Val} (h : l[i]? = some v) : at? (l.map rowV) (i : Int) = some (rowV v) := at_get (by simp [h])
theorem allLen_vals : ∀ l : List Val, allLen 3 (l.map rowV) = true
  | [] => rfl
  | _ :: r => by simp only [List.map_cons, allLen, allLen_vals r]; rfl
theorem l_coal (l : List Val) (hl : l.length ≤ 1000000) (ks : List It) (hks : R K (.run 162 0 ks [(6, .ptr 0 0)] [.cells [I 0, I 0, .str []]]) = some (enc null, [])) : ∀ (m i : Nat) (j : Int) (B : Code), Loop Tryz.f162 1 B → j = (i : Int) → l.length = i + m →
   RL K (.run 162 0 (.code B :: .lp B (some ([6, 229, 230, 231], [])) 1 :: .blk 1 1 :: ks) [(6, .ptr 0 0), (229, RV l), (230, I l.length), (231, I j)] [.cells [I 0, I 0, .str []]]) = some (enc (coalV (l.drop i)), [])
  | 0, i, j, B, hB, hj, hm => by
    subst hj
    have h1 : decide ((i : Int) < (l.length : Int)) = false := decide_eq_false (by omega)
    rw [List.drop_of_length_le (by omega)]
    unfold Loop at hB
    simp -implicitDefEqProofs only [go_sem, simprocAttr, Tryz.f162, loopOf] at hB
    subst hB
    rw [RL_eq]
    simp -implicitDefEqProofs only [go_sem, simprocAttr, h1]
    exact hks
  | m + 1, i, j, B, hB, hj, hm => by
    subst hj
    have hB' := hB
    have h1 : decide ((i : Int) < (l.length : Int)) = true := decide_eq_true (by omega)
    obtain ⟨v, hv⟩ := some_at (l := l) (i := i) (by omega)
    have hg := val_get hv
    have w1 := next_id (i := i) (n := l.length) (by omega) (by omega)
    have ih := l_coal l hl ks hks m (i + 1) _ _ hB' rfl (by omega)
    rw [drop_get hv]
    simp only [coalV]
    obtain ⟨k, n, s⟩ := v
    have cp := c_plain k n s
    by_cases h : (plainV ⟨k, n, s⟩).k = 0
    · rw [if_pos h]
      have h' : ((plainV ⟨k, n, s⟩).k == 0) = true := beq_iff_eq.2 h
      unfold Loop at hB
      simp -implicitDefEqProofs only [go_sem, simprocAttr, Tryz.f162, loopOf] at hB
      subst hB
      rw [RL_eq]
      simp -implicitDefEqProofs only [go_sem, simprocAttr, h1, hg, rowV, cp, bne, h', w1, ih]
    · rw [if_neg h]
      have h' : ((plainV ⟨k, n, s⟩).k == 0) = false := beq_eq_false_iff_ne.2 h
      unfold Loop at hB
      simp -implicitDefEqProofs only [go_sem, simprocAttr, Tryz.f162, loopOf] at hB
      subst hB
      rw [RL_eq]
      simp -implicitDefEqProofs only [go_sem, simprocAttr, h1, hg, rowV, cp, bne, h', w1, ih]
theorem c_O24 (n : Int) (l : List Val) (hl : l.length ≤ 1000000) : R K (.call 162 [I 24, I n, RV l] []) = some (enc (coalV l), []) := by
  rw [call_162]
  simp -implicitDefEqProofs only [go_sem, simprocAttr, Tryz.f162, List.length_map]
  rw [l_coal l hl _ ?_ l.length 0 0 _ ?_ rfl (by omega), List.drop_zero]
  · simp -implicitDefEqProofs only [go_sem, simprocAttr]
  · simp -implicitDefEqProofs only [go_sem, simprocAttr]
    rfl
  · rfl
theorem l_rcoal (l : List Val) (hl : l.length ≤ 1000000) (C A E : List AV) (hC : locsL C = []) (hA : locsL A = []) (hE : locsL E = []) (ks : List It) (hks : R K (.run 21 0 ks [(6, .ptr 0 0)] [.cells [I 0, I 0, .str []], .cells C, .cells A, .cells E]) = some (enc null, [])) : ∀ (m i : Nat) (j : Int) (B : Code), Loop Tryz.f21 3 B → j = (i : Int) → l.length = i + m →
   RL K (.run 21 0 (.code B :: .lp B (some ([6, 116, 117, 118], [])) 4 :: .blk 3 4 :: ks) [(6, .ptr 0 0), (116, RV l), (117, I l.length), (118, I j)] [.cells [I 0, I 0, .str []], .cells C, .cells A, .cells E]) = some (enc (coalV (l.drop i)), [])
  | 0, i, j, B, hB, hj, hm => by
    subst hj
    have h1 : decide ((i : Int) < (l.length : Int)) = false := decide_eq_false (by omega)
    rw [List.drop_of_length_le (by omega)]
    unfold Loop at hB
    simp -implicitDefEqProofs only [go_sem, simprocAttr, Tryz.f21, loopOf] at hB
    subst hB
    rw [RL_eq]
    simp -implicitDefEqProofs only [go_sem, simprocAttr, h1, hC, hA, hE]
    exact hks
  | m + 1, i, j, B, hB, hj, hm => by
    subst hj
    have hB' := hB
    have h1 : decide ((i : Int) < (l.length : Int)) = true := decide_eq_true (by omega)
    obtain ⟨v, hv⟩ := some_at (l := l) (i := i) (by omega)
    have hg := val_get hv
    have w1 := next_id (i := i) (n := l.length) (by omega) (by omega)
    have ih := l_rcoal l hl C A E hC hA hE ks hks m (i + 1) _ _ hB' rfl (by omega)
    rw [drop_get hv]
    simp only [coalV]
    obtain ⟨k, n, s⟩ := v
    have cp := r_right k n s
    by_cases h : (plainV ⟨k, n, s⟩).k = 0
    · rw [if_pos h]
      have h' : ((plainV ⟨k, n, s⟩).k == 0) = true := beq_iff_eq.2 h
      unfold Loop at hB
      simp -implicitDefEqProofs only [go_sem, simprocAttr, Tryz.f21, loopOf] at hB
      subst hB
      rw [RL_eq]
      simp -implicitDefEqProofs only [go_sem, simprocAttr, h1, hC, hA, hE, hg, rowV, cp, bne, h', w1, ih]
    · rw [if_neg h]
      have h' : ((plainV ⟨k, n, s⟩).k == 0) = false := beq_eq_false_iff_ne.2 h
      have hp := plain_full h
      rw [hp] at cp h'
      unfold Loop at hB
      simp -implicitDefEqProofs only [go_sem, simprocAttr, Tryz.f21, loopOf] at hB
      subst hB
      rw [RL_eq]
      simp -implicitDefEqProofs only [go_sem, simprocAttr, h1, hC, hA, hE, hg, rowV, cp, bne, h', w1, ih]
theorem r_O24a (n : Int) (a b : Val) : R K (.call 21 [I 24, I n, RV [a, b]] []) = some (enc (coalV [a, b]), []) := by
  have lc := fun C A E hC hA hE ks hks B hB => l_rcoal [a, b] (by simp) C A E hC hA hE ks hks 2 0 0 B hB rfl rfl
  simp only [RV, List.map_cons, List.map_nil, List.length_cons, List.length_nil, List.drop_zero, rowV] at lc ⊢
  rw [call_21]
  simp -implicitDefEqProofs only [go_sem, simprocAttr, Tryz.f21]
  rw [RL_eq]
  simp -implicitDefEqProofs only [go_sem, simprocAttr, r_right, at?]
  rw [RL_eq]
  simp -implicitDefEqProofs only [go_sem, simprocAttr, r_right, at?]
  rw [RL_eq]
  simp -implicitDefEqProofs only [go_sem, simprocAttr, r_right, at?]
  refine lc _ _ _ rfl rfl rfl _ ?_ _ ?_
  · simp -implicitDefEqProofs only [go_sem, simprocAttr]
    try rfl
  · rfl
theorem r_O24b (n : Int) (a b c : Val) (r : List Val) (hl : (a :: b :: c :: r).length ≤ 1000000) : R K (.call 21 [I 24, I n, RV (a :: b :: c :: r)] []) = some (enc (coalV (a :: b :: c :: r)), []) := by
  have hmin : (if (3 : Int) < ((r.length + 1 + 1 + 1 : Nat) : Int) then (3 : Int) else ((r.length + 1 + 1 + 1 : Nat) : Int)) = 3 := by split <;> omega
  have e1 : ((3 : Int) ≤ ((r.length + 1 + 1 + 1 : Nat) : Int)) = True := eq_true (by omega)
  have ha := allLen_vals r
  have lc := fun C A E hC hA hE ks hks B hB => l_rcoal (a :: b :: c :: r) hl C A E hC hA hE ks hks (a :: b :: c :: r).length 0 0 B hB rfl (by omega)
  simp only [RV, List.map_cons, List.length_cons, List.drop_zero, rowV] at lc ⊢
  have tk3 : ∀ x y z : List AV, List.take 3 (x :: y :: z :: r.map rowV) = [x, y, z] := fun _ _ _ => rfl
  rw [call_21]
  simp -implicitDefEqProofs only [go_sem, simprocAttr, Tryz.f21, List.length_cons, List.length_map, hmin, e1, ha, List.drop_zero, tk3]
  rw [RL_eq]
  simp -implicitDefEqProofs only [go_sem, simprocAttr, r_right, at?]
  rw [RL_eq]
  simp -implicitDefEqProofs only [go_sem, simprocAttr, r_right, at?]
  rw [RL_eq]
  simp -implicitDefEqProofs only [go_sem, simprocAttr, r_right, at?]
  rw [RL_eq]
  simp -implicitDefEqProofs only [go_sem, simprocAttr, r_right, at?, List.length_cons, List.length_map]
  refine lc _ _ _ rfl rfl rfl _ ?_ _ ?_
  · simp -implicitDefEqProofs only [go_sem, simprocAttr]
    try rfl
  · rfl
theorem caseR_short (d : Val) {l : List Val} (h : l.length ≤ 1) : caseR d l = plainV d := by
  match l, h with
  | [], _ => rfl
  | [_], _ => rfl
theorem l_case (l : List Val) (hl : l.length ≤ 1000000) (d : Val) (ks : List It) (hks : R K (.run 163 0 ks [(0, RV l), (2, .ptr 0 0)] [.cells [I 0, I 0, .str []]]) = some (enc (plainV d), [])) : ∀ (m i : Nat) (j : Int) (B : Code), Loop Tryz.f163 0 B → j = (i : Int) → l.length ≤ i + m → i ≤ l.length + 1 →
   RL K (.run 163 0 (.code B :: .lp B (some ([0, 2, 3], [])) 1 :: .blk 0 1 :: ks) [(0, RV l), (2, .ptr 0 0), (3, I j)] [.cells [I 0, I 0, .str []]]) = some (enc (caseR d (l.drop i)), [])
  | 0, i, j, B, hB, hj, hm, hi => by
    subst hj
    have w1 : wrapI .i64 ((i : Int) + 1) = ((i + 1 : Nat) : Int) := by rw [wrap_id (by omega) (by omega)]; omega
    have h1 : decide (((i + 1 : Nat) : Int) < (l.length : Int)) = false := decide_eq_false (by omega)
    rw [caseR_short d (by rw [List.length_drop]; omega)]
    unfold Loop at hB
    simp -implicitDefEqProofs only [go_sem, simprocAttr, Tryz.f163, loopOf] at hB
    subst hB
    rw [RL_eq]
    simp -implicitDefEqProofs only [go_sem, simprocAttr, w1, h1, List.length_map]
    exact hks
  | m + 1, i, j, B, hB, hj, hm, hi => by
    subst hj
    have hB' := hB
    have w1 : wrapI .i64 ((i : Int) + 1) = ((i + 1 : Nat) : Int) := by rw [wrap_id (by omega) (by omega)]; omega
    by_cases hlt : i + 1 < l.length
    rotate_left
    · have h1 : decide (((i + 1 : Nat) : Int) < (l.length : Int)) = false := decide_eq_false (by omega)
      rw [caseR_short d (by rw [List.length_drop]; omega)]
      unfold Loop at hB
      simp -implicitDefEqProofs only [go_sem, simprocAttr, Tryz.f163, loopOf] at hB
      subst hB
      rw [RL_eq]
      simp -implicitDefEqProofs only [go_sem, simprocAttr, w1, h1, List.length_map]
      exact hks
    have h1 : decide (((i + 1 : Nat) : Int) < (l.length : Int)) = true := decide_eq_true (by omega)
    obtain ⟨c, hc'⟩ := some_at (l := l) (i := i) (by omega)
    obtain ⟨v, hv⟩ := some_at (l := l) (i := i + 1) (by omega)
    have g1 := val_get hc'
    have g2 := val_get hv
    have w2 : wrapI .i64 ((i : Int) + 2) = ((i + 2 : Nat) : Int) := by rw [wrap_id (by omega) (by omega)]; omega
    have ed : l.drop i = c :: v :: l.drop (i + 2) := by rw [drop_get hc', drop_get hv]
    have ih := l_case l hl d ks hks m (i + 2) _ B hB' rfl (by omega) (by omega)
    rw [ed]
    simp only [caseR]
    obtain ⟨k, n, s⟩ := c
    obtain ⟨k', n', s'⟩ := v
    have ci := c_is k n s true
    have cp := c_plain k' n' s'
    generalize isS ⟨k, n, s⟩ true = b at ci ⊢
    cases b with
    | true =>
      unfold Loop at hB
      simp -implicitDefEqProofs only [go_sem, simprocAttr, Tryz.f163, loopOf] at hB
      subst hB
      rw [RL_eq]
      simp -implicitDefEqProofs only [go_sem, simprocAttr, w1, h1, List.length_map, g1, g2, rowV, ci, cp]
      try rfl
    | false =>
      unfold Loop at hB
      simp -implicitDefEqProofs only [go_sem, simprocAttr, Tryz.f163, loopOf] at hB
      subst hB
      rw [RL_eq]
      simp -implicitDefEqProofs only [go_sem, simprocAttr, w1, h1, List.length_map, g1, g2, rowV, ci, w2, ih]
      try rfl
theorem c_Case (l : List Val) (hl : l.length ≤ 1000000) (d : Val) (hd : l[l.length - 1]? = some d) : R K (.call 163 [RV l] []) = some (enc (caseR d l), []) := by
  have h0 := (List.getElem?_eq_some_iff.1 hd).1
  have hg := val_get hd
  have w1 : wrapI .i64 ((l.length : Int) - 1) = ((l.length - 1 : Nat) : Int) := by rw [wrap_id (by omega) (by omega)]; omega
  obtain ⟨k, n, s⟩ := d
  have cp := c_plain k n s
  have lk := fun ks hks B hB => l_case l hl ⟨k, n, s⟩ ks hks l.length 0 0 B hB rfl (by omega) (by omega)
  simp only [List.drop_zero] at lk
  rw [call_163]
  simp -implicitDefEqProofs only [go_sem, simprocAttr, Tryz.f163]
  rw [lk _ ?_ _ ?_]
  · simp -implicitDefEqProofs only [go_sem, simprocAttr]
  · simp -implicitDefEqProofs only [go_sem, simprocAttr, List.length_map, w1, hg, rowV, cp]
  · rfl
theorem l_in (a : Val) (l : List Val) (hl : l.length ≤ 1000000) (H : Heap) (ks : List It) (T : Val → Res) (hks : ∀ out : Val, R K (.run 164 0 ks [(4, .ptr 1 0), (5, .ptr 2 0)] [.cells (rowV a), .cells [I 0, I 0, .str []], .cells (rowV out)]) = T out) : ∀ (m i : Nat) (j : Int) (out : Val) (B : Code), Loop Tryz.f164 0 B → j = (i : Int) → l.length = i + m →
   RL K (.run 164 0 (.code B :: .lp B (some ([2, 4, 5, 9, 10, 11], [])) 3 :: .blk 0 3 :: ks) [(2, .ptr 0 0), (4, .ptr 1 0), (5, .ptr 2 0), (9, RV l), (10, I l.length), (11, I j)] [.cells (rowV a), .cells [I 0, I 0, .str []], .cells (rowV out)]) = T (inR a (l.drop i) out)
  | 0, i, j, out, B, hB, hj, hm => by
    subst hj
    have h1 : decide ((i : Int) < (l.length : Int)) = false := decide_eq_false (by omega)
    rw [List.drop_of_length_le (by omega)]
    have hk := hks out
    simp only [rowV] at hk ⊢
    unfold Loop at hB
    simp -implicitDefEqProofs only [go_sem, simprocAttr, Tryz.f164, loopOf] at hB
    subst hB
    rw [RL_eq]
    simp -implicitDefEqProofs only [go_sem, simprocAttr, h1]
    exact hk
  | m + 1, i, j, out, B, hB, hj, hm => by
    subst hj
    have hB' := hB
    have h1 : decide ((i : Int) < (l.length : Int)) = true := decide_eq_true (by omega)
    obtain ⟨v, hv⟩ := some_at (l := l) (i := i) (by omega)
    have hg := val_get hv
    have w1 := next_id (i := i) (n := l.length) (by omega) (by omega)
    have ih := l_in a l hl H ks T hks m (i + 1) _ (orS out (equalS a v)) _ hB' rfl (by omega)
    rw [drop_get hv]
    simp only [inR]
    have ce := c_Equal a.k a.n a.s v.k v.n v.s
    rw [Val.eta, Val.eta] at ce
    have co := c_Or out.k out.n out.s (equalS a v).k (equalS a v).n (equalS a v).s
    rw [Val.eta, Val.eta] at co
    simp only [enc] at ce co
    simp only [rowV] at ih hg ⊢
    unfold Loop at hB
    simp -implicitDefEqProofs only [go_sem, simprocAttr, Tryz.f164, loopOf] at hB
    subst hB
    rw [RL_eq]
    simp -implicitDefEqProofs only [go_sem, simprocAttr, h1, hg, ce, co, w1, ih]
theorem c_In (a : Val) (l : List Val) (hl : l.length ≤ 1000000) : R K (.call 164 [V a.k a.n a.s, RV l] []) = some (enc (inR a l (boolV false)), []) := by
  have lk := fun ks T hks B hB => l_in a l hl [] ks T hks l.length 0 0 (boolV false) B hB rfl (by omega)
  simp only [List.drop_zero, rowV] at lk
  rw [call_164]
  simp -implicitDefEqProofs only [go_sem, simprocAttr, Tryz.f164, c_boolean, List.length_map]
  rw [lk _ (fun v => some (enc v, [])) ?_ _ ?_]
  · rfl
  · intro out
    simp -implicitDefEqProofs only [go_sem, simprocAttr]
  · rfl
theorem l_chosen5 (l : List Val) (hl : l.length ≤ 1000000) (d : Val) (C : List AV) (hC : locsL C = []) (ks : List It) (hks : R K (.run 170 0 ks [(1, RV l), (4, .ptr 1 0)] [.cells C, .cells [I 0, I 0, .str []]]) = some (enc (plainV d), [])) : ∀ (m i : Nat) (j : Int) (B : Code), Loop Tryz.f170 2 B → j = (i : Int) → l.length ≤ i + m → i ≤ l.length + 1 →
   RL K (.run 170 0 (.code B :: .lp B (some ([1, 4, 8], [])) 2 :: .blk 2 2 :: ks) [(1, RV l), (4, .ptr 1 0), (8, I j)] [.cells C, .cells [I 0, I 0, .str []]]) = some (enc (caseR d (l.drop i)), [])
  | 0, i, j, B, hB, hj, hm, hi => by
    subst hj
    have w1 : wrapI .i64 ((i : Int) + 1) = ((i + 1 : Nat) : Int) := by rw [wrap_id (by omega) (by omega)]; omega
    have h1 : decide (((i + 1 : Nat) : Int) < (l.length : Int)) = false := decide_eq_false (by omega)
    rw [caseR_short d (by rw [List.length_drop]; omega)]
    unfold Loop at hB
    simp -implicitDefEqProofs only [go_sem, simprocAttr, Tryz.f170, loopOf] at hB
    subst hB
    rw [RL_eq]
    simp -implicitDefEqProofs only [go_sem, simprocAttr, w1, h1, hC, List.length_map]
    exact hks
  | m + 1, i, j, B, hB, hj, hm, hi => by
    subst hj
    have hB' := hB
    have w1 : wrapI .i64 ((i : Int) + 1) = ((i + 1 : Nat) : Int) := by rw [wrap_id (by omega) (by omega)]; omega
    by_cases hlt : i + 1 < l.length
    rotate_left
    · have h1 : decide (((i + 1 : Nat) : Int) < (l.length : Int)) = false := decide_eq_false (by omega)
      rw [caseR_short d (by rw [List.length_drop]; omega)]
      unfold Loop at hB
      simp -implicitDefEqProofs only [go_sem, simprocAttr, Tryz.f170, loopOf] at hB
      subst hB
      rw [RL_eq]
      simp -implicitDefEqProofs only [go_sem, simprocAttr, w1, h1, hC, List.length_map]
      exact hks
    have h1 : decide (((i + 1 : Nat) : Int) < (l.length : Int)) = true := decide_eq_true (by omega)
    obtain ⟨c, hc'⟩ := some_at (l := l) (i := i) (by omega)
    obtain ⟨v, hv⟩ := some_at (l := l) (i := i + 1) (by omega)
    have g1 := val_get hc'
    have g2 := val_get hv
    have w2 : wrapI .i64 ((i : Int) + 2) = ((i + 2 : Nat) : Int) := by rw [wrap_id (by omega) (by omega)]; omega
    have ed : l.drop i = c :: v :: l.drop (i + 2) := by rw [drop_get hc', drop_get hv]
    have ih := l_chosen5 l hl d C hC ks hks m (i + 2) _ B hB' rfl (by omega) (by omega)
    rw [ed]
    simp only [caseR]
    obtain ⟨k, n, s⟩ := c
    obtain ⟨k', n', s'⟩ := v
    have ct := r_third k n s
    have cp := r_right k' n' s'
    have ht := tri_two ⟨k, n, s⟩
    generalize tri ⟨k, n, s⟩ = t at ct ht
    generalize isS ⟨k, n, s⟩ true = b at ht ⊢
    cases b with
    | true =>
      unfold Loop at hB
      simp -implicitDefEqProofs only [go_sem, simprocAttr, Tryz.f170, loopOf] at hB
      subst hB
      rw [RL_eq]
      simp -implicitDefEqProofs only [go_sem, simprocAttr, w1, h1, hC, List.length_map, g1, g2, rowV, ct, ht, cp]
      try rfl
    | false =>
      unfold Loop at hB
      simp -implicitDefEqProofs only [go_sem, simprocAttr, Tryz.f170, loopOf] at hB
      subst hB
      rw [RL_eq]
      simp -implicitDefEqProofs only [go_sem, simprocAttr, w1, h1, hC, List.length_map, g1, g2, rowV, ct, ht, w2, ih]
      try rfl
theorem r_chosen5 (e : Ex) (q : e.k = 5) (l : List Val) (hl : l.length ≤ 1000000) (d : Val) (hd : l[l.length - 1]? = some d) : R K (.call 170 [.agg (exC e), RV l] []) = some (enc (caseR d l), []) := by
  have h0 := (List.getElem?_eq_some_iff.1 hd).1
  have hg := val_get hd
  have hk : (e.k == 6) = false := by rw [q]; rfl
  have w1 : wrapI .i64 ((l.length : Int) - 1) = ((l.length - 1 : Nat) : Int) := by rw [wrap_id (by omega) (by omega)]; omega
  obtain ⟨k, n, s⟩ := d
  have cp := r_right k n s
  have lk := fun ks hks B hB => l_chosen5 l hl ⟨k, n, s⟩ (exC e) (exC_locs e) ks hks l.length 0 0 B hB rfl (by omega) (by omega)
  simp only [List.drop_zero, exC_eq] at lk
  rw [call_170]
  simp -implicitDefEqProofs only [go_sem, simprocAttr, Tryz.f170, exC_eq, hk]
  rw [lk _ ?_ _ ?_]
  · simp -implicitDefEqProofs only [go_sem, simprocAttr]
  · simp -implicitDefEqProofs only [go_sem, simprocAttr, List.length_map, w1, hg, rowV, cp]
  · rfl
theorem l_chosen6 (a : Val) (l : List Val) (L0 : List Val) (ha : L0[0]? = some a) (hl : l.length ≤ 1000000) (C : List AV) (hC : locsL C = []) (ks : List It) (T : Int → Res) (hks : ∀ out : Int, R K (.run 170 0 ks [(4, .ptr 1 0), (5, I out)] [.cells C, .cells [I 0, I 0, .str []]]) = T out) : ∀ (m i : Nat) (j : Int) (out : Int) (B : Code), Loop Tryz.f170 0 B → j = (i : Int) → l.length = i + m →
   RL K (.run 170 0 (.code B :: .lp B (some ([1, 4, 5, 13, 14, 15], [])) 2 :: .blk 0 2 :: ks) [(1, RV L0), (4, .ptr 1 0), (5, I out), (13, RV l), (14, I l.length), (15, I j)] [.cells C, .cells [I 0, I 0, .str []]]) = T (maxR a (l.drop i) out)
  | 0, i, j, out, B, hB, hj, hm => by
    subst hj
    have h1 : decide ((i : Int) < (l.length : Int)) = false := decide_eq_false (by omega)
    rw [List.drop_of_length_le (by omega)]
    have hk := hks out
    unfold Loop at hB
    simp -implicitDefEqProofs only [go_sem, simprocAttr, Tryz.f170, loopOf] at hB
    subst hB
    rw [RL_eq]
    simp -implicitDefEqProofs only [go_sem, simprocAttr, h1, hC]
    exact hk
  | m + 1, i, j, out, B, hB, hj, hm => by
    subst hj
    have hB' := hB
    have h1 : decide ((i : Int) < (l.length : Int)) = true := decide_eq_true (by omega)
    obtain ⟨v, hv⟩ := some_at (l := l) (i := i) (by omega)
    have hg := val_get hv
    have g0 : at? (L0.map rowV) 0 = some (rowV a) := val_get ha
    have w1 := next_id (i := i) (n := l.length) (by omega) (by omega)
    rw [drop_get hv]
    simp only [maxR]
    have ce := r_O4 0 a.k a.n a.s v.k v.n v.s
    rw [Val.eta, Val.eta] at ce
    have ct := r_third (equalS a v).k (equalS a v).n (equalS a v).s
    rw [Val.eta] at ct
    simp only [enc] at ce
    by_cases hlt : out < tri (equalS a v)
    · have h2 : decide (out < tri (equalS a v)) = true := decide_eq_true hlt
      have h3 : decide (tri (equalS a v) ≤ out) = false := decide_eq_false (by omega)
      rw [if_pos hlt]
      have ih := l_chosen6 a l L0 ha hl C hC ks T hks m (i + 1) _ (tri (equalS a v)) _ hB' rfl (by omega)
      unfold Loop at hB
      simp -implicitDefEqProofs only [go_sem, simprocAttr, Tryz.f170, loopOf] at hB
      subst hB
      rw [RL_eq]
      simp -implicitDefEqProofs only [go_sem, simprocAttr, h1, hC, hg, g0, rowV, ce, ct, hlt, h2, h3, w1, ih, if_true]
    · have h2 : decide (out < tri (equalS a v)) = false := decide_eq_false hlt
      rw [if_neg hlt]
      have ih := l_chosen6 a l L0 ha hl C hC ks T hks m (i + 1) _ out _ hB' rfl (by omega)
      unfold Loop at hB
      simp -implicitDefEqProofs only [go_sem, simprocAttr, Tryz.f170, loopOf] at hB
      subst hB
      rw [RL_eq]
      simp -implicitDefEqProofs only [go_sem, simprocAttr, h1, hC, hg, g0, rowV, ce, ct, hlt, h2, w1, ih, if_false]
theorem r_chosen6 (e : Ex) (q : e.k = 6) (l : List Val) (hl : l.length ≤ 1000000) (a : Val) (ha : l[0]? = some a) : R K (.call 170 [.agg (exC e), RV l] []) = some (enc (inR a (l.drop 1) (boolV false)), []) := by
  have h0 := (List.getElem?_eq_some_iff.1 ha).1
  have hk : (e.k == 6) = true := by rw [q]; rfl
  have c1 : ((1 : Int) ≤ (l.length : Int)) = True := eq_true (by omega)
  have hcut : List.take (l.length - 1) (List.drop 1 (l.map rowV)) = (l.drop 1).map rowV := by
    rw [List.take_of_length_le (by simp), List.map_drop]
  have lk := fun ks T hks B hB => l_chosen6 a (l.drop 1) l ha (by simp; omega) (exC e) (exC_locs e) ks T hks (l.drop 1).length 0 0 0 B hB rfl (by omega)
  rw [show boolV false = fromTri 0 from rfl, in_law a _ 0 (by omega)]
  simp only [List.drop_zero, exC_eq] at lk
  rw [call_170]
  simp -implicitDefEqProofs only [go_sem, simprocAttr, Tryz.f170, exC_eq, hk, c1, hcut, allLen_vals, Int.toNat_natCast]
  rw [lk _ (fun v => some (enc (fromTri v), [])) ?_ _ ?_]
  · rfl
  · intro out
    simp -implicitDefEqProofs only [go_sem, simprocAttr, r_fromThird]
  · rfl
noncomputable def opU (op n : Int) (a : Val) : Val := if op = 1 then notS a else if op = 11 then boolV ((plainV a).k == 0) else if op = 17 then negS a else if op = 20 then lowerS a else if op = 21 then upperS a else if op = 22 then lengthS a else if op = 25 then truncV a n else if op = 26 then unitV a n else if op = 27 then castS a n else null
noncomputable def opB (op : Int) (a b : Val) : Val := if op = 2 then andS a b else if op = 3 then orS a b else if op = 4 then equalS a b else if op = 5 then notS (equalS a b) else if op = 6 then lessS a b else if op = 7 then notS (lessS b a) else if op = 8 then lessS b a else if op = 9 then notS (lessS a b) else if op = 10 then sameS a b else if op = 12 then addS a b else if op = 13 then subS a b else if op = 14 then mulS a b else if op = 15 then divS a b else if op = 16 then modS a b else if op = 18 then concatS a b else if op = 19 then likeV a b else null
noncomputable def opV (op n : Int) (l : List Val) : Val := if op = 24 then coalV l else match l with
  | [a] => opU op n a
  | [a, b] => opB op a b
  | [a, b, c] => partS a b c
  | _ => null
theorem one_of {l : List Val} (h : l.length = 1) : ∃ a, l = [a] := by
  match l, h with
  | [a], _ => exact ⟨a, rfl⟩
theorem two_of {l : List Val} (h : l.length = 2) : ∃ a b, l = [a, b] := by
  match l, h with
  | [a, b], _ => exact ⟨a, b, rfl⟩
theorem three_of {l : List Val} (h : l.length = 3) : ∃ a b c, l = [a, b, c] := by
  match l, h with
  | [a, b, c], _ => exact ⟨a, b, c, rfl⟩
theorem args_of {op : Int} {m : Nat} (h : argsOk 4 op (m : Int) = true) : (arityS op = -1 ∧ 2 ≤ m) ∨ (arityS op = m) := by
  unfold argsOk at h
  rw [if_pos rfl] at h
  by_cases h0 : 0 ≤ arityS op
  · rw [if_pos h0] at h
    exact .inr (beq_iff_eq.1 h).symm
  · rw [if_neg h0] at h
    have h := of_decide_eq_true h
    refine .inl ⟨?_, by omega⟩
    unfold arityS at h0 ⊢
    split at h0
    · omega
    · split at h0
      · omega
      · split at h0
        · rename_i h1 h2 h3
          rw [if_neg h1, if_neg h2, if_pos h3]
        · omega
theorem op_cases {op : Int} (h : within op 1 27 = true) : op = 1 ∨ op = 2 ∨ op = 3 ∨ op = 4 ∨ op = 5 ∨ op = 6 ∨ op = 7 ∨ op = 8 ∨ op = 9 ∨ op = 10 ∨ op = 11 ∨ op = 12 ∨ op = 13 ∨ op = 14 ∨ op = 15 ∨ op = 16 ∨ op = 17 ∨ op = 18 ∨ op = 19 ∨ op = 20 ∨ op = 21 ∨ op = 22 ∨ op = 23 ∨ op = 24 ∨ op = 25 ∨ op = 26 ∨ op = 27 := by
  have := (wit_iff op 1 27).1 h
  omega
theorem c_V1 (n : Int) (l : List Val) (h : argsOk 4 1 (l.length : Int) = true) : R K (.call 162 [I 1, I n, RV l] []) = some (enc (opV 1 n l), []) := by
  have h := (args_of h).resolve_left (fun e => absurd e.1 (by decide))
  have har : arityS 1 = 1 := by decide
  obtain ⟨a, rfl⟩ := one_of (l := l) (by omega)
  exact c_O1 n a.k a.n a.s
theorem c_V2 (n : Int) (l : List Val) (h : argsOk 4 2 (l.length : Int) = true) : R K (.call 162 [I 2, I n, RV l] []) = some (enc (opV 2 n l), []) := by
  have h := (args_of h).resolve_left (fun e => absurd e.1 (by decide))
  have har : arityS 2 = 2 := by decide
  obtain ⟨a, b, rfl⟩ := two_of (l := l) (by omega)
  exact c_O2 n a.k a.n a.s b.k b.n b.s
theorem c_V3 (n : Int) (l : List Val) (h : argsOk 4 3 (l.length : Int) = true) : R K (.call 162 [I 3, I n, RV l] []) = some (enc (opV 3 n l), []) := by
  have h := (args_of h).resolve_left (fun e => absurd e.1 (by decide))
  have har : arityS 3 = 2 := by decide
  obtain ⟨a, b, rfl⟩ := two_of (l := l) (by omega)
  exact c_O3 n a.k a.n a.s b.k b.n b.s
theorem c_V4 (n : Int) (l : List Val) (h : argsOk 4 4 (l.length : Int) = true) : R K (.call 162 [I 4, I n, RV l] []) = some (enc (opV 4 n l), []) := by
  have h := (args_of h).resolve_left (fun e => absurd e.1 (by decide))
  have har : arityS 4 = 2 := by decide
  obtain ⟨a, b, rfl⟩ := two_of (l := l) (by omega)
  exact c_O4 n a.k a.n a.s b.k b.n b.s
theorem c_V5 (n : Int) (l : List Val) (h : argsOk 4 5 (l.length : Int) = true) : R K (.call 162 [I 5, I n, RV l] []) = some (enc (opV 5 n l), []) := by
  have h := (args_of h).resolve_left (fun e => absurd e.1 (by decide))
  have har : arityS 5 = 2 := by decide
  obtain ⟨a, b, rfl⟩ := two_of (l := l) (by omega)
  exact c_O5 n a.k a.n a.s b.k b.n b.s
theorem c_V6 (n : Int) (l : List Val) (h : argsOk 4 6 (l.length : Int) = true) : R K (.call 162 [I 6, I n, RV l] []) = some (enc (opV 6 n l), []) := by
  have h := (args_of h).resolve_left (fun e => absurd e.1 (by decide))
  have har : arityS 6 = 2 := by decide
  obtain ⟨a, b, rfl⟩ := two_of (l := l) (by omega)
  exact c_O6 n a.k a.n a.s b.k b.n b.s
theorem c_V7 (n : Int) (l : List Val) (h : argsOk 4 7 (l.length : Int) = true) : R K (.call 162 [I 7, I n, RV l] []) = some (enc (opV 7 n l), []) := by
  have h := (args_of h).resolve_left (fun e => absurd e.1 (by decide))
  have har : arityS 7 = 2 := by decide
  obtain ⟨a, b, rfl⟩ := two_of (l := l) (by omega)
  exact c_O7 n a.k a.n a.s b.k b.n b.s
theorem c_V8 (n : Int) (l : List Val) (h : argsOk 4 8 (l.length : Int) = true) : R K (.call 162 [I 8, I n, RV l] []) = some (enc (opV 8 n l), []) := by
  have h := (args_of h).resolve_left (fun e => absurd e.1 (by decide))
  have har : arityS 8 = 2 := by decide
  obtain ⟨a, b, rfl⟩ := two_of (l := l) (by omega)
  exact c_O8 n a.k a.n a.s b.k b.n b.s
theorem c_V9 (n : Int) (l : List Val) (h : argsOk 4 9 (l.length : Int) = true) : R K (.call 162 [I 9, I n, RV l] []) = some (enc (opV 9 n l), []) := by
  have h := (args_of h).resolve_left (fun e => absurd e.1 (by decide))
  have har : arityS 9 = 2 := by decide
  obtain ⟨a, b, rfl⟩ := two_of (l := l) (by omega)
  exact c_O9 n a.k a.n a.s b.k b.n b.s
theorem c_V10 (n : Int) (l : List Val) (h : argsOk 4 10 (l.length : Int) = true) : R K (.call 162 [I 10, I n, RV l] []) = some (enc (opV 10 n l), []) := by
  have h := (args_of h).resolve_left (fun e => absurd e.1 (by decide))
  have har : arityS 10 = 2 := by decide
  obtain ⟨a, b, rfl⟩ := two_of (l := l) (by omega)
  exact c_O10 n a.k a.n a.s b.k b.n b.s
theorem c_V11 (n : Int) (l : List Val) (h : argsOk 4 11 (l.length : Int) = true) : R K (.call 162 [I 11, I n, RV l] []) = some (enc (opV 11 n l), []) := by
  have h := (args_of h).resolve_left (fun e => absurd e.1 (by decide))
  have har : arityS 11 = 1 := by decide
  obtain ⟨a, rfl⟩ := one_of (l := l) (by omega)
  exact c_O11 n a.k a.n a.s
theorem c_V12 (n : Int) (l : List Val) (h : argsOk 4 12 (l.length : Int) = true) : R K (.call 162 [I 12, I n, RV l] []) = some (enc (opV 12 n l), []) := by
  have h := (args_of h).resolve_left (fun e => absurd e.1 (by decide))
  have har : arityS 12 = 2 := by decide
  obtain ⟨a, b, rfl⟩ := two_of (l := l) (by omega)
  exact c_O12 n a.k a.n a.s b.k b.n b.s
theorem c_V13 (n : Int) (l : List Val) (h : argsOk 4 13 (l.length : Int) = true) : R K (.call 162 [I 13, I n, RV l] []) = some (enc (opV 13 n l), []) := by
  have h := (args_of h).resolve_left (fun e => absurd e.1 (by decide))
  have har : arityS 13 = 2 := by decide
  obtain ⟨a, b, rfl⟩ := two_of (l := l) (by omega)
  exact c_O13 n a.k a.n a.s b.k b.n b.s
theorem c_V14 (n : Int) (l : List Val) (h : argsOk 4 14 (l.length : Int) = true) : R K (.call 162 [I 14, I n, RV l] []) = some (enc (opV 14 n l), []) := by
  have h := (args_of h).resolve_left (fun e => absurd e.1 (by decide))
  have har : arityS 14 = 2 := by decide
  obtain ⟨a, b, rfl⟩ := two_of (l := l) (by omega)
  exact c_O14 n a.k a.n a.s b.k b.n b.s
theorem c_V15 (n : Int) (l : List Val) (h : argsOk 4 15 (l.length : Int) = true) : R K (.call 162 [I 15, I n, RV l] []) = some (enc (opV 15 n l), []) := by
  have h := (args_of h).resolve_left (fun e => absurd e.1 (by decide))
  have har : arityS 15 = 2 := by decide
  obtain ⟨a, b, rfl⟩ := two_of (l := l) (by omega)
  exact c_O15 n a.k a.n a.s b.k b.n b.s
theorem c_V16 (n : Int) (l : List Val) (h : argsOk 4 16 (l.length : Int) = true) : R K (.call 162 [I 16, I n, RV l] []) = some (enc (opV 16 n l), []) := by
  have h := (args_of h).resolve_left (fun e => absurd e.1 (by decide))
  have har : arityS 16 = 2 := by decide
  obtain ⟨a, b, rfl⟩ := two_of (l := l) (by omega)
  exact c_O16 n a.k a.n a.s b.k b.n b.s
theorem c_V17 (n : Int) (l : List Val) (h : argsOk 4 17 (l.length : Int) = true) : R K (.call 162 [I 17, I n, RV l] []) = some (enc (opV 17 n l), []) := by
  have h := (args_of h).resolve_left (fun e => absurd e.1 (by decide))
  have har : arityS 17 = 1 := by decide
  obtain ⟨a, rfl⟩ := one_of (l := l) (by omega)
  exact c_O17 n a.k a.n a.s
theorem c_V18 (n : Int) (l : List Val) (h : argsOk 4 18 (l.length : Int) = true) : R K (.call 162 [I 18, I n, RV l] []) = some (enc (opV 18 n l), []) := by
  have h := (args_of h).resolve_left (fun e => absurd e.1 (by decide))
  have har : arityS 18 = 2 := by decide
  obtain ⟨a, b, rfl⟩ := two_of (l := l) (by omega)
  exact c_O18 n a.k a.n a.s b.k b.n b.s
theorem c_V19 (n : Int) (l : List Val) (h : argsOk 4 19 (l.length : Int) = true) : R K (.call 162 [I 19, I n, RV l] []) = some (enc (opV 19 n l), []) := by
  have h := (args_of h).resolve_left (fun e => absurd e.1 (by decide))
  have har : arityS 19 = 2 := by decide
  obtain ⟨a, b, rfl⟩ := two_of (l := l) (by omega)
  exact c_O19 n a.k a.n a.s b.k b.n b.s
theorem c_V20 (n : Int) (l : List Val) (h : argsOk 4 20 (l.length : Int) = true) : R K (.call 162 [I 20, I n, RV l] []) = some (enc (opV 20 n l), []) := by
  have h := (args_of h).resolve_left (fun e => absurd e.1 (by decide))
  have har : arityS 20 = 1 := by decide
  obtain ⟨a, rfl⟩ := one_of (l := l) (by omega)
  exact c_O20 n a.k a.n a.s
theorem c_V21 (n : Int) (l : List Val) (h : argsOk 4 21 (l.length : Int) = true) : R K (.call 162 [I 21, I n, RV l] []) = some (enc (opV 21 n l), []) := by
  have h := (args_of h).resolve_left (fun e => absurd e.1 (by decide))
  have har : arityS 21 = 1 := by decide
  obtain ⟨a, rfl⟩ := one_of (l := l) (by omega)
  exact c_O21 n a.k a.n a.s
theorem c_V22 (n : Int) (l : List Val) (h : argsOk 4 22 (l.length : Int) = true) : R K (.call 162 [I 22, I n, RV l] []) = some (enc (opV 22 n l), []) := by
  have h := (args_of h).resolve_left (fun e => absurd e.1 (by decide))
  have har : arityS 22 = 1 := by decide
  obtain ⟨a, rfl⟩ := one_of (l := l) (by omega)
  exact c_O22 n a.k a.n a.s
theorem c_V23 (n : Int) (l : List Val) (h : argsOk 4 23 (l.length : Int) = true) : R K (.call 162 [I 23, I n, RV l] []) = some (enc (opV 23 n l), []) := by
  have h := (args_of h).resolve_left (fun e => absurd e.1 (by decide))
  have har : arityS 23 = 3 := by decide
  obtain ⟨a, b, c, rfl⟩ := three_of (l := l) (by omega)
  exact c_O23 n a.k a.n a.s b.k b.n b.s c.k c.n c.s
theorem c_V25 (n : Int) (l : List Val) (h : argsOk 4 25 (l.length : Int) = true) : R K (.call 162 [I 25, I n, RV l] []) = some (enc (opV 25 n l), []) := by
  have h := (args_of h).resolve_left (fun e => absurd e.1 (by decide))
  have har : arityS 25 = 1 := by decide
  obtain ⟨a, rfl⟩ := one_of (l := l) (by omega)
  exact c_O25 n a.k a.n a.s
theorem c_V26 (n : Int) (l : List Val) (h : argsOk 4 26 (l.length : Int) = true) : R K (.call 162 [I 26, I n, RV l] []) = some (enc (opV 26 n l), []) := by
  have h := (args_of h).resolve_left (fun e => absurd e.1 (by decide))
  have har : arityS 26 = 1 := by decide
  obtain ⟨a, rfl⟩ := one_of (l := l) (by omega)
  exact c_O26 n a.k a.n a.s
theorem c_V27 (n : Int) (l : List Val) (h : argsOk 4 27 (l.length : Int) = true) : R K (.call 162 [I 27, I n, RV l] []) = some (enc (opV 27 n l), []) := by
  have h := (args_of h).resolve_left (fun e => absurd e.1 (by decide))
  have har : arityS 27 = 1 := by decide
  obtain ⟨a, rfl⟩ := one_of (l := l) (by omega)
  exact c_O27 n a.k a.n a.s
theorem c_V24 (n : Int) (l : List Val) (hl : l.length ≤ 1000000) (h : argsOk 4 24 (l.length : Int) = true) : R K (.call 162 [I 24, I n, RV l] []) = some (enc (opV 24 n l), []) := c_O24 n l hl
theorem c_V (op n : Int) (l : List Val) (hl : l.length ≤ 1000000) (ho : within op 1 27 = true) (h : argsOk 4 op (l.length : Int) = true) : R K (.call 162 [I op, I n, RV l] []) = some (enc (opV op n l), []) := by
  rcases op_cases ho with q | q | q | q | q | q | q | q | q | q | q | q | q | q | q | q | q | q | q | q | q | q | q | q | q | q | q <;> subst q
  · exact c_V1 n l h
  · exact c_V2 n l h
  · exact c_V3 n l h
  · exact c_V4 n l h
  · exact c_V5 n l h
  · exact c_V6 n l h
  · exact c_V7 n l h
  · exact c_V8 n l h
  · exact c_V9 n l h
  · exact c_V10 n l h
  · exact c_V11 n l h
  · exact c_V12 n l h
  · exact c_V13 n l h
  · exact c_V14 n l h
  · exact c_V15 n l h
  · exact c_V16 n l h
  · exact c_V17 n l h
  · exact c_V18 n l h
  · exact c_V19 n l h
  · exact c_V20 n l h
  · exact c_V21 n l h
  · exact c_V22 n l h
  · exact c_V23 n l h
  · exact c_V24 n l hl h
  · exact c_V25 n l h
  · exact c_V26 n l h
  · exact c_V27 n l h
theorem r_V1 (n : Int) (l : List Val) (h : argsOk 4 1 (l.length : Int) = true) : R K (.call 21 [I 1, I n, RV l] []) = some (enc (opV 1 n l), []) := by
  have h := (args_of h).resolve_left (fun e => absurd e.1 (by decide))
  have har : arityS 1 = 1 := by decide
  obtain ⟨a, rfl⟩ := one_of (l := l) (by omega)
  exact r_O1 n a.k a.n a.s
theorem r_V2 (n : Int) (l : List Val) (h : argsOk 4 2 (l.length : Int) = true) : R K (.call 21 [I 2, I n, RV l] []) = some (enc (opV 2 n l), []) := by
  have h := (args_of h).resolve_left (fun e => absurd e.1 (by decide))
  have har : arityS 2 = 2 := by decide
  obtain ⟨a, b, rfl⟩ := two_of (l := l) (by omega)
  exact r_O2 n a.k a.n a.s b.k b.n b.s
theorem r_V3 (n : Int) (l : List Val) (h : argsOk 4 3 (l.length : Int) = true) : R K (.call 21 [I 3, I n, RV l] []) = some (enc (opV 3 n l), []) := by
  have h := (args_of h).resolve_left (fun e => absurd e.1 (by decide))
  have har : arityS 3 = 2 := by decide
  obtain ⟨a, b, rfl⟩ := two_of (l := l) (by omega)
  exact r_O3 n a.k a.n a.s b.k b.n b.s
theorem r_V4 (n : Int) (l : List Val) (h : argsOk 4 4 (l.length : Int) = true) : R K (.call 21 [I 4, I n, RV l] []) = some (enc (opV 4 n l), []) := by
  have h := (args_of h).resolve_left (fun e => absurd e.1 (by decide))
  have har : arityS 4 = 2 := by decide
  obtain ⟨a, b, rfl⟩ := two_of (l := l) (by omega)
  exact r_O4 n a.k a.n a.s b.k b.n b.s
theorem r_V5 (n : Int) (l : List Val) (h : argsOk 4 5 (l.length : Int) = true) : R K (.call 21 [I 5, I n, RV l] []) = some (enc (opV 5 n l), []) := by
  have h := (args_of h).resolve_left (fun e => absurd e.1 (by decide))
  have har : arityS 5 = 2 := by decide
  obtain ⟨a, b, rfl⟩ := two_of (l := l) (by omega)
  exact r_O5 n a.k a.n a.s b.k b.n b.s
theorem r_V6 (n : Int) (l : List Val) (h : argsOk 4 6 (l.length : Int) = true) : R K (.call 21 [I 6, I n, RV l] []) = some (enc (opV 6 n l), []) := by
  have h := (args_of h).resolve_left (fun e => absurd e.1 (by decide))
  have har : arityS 6 = 2 := by decide
  obtain ⟨a, b, rfl⟩ := two_of (l := l) (by omega)
  exact r_O6 n a.k a.n a.s b.k b.n b.s
theorem r_V7 (n : Int) (l : List Val) (h : argsOk 4 7 (l.length : Int) = true) : R K (.call 21 [I 7, I n, RV l] []) = some (enc (opV 7 n l), []) := by
  have h := (args_of h).resolve_left (fun e => absurd e.1 (by decide))
  have har : arityS 7 = 2 := by decide
  obtain ⟨a, b, rfl⟩ := two_of (l := l) (by omega)
  exact r_O7 n a.k a.n a.s b.k b.n b.s
theorem r_V8 (n : Int) (l : List Val) (h : argsOk 4 8 (l.length : Int) = true) : R K (.call 21 [I 8, I n, RV l] []) = some (enc (opV 8 n l), []) := by
  have h := (args_of h).resolve_left (fun e => absurd e.1 (by decide))
  have har : arityS 8 = 2 := by decide
  obtain ⟨a, b, rfl⟩ := two_of (l := l) (by omega)
  exact r_O8 n a.k a.n a.s b.k b.n b.s
theorem r_V9 (n : Int) (l : List Val) (h : argsOk 4 9 (l.length : Int) = true) : R K (.call 21 [I 9, I n, RV l] []) = some (enc (opV 9 n l), []) := by
  have h := (args_of h).resolve_left (fun e => absurd e.1 (by decide))
  have har : arityS 9 = 2 := by decide
  obtain ⟨a, b, rfl⟩ := two_of (l := l) (by omega)
  exact r_O9 n a.k a.n a.s b.k b.n b.s
theorem r_V10 (n : Int) (l : List Val) (h : argsOk 4 10 (l.length : Int) = true) : R K (.call 21 [I 10, I n, RV l] []) = some (enc (opV 10 n l), []) := by
  have h := (args_of h).resolve_left (fun e => absurd e.1 (by decide))
  have har : arityS 10 = 2 := by decide
  obtain ⟨a, b, rfl⟩ := two_of (l := l) (by omega)
  exact r_O10 n a.k a.n a.s b.k b.n b.s
theorem r_V11 (n : Int) (l : List Val) (h : argsOk 4 11 (l.length : Int) = true) : R K (.call 21 [I 11, I n, RV l] []) = some (enc (opV 11 n l), []) := by
  have h := (args_of h).resolve_left (fun e => absurd e.1 (by decide))
  have har : arityS 11 = 1 := by decide
  obtain ⟨a, rfl⟩ := one_of (l := l) (by omega)
  exact r_O11 n a.k a.n a.s
theorem r_V12 (n : Int) (l : List Val) (h : argsOk 4 12 (l.length : Int) = true) : R K (.call 21 [I 12, I n, RV l] []) = some (enc (opV 12 n l), []) := by
  have h := (args_of h).resolve_left (fun e => absurd e.1 (by decide))
  have har : arityS 12 = 2 := by decide
  obtain ⟨a, b, rfl⟩ := two_of (l := l) (by omega)
  exact r_O12 n a.k a.n a.s b.k b.n b.s
theorem r_V13 (n : Int) (l : List Val) (h : argsOk 4 13 (l.length : Int) = true) : R K (.call 21 [I 13, I n, RV l] []) = some (enc (opV 13 n l), []) := by
  have h := (args_of h).resolve_left (fun e => absurd e.1 (by decide))
  have har : arityS 13 = 2 := by decide
  obtain ⟨a, b, rfl⟩ := two_of (l := l) (by omega)
  exact r_O13 n a.k a.n a.s b.k b.n b.s
theorem r_V14 (n : Int) (l : List Val) (h : argsOk 4 14 (l.length : Int) = true) : R K (.call 21 [I 14, I n, RV l] []) = some (enc (opV 14 n l), []) := by
  have h := (args_of h).resolve_left (fun e => absurd e.1 (by decide))
  have har : arityS 14 = 2 := by decide
  obtain ⟨a, b, rfl⟩ := two_of (l := l) (by omega)
  exact r_O14 n a.k a.n a.s b.k b.n b.s
theorem r_V15 (n : Int) (l : List Val) (h : argsOk 4 15 (l.length : Int) = true) : R K (.call 21 [I 15, I n, RV l] []) = some (enc (opV 15 n l), []) := by
  have h := (args_of h).resolve_left (fun e => absurd e.1 (by decide))
  have har : arityS 15 = 2 := by decide
  obtain ⟨a, b, rfl⟩ := two_of (l := l) (by omega)
  exact r_O15 n a.k a.n a.s b.k b.n b.s
theorem r_V16 (n : Int) (l : List Val) (h : argsOk 4 16 (l.length : Int) = true) : R K (.call 21 [I 16, I n, RV l] []) = some (enc (opV 16 n l), []) := by
  have h := (args_of h).resolve_left (fun e => absurd e.1 (by decide))
  have har : arityS 16 = 2 := by decide
  obtain ⟨a, b, rfl⟩ := two_of (l := l) (by omega)
  exact r_O16 n a.k a.n a.s b.k b.n b.s
theorem r_V17 (n : Int) (l : List Val) (h : argsOk 4 17 (l.length : Int) = true) : R K (.call 21 [I 17, I n, RV l] []) = some (enc (opV 17 n l), []) := by
  have h := (args_of h).resolve_left (fun e => absurd e.1 (by decide))
  have har : arityS 17 = 1 := by decide
  obtain ⟨a, rfl⟩ := one_of (l := l) (by omega)
  exact r_O17 n a.k a.n a.s
theorem r_V18 (n : Int) (l : List Val) (h : argsOk 4 18 (l.length : Int) = true) : R K (.call 21 [I 18, I n, RV l] []) = some (enc (opV 18 n l), []) := by
  have h := (args_of h).resolve_left (fun e => absurd e.1 (by decide))
  have har : arityS 18 = 2 := by decide
  obtain ⟨a, b, rfl⟩ := two_of (l := l) (by omega)
  exact r_O18 n a.k a.n a.s b.k b.n b.s
theorem r_V19 (n : Int) (l : List Val) (h : argsOk 4 19 (l.length : Int) = true) : R K (.call 21 [I 19, I n, RV l] []) = some (enc (opV 19 n l), []) := by
  have h := (args_of h).resolve_left (fun e => absurd e.1 (by decide))
  have har : arityS 19 = 2 := by decide
  obtain ⟨a, b, rfl⟩ := two_of (l := l) (by omega)
  exact r_O19 n a.k a.n a.s b.k b.n b.s
theorem r_V20 (n : Int) (l : List Val) (h : argsOk 4 20 (l.length : Int) = true) : R K (.call 21 [I 20, I n, RV l] []) = some (enc (opV 20 n l), []) := by
  have h := (args_of h).resolve_left (fun e => absurd e.1 (by decide))
  have har : arityS 20 = 1 := by decide
  obtain ⟨a, rfl⟩ := one_of (l := l) (by omega)
  exact r_O20 n a.k a.n a.s
theorem r_V21 (n : Int) (l : List Val) (h : argsOk 4 21 (l.length : Int) = true) : R K (.call 21 [I 21, I n, RV l] []) = some (enc (opV 21 n l), []) := by
  have h := (args_of h).resolve_left (fun e => absurd e.1 (by decide))
  have har : arityS 21 = 1 := by decide
  obtain ⟨a, rfl⟩ := one_of (l := l) (by omega)
  exact r_O21 n a.k a.n a.s
theorem r_V22 (n : Int) (l : List Val) (h : argsOk 4 22 (l.length : Int) = true) : R K (.call 21 [I 22, I n, RV l] []) = some (enc (opV 22 n l), []) := by
  have h := (args_of h).resolve_left (fun e => absurd e.1 (by decide))
  have har : arityS 22 = 1 := by decide
  obtain ⟨a, rfl⟩ := one_of (l := l) (by omega)
  exact r_O22 n a.k a.n a.s
theorem r_V23 (n : Int) (l : List Val) (h : argsOk 4 23 (l.length : Int) = true) : R K (.call 21 [I 23, I n, RV l] []) = some (enc (opV 23 n l), []) := by
  have h := (args_of h).resolve_left (fun e => absurd e.1 (by decide))
  have har : arityS 23 = 3 := by decide
  obtain ⟨a, b, c, rfl⟩ := three_of (l := l) (by omega)
  exact r_O23 n a.k a.n a.s b.k b.n b.s c.k c.n c.s
theorem r_V25 (n : Int) (l : List Val) (h : argsOk 4 25 (l.length : Int) = true) : R K (.call 21 [I 25, I n, RV l] []) = some (enc (opV 25 n l), []) := by
  have h := (args_of h).resolve_left (fun e => absurd e.1 (by decide))
  have har : arityS 25 = 1 := by decide
  obtain ⟨a, rfl⟩ := one_of (l := l) (by omega)
  exact r_O25 n a.k a.n a.s
theorem r_V26 (n : Int) (l : List Val) (h : argsOk 4 26 (l.length : Int) = true) : R K (.call 21 [I 26, I n, RV l] []) = some (enc (opV 26 n l), []) := by
  have h := (args_of h).resolve_left (fun e => absurd e.1 (by decide))
  have har : arityS 26 = 1 := by decide
  obtain ⟨a, rfl⟩ := one_of (l := l) (by omega)
  exact r_O26 n a.k a.n a.s
theorem r_V27 (n : Int) (l : List Val) (h : argsOk 4 27 (l.length : Int) = true) : R K (.call 21 [I 27, I n, RV l] []) = some (enc (opV 27 n l), []) := by
  have h := (args_of h).resolve_left (fun e => absurd e.1 (by decide))
  have har : arityS 27 = 1 := by decide
  obtain ⟨a, rfl⟩ := one_of (l := l) (by omega)
  exact r_O27 n a.k a.n a.s
theorem r_V24 (n : Int) (l : List Val) (hl : l.length ≤ 1000000) (h : argsOk 4 24 (l.length : Int) = true) : R K (.call 21 [I 24, I n, RV l] []) = some (enc (opV 24 n l), []) := by
  have har : arityS 24 = -1 := by decide
  have h := (args_of h).resolve_right (fun e => absurd e (by omega))
  match l, h.2 with
  | [a, b], _ => exact r_O24a n a b
  | a :: b :: c :: r, _ => exact r_O24b n a b c r hl
theorem r_V (op n : Int) (l : List Val) (hl : l.length ≤ 1000000) (ho : within op 1 27 = true) (h : argsOk 4 op (l.length : Int) = true) : R K (.call 21 [I op, I n, RV l] []) = some (enc (opV op n l), []) := by
  rcases op_cases ho with q | q | q | q | q | q | q | q | q | q | q | q | q | q | q | q | q | q | q | q | q | q | q | q | q | q | q <;> subst q
  · exact r_V1 n l h
  · exact r_V2 n l h
  · exact r_V3 n l h
  · exact r_V4 n l h
  · exact r_V5 n l h
  · exact r_V6 n l h
  · exact r_V7 n l h
  · exact r_V8 n l h
  · exact r_V9 n l h
  · exact r_V10 n l h
  · exact r_V11 n l h
  · exact r_V12 n l h
  · exact r_V13 n l h
  · exact r_V14 n l h
  · exact r_V15 n l h
  · exact r_V16 n l h
  · exact r_V17 n l h
  · exact r_V18 n l h
  · exact r_V19 n l h
  · exact r_V20 n l h
  · exact r_V21 n l h
  · exact r_V22 n l h
  · exact r_V23 n l h
  · exact r_V24 n l hl h
  · exact r_V25 n l h
  · exact r_V26 n l h
  · exact r_V27 n l h
noncomputable def nodeV (cols : List Cel) (row ps : List Val) (e : Ex) (l : List Val) : Val :=
  if e.k = 1 then e.v
  else if e.k = 2 then plainV ((ps[e.n.toNat]?).getD null)
  else if e.k = 3 then plainV ((row[(findC e.src e.nm cols 0).toNat]?).getD null)
  else if e.k = 4 then opV e.op e.n l
  else if e.k = 5 then caseR ((l[l.length - 1]?).getD null) l
  else inR ((l[0]?).getD null) (l.drop 1) (boolV false)
mutual
noncomputable def evalE (cols : List Cel) (row ps : List Val) : Ex → Val
  | .mk k op n v src nm d args => nodeV cols row ps (.mk k op n v src nm d args) (evalL cols row ps args)
noncomputable def evalL (cols : List Cel) (row ps : List Val) : List Ex → List Val
  | [] => []
  | e :: r => evalE cols row ps e :: evalL cols row ps r
end
theorem evalE_eq (cols : List Cel) (row ps : List Val) (e : Ex) : evalE cols row ps e = nodeV cols row ps e (evalL cols row ps e.args) := by
  cases e
  rw [evalE]
  rfl
theorem evalL_cons (cols : List Cel) (row ps : List Val) (e : Ex) (r : List Ex) : evalL cols row ps (e :: r) = evalE cols row ps e :: evalL cols row ps r := by rw [evalL]
theorem evalL_nil (cols : List Cel) (row ps : List Val) : evalL cols row ps [] = [] := by rw [evalL]
theorem evalL_len (cols : List Cel) (row ps : List Val) : ∀ l : List Ex, (evalL cols row ps l).length = l.length
  | [] => by rw [evalL_nil]; rfl
  | e :: r => by rw [evalL_cons, List.length_cons, evalL_len cols row ps r, List.length_cons]
def kindsV (l : List Val) : List Int := l.map fun v => (plainV v).k
theorem kindL_ok (cols : List Cel) (ps : List Int) : ∀ l : List Ex, (kindL cols ps l).2 = 0 → ∀ a ∈ l, (kindE cols ps a).2 = 0
  | [], _, _, h => by simp at h
  | e :: r, h, a, ha => by
    rw [kindL_cons] at h
    by_cases h1 : (kindE cols ps e).2 = 0
    · rw [if_pos h1] at h
      by_cases h2 : (kindL cols ps r).2 = 0
      · rcases List.mem_cons.1 ha with rfl | ha
        · exact h1
        · exact kindL_ok cols ps r h2 a ha
      · rw [if_neg h2] at h
        exact absurd h h2
    · rw [if_neg h1] at h
      exact absurd h h1
theorem kindE_ok {cols : List Cel} {ps : List Int} {e : Ex} (h : (kindE cols ps e).2 = 0) : (∀ a ∈ e.args, (kindE cols ps a).2 = 0) ∧ exF e = 0 ∧ (leafK cols ps e).2 = 0 := by
  rw [kindE_eq] at h
  by_cases h1 : (kindL cols ps e.args).2 = 0
  · rw [if_pos h1] at h
    refine ⟨kindL_ok cols ps _ h1, ?_⟩
    unfold nodeS at h
    by_cases h2 : exF e = 0
    · refine ⟨h2, ?_⟩
      rw [if_neg (by simpa using h2)] at h
      by_cases h3 : (leafK cols ps e).2 = 0
      · exact h3
      · rw [if_pos h3] at h
        exact absurd h h3
    · rw [if_pos h2] at h
      exact absurd h h2
  · rw [if_neg h1] at h
    exact absurd h h1
theorem vals_snoc (acc : List Val) (v : Val) : (acc ++ [v]).map rowV = acc.map rowV ++ [rowV v] := by simp
theorem l_value (cols : List Cel) (row ps : List Val) (args : List Ex) (hlen : args.length ≤ 40000) (ih : ∀ a ∈ args, R K (.call 106 [.agg [colsC cols, RV row, RV ps], .agg (exC a)] []) = some (enc (evalE cols row ps a), [])) (H0 : List AV) (hH : locsL H0 = []) (ks : List It) : ∀ (m j : Nat) (i : Int) (acc : List Val) (Bo : Code), Loop Tryz.f106 0 Bo → i = (j : Int) → args.length = j + m → acc.length = j →
   RL K (.run 106 0 (.code Bo :: .lp Bo (some ([2, 3, 4, 5, 9, 10, 11], [])) 4 :: .blk 0 4 :: ks) [(2, .ptr 0 0), (3, .ptr 1 0), (4, .ptr 2 0), (5, .own 3 acc.length), (9, .rows (exR args)), (10, I (args.length : Int)), (11, I i)] [.cells [colsC cols, RV row, RV ps], .cells H0, .cells [I 0, I 0, .str []], .rows 3 (acc.map rowV) false]) =
   R K (.run 106 0 ks [(2, .ptr 0 0), (3, .ptr 1 0), (4, .ptr 2 0), (5, .own 3 (acc ++ evalL cols row ps (args.drop j)).length)] [.cells [colsC cols, RV row, RV ps], .cells H0, .cells [I 0, I 0, .str []], .rows 3 ((acc ++ evalL cols row ps (args.drop j)).map rowV) false])
  | 0, j, i, acc, Bo, hB, hi, hj, ha => by
    subst hi
    have h1 : decide ((j : Int) < (args.length : Int)) = false := decide_eq_false (by omega)
    rw [List.drop_of_length_le (by omega)]
    simp only [evalL_nil, List.append_nil]
    unfold Loop at hB
    simp -implicitDefEqProofs only [go_sem, simprocAttr, Tryz.f106, loopOf] at hB
    subst hB
    rw [RL_eq]
    simp -implicitDefEqProofs only [go_sem, simprocAttr, h1, hH]
  | m + 1, j, i, acc, Bo, hB, hi, hj, ha => by
    subst hi
    have hB' := hB
    have h1 : decide ((j : Int) < (args.length : Int)) = true := decide_eq_true (by omega)
    have h7 := next_id (i := j) (n := args.length) (by omega) (by omega)
    obtain ⟨x, hx⟩ := some_at (l := args) (i := j) (by omega)
    have hg := ex_get hx
    have r := ih x (List.mem_of_getElem? hx)
    have hr := room_small (acc.length + 1) (by omega)
    have ih2 := l_value cols row ps args hlen ih H0 hH ks m (j + 1) _ (acc ++ [evalE cols row ps x]) Bo hB' rfl (by omega) (by simp; omega)
    rw [drop_ex' hx, evalL_cons]
    simp only [List.append_assoc, List.cons_append, List.nil_append] at ih2
    simp only [enc] at r
    unfold Loop at hB
    simp -implicitDefEqProofs only [go_sem, simprocAttr, Tryz.f106, loopOf] at hB
    subst hB
    rw [RL_eq]
    simp -implicitDefEqProofs only [go_sem, simprocAttr, h1, hH, h7, hg, exC_len, exC_take, r, hr]
    simp only [vals_snoc, rowV, List.length_append, List.length_cons, List.length_nil, Nat.zero_add] at ih2 ⊢
    rw [ih2]
    try simp only [List.length_append, List.length_cons]
theorem c_value (cols : List Cel) (row ps : List Val) (hrow : row.length = cols.length) (hc : cols.length ≤ 1000000) (hp : ps.length ≤ 1000000) : ∀ e : Ex, exN e ≤ 40000 → (kindE cols (kindsV ps) e).2 = 0 → R K (.call 106 [.agg [colsC cols, RV row, RV ps], .agg (exC e)] []) = some (enc (evalE cols row ps e), []) := by
  refine Ex.ind fun e ih => ?_
  intro hN hk
  obtain ⟨hka, h1, h2⟩ := kindE_ok hk
  obtain ⟨hx1, hx2, hx3⟩ := exF_args h1
  have hN2 : exNs e.args ≤ 40000 := by cases e; simp only [exN, Ex.args] at hN ⊢; omega
  have hl := exNs_len e.args
  have ih : ∀ a ∈ e.args, R K (.call 106 [.agg [colsC cols, RV row, RV ps], .agg (exC a)] []) = some (enc (evalE cols row ps a), []) := fun a ha => ih a ha (by have := exN_mem ha; omega) (hka a ha)
  have lk := fun ks B hB => l_value cols row ps e.args (by omega) ih (exC e) (exC_locs e) ks e.args.length 0 0 [] B hB rfl (by omega) rfl
  simp only [List.drop_zero, List.length_nil, List.map_nil, List.nil_append] at lk
  rw [evalE_eq]
  have hln := evalL_len cols row ps e.args
  generalize evalL cols row ps e.args = l at lk hln ⊢
  simp only [exC_eq] at lk
  have hb := (wit_iff _ _ _).1 hx1
  rw [call_106]
  simp -implicitDefEqProofs only [go_sem, simprocAttr, Tryz.f106, exC_eq, exR_len]
  rw [lk _ _ ?_]
  rotate_left
  · rfl
  unfold nodeV
  by_cases q1 : e.k = 1
  · rw [if_pos q1]
    simp -implicitDefEqProofs only [go_sem, simprocAttr, q1, beq_self_eq_true]
    try rfl
  have nb1 : (e.k == 1) = false := by simpa using q1
  rw [if_neg q1]
  by_cases q2 : e.k = 2
  · rw [if_pos q2]
    unfold leafK at h2
    rw [if_neg q1, if_pos q2] at h2
    have hw : within e.n 0 (((kindsV ps).length : Int) - 1) = true := by
      by_cases hw : within e.n 0 (((kindsV ps).length : Int) - 1) = true
      · exact hw
      · rw [if_neg hw] at h2; exact absurd h2 (by decide)
    have hbn := (wit_iff _ _ _).1 hw
    have hkl : (kindsV ps).length = ps.length := by unfold kindsV; rw [List.length_map]
    obtain ⟨x, hx⟩ := some_at (l := ps) (i := e.n.toNat) (by omega)
    have hg : at? (ps.map rowV) e.n = some (rowV x) := by unfold at?; rw [if_pos hbn.1]; simp [hx]
    rw [hx, Option.getD_some]
    have cp := c_plain x.k x.n x.s
    rw [Val.eta] at cp
    simp -implicitDefEqProofs only [go_sem, simprocAttr, q2, beq_self_eq_true, hg, rowV, cp]
    try rfl
  have nb2 : (e.k == 2) = false := by simpa using q2
  rw [if_neg q2]
  by_cases q3 : e.k = 3
  · rw [if_pos q3]
    unfold leafK at h2
    rw [if_neg q1, if_neg q2, if_pos q3] at h2
    have hw : 0 ≤ findC e.src e.nm cols 0 := by
      by_cases hw : 0 ≤ findC e.src e.nm cols 0
      · exact hw
      · rw [if_neg hw] at h2; exact absurd h2 (by decide)
    have hbf := findC_bound e.src e.nm cols 0 hw
    obtain ⟨x, hx⟩ := some_at (l := row) (i := (findC e.src e.nm cols 0).toNat) (by omega)
    have hg : at? (row.map rowV) (findC e.src e.nm cols 0) = some (rowV x) := by unfold at?; rw [if_pos hw]; simp [hx]
    rw [hx, Option.getD_some]
    have cp := c_plain x.k x.n x.s
    rw [Val.eta] at cp
    have hcl := c_column cols hc e
    simp only [exC_eq] at hcl
    rw [q3] at hcl
    simp -implicitDefEqProofs only [go_sem, simprocAttr, q3, beq_self_eq_true, hcl, hg, rowV, cp]
    try rfl
  have nb3 : (e.k == 3) = false := by simpa using q3
  rw [if_neg q3]
  by_cases q4 : e.k = 4
  · rw [if_pos q4]
    have co := c_V e.op e.n l (by omega) (hx2 q4) (by rw [hln]; rw [q4] at hx3; exact hx3)
    simp -implicitDefEqProofs only [go_sem, simprocAttr, q4, beq_self_eq_true, co, List.length_map]
    try rfl
  have nb4 : (e.k == 4) = false := by simpa using q4
  rw [if_neg q4]
  by_cases q5 : e.k = 5
  · rw [if_pos q5]
    have h3' : 3 ≤ (e.args.length : Int) := by
      rw [q5] at hx3; simp [argsOk] at hx3; omega
    obtain ⟨d, hd⟩ := some_at (l := l) (i := l.length - 1) (by omega)
    have co := c_Case l (by omega) d hd
    rw [hd, Option.getD_some]
    simp -implicitDefEqProofs only [go_sem, simprocAttr, q5, beq_self_eq_true, co, List.length_map]
    try rfl
  have nb5 : (e.k == 5) = false := by simpa using q5
  rw [if_neg q5]
  have q6 : e.k = 6 := by omega
  have h3' : 2 ≤ (e.args.length : Int) := by
    rw [q6] at hx3; simp [argsOk] at hx3; omega
  obtain ⟨a, ha⟩ := some_at (l := l) (i := 0) (by omega)
  have hg : at? (l.map rowV) 0 = some (rowV a) := val_get ha
  have hg2 : (l.map rowV)[0]? = some [.int .i64 a.k, .int .i64 a.n, .str a.s] := by simp [ha, rowV]
  have c1 : ((1 : Int) ≤ (l.length : Int)) = True := eq_true (by omega)
  have hcut : List.take (l.length - 1) (List.drop 1 (l.map rowV)) = (l.drop 1).map rowV := by
    rw [List.take_of_length_le (by simp), List.map_drop]
  have co := c_In a (l.drop 1) (by simp; omega)
  rw [ha, Option.getD_some]
  simp -implicitDefEqProofs only [go_sem, simprocAttr, nb1, nb2, nb3, nb4, nb5, co, List.length_map, hg, hg2, rowV, c1, hcut, allLen_vals, Int.toNat_natCast]
  try rfl
theorem l_rvalue (cols : List Cel) (row ps : List Val) (args : List Ex) (hlen : args.length ≤ 40000) (ih : ∀ a ∈ args, R K (.call 110 [.agg (exC a), colsC cols, RV row, RV ps] []) = some (enc (evalE cols row ps a), [])) (H0 : List AV) (hH : locsL H0 = []) (ks : List It) : ∀ (m j : Nat) (i : Int) (acc : List Val) (Bo : Code), Loop Tryz.f110 0 Bo → i = (j : Int) → args.length = j + m → acc.length = j →
   RL K (.run 110 0 (.code Bo :: .lp Bo (some ([1, 2, 3, 4, 8, 9, 13, 14, 15], [])) 3 :: .blk 0 3 :: ks) [(1, colsC cols), (2, RV row), (3, RV ps), (4, .ptr 0 0), (8, .ptr 1 0), (9, .own 2 acc.length), (13, .rows (exR args)), (14, I (args.length : Int)), (15, I i)] [.cells H0, .cells [I 0, I 0, .str []], .rows 3 (acc.map rowV) false]) =
   R K (.run 110 0 ks [(1, colsC cols), (2, RV row), (3, RV ps), (4, .ptr 0 0), (8, .ptr 1 0), (9, .own 2 (acc ++ evalL cols row ps (args.drop j)).length)] [.cells H0, .cells [I 0, I 0, .str []], .rows 3 ((acc ++ evalL cols row ps (args.drop j)).map rowV) false])
  | 0, j, i, acc, Bo, hB, hi, hj, ha => by
    subst hi
    have h1 : decide ((j : Int) < (args.length : Int)) = false := decide_eq_false (by omega)
    rw [List.drop_of_length_le (by omega)]
    simp only [evalL_nil, List.append_nil]
    unfold Loop at hB
    simp -implicitDefEqProofs only [go_sem, simprocAttr, Tryz.f110, loopOf] at hB
    subst hB
    rw [RL_eq]
    simp -implicitDefEqProofs only [go_sem, simprocAttr, h1, hH]
  | m + 1, j, i, acc, Bo, hB, hi, hj, ha => by
    subst hi
    have hB' := hB
    have h1 : decide ((j : Int) < (args.length : Int)) = true := decide_eq_true (by omega)
    have h7 := next_id (i := j) (n := args.length) (by omega) (by omega)
    obtain ⟨x, hx⟩ := some_at (l := args) (i := j) (by omega)
    have hg := ex_get hx
    have r := ih x (List.mem_of_getElem? hx)
    have hr := room_small (acc.length + 1) (by omega)
    have ih2 := l_rvalue cols row ps args hlen ih H0 hH ks m (j + 1) _ (acc ++ [evalE cols row ps x]) Bo hB' rfl (by omega) (by simp; omega)
    rw [drop_ex' hx, evalL_cons]
    simp only [List.append_assoc, List.cons_append, List.nil_append] at ih2
    simp only [enc] at r
    unfold Loop at hB
    simp -implicitDefEqProofs only [go_sem, simprocAttr, Tryz.f110, loopOf] at hB
    subst hB
    rw [RL_eq]
    simp -implicitDefEqProofs only [go_sem, simprocAttr, h1, hH, h7, hg, exC_len, exC_take, r, hr]
    simp only [vals_snoc, rowV, List.length_append, List.length_cons, List.length_nil, Nat.zero_add] at ih2 ⊢
    rw [ih2]
    try simp only [List.length_append, List.length_cons]
theorem r_value (cols : List Cel) (row ps : List Val) (hrow : row.length = cols.length) (hc : cols.length ≤ 1000000) (hp : ps.length ≤ 1000000) : ∀ e : Ex, exN e ≤ 40000 → (kindE cols (kindsV ps) e).2 = 0 → R K (.call 110 [.agg (exC e), colsC cols, RV row, RV ps] []) = some (enc (evalE cols row ps e), []) := by
  refine Ex.ind fun e ih => ?_
  intro hN hk
  obtain ⟨hka, h1, h2⟩ := kindE_ok hk
  obtain ⟨hx1, hx2, hx3⟩ := exF_args h1
  have hN2 : exNs e.args ≤ 40000 := by cases e; simp only [exN, Ex.args] at hN ⊢; omega
  have hl := exNs_len e.args
  have ih : ∀ a ∈ e.args, R K (.call 110 [.agg (exC a), colsC cols, RV row, RV ps] []) = some (enc (evalE cols row ps a), []) := fun a ha => ih a ha (by have := exN_mem ha; omega) (hka a ha)
  have lk := fun ks B hB => l_rvalue cols row ps e.args (by omega) ih (exC e) (exC_locs e) ks e.args.length 0 0 [] B hB rfl (by omega) rfl
  simp only [List.drop_zero, List.length_nil, List.map_nil, List.nil_append] at lk
  rw [evalE_eq]
  have hln := evalL_len cols row ps e.args
  generalize evalL cols row ps e.args = l at lk hln ⊢
  simp only [exC_eq] at lk
  have hb := (wit_iff _ _ _).1 hx1
  rw [call_110]
  simp -implicitDefEqProofs only [go_sem, simprocAttr, Tryz.f110, exC_eq, exR_len]
  rw [lk _ _ ?_]
  rotate_left
  · rfl
  unfold nodeV
  by_cases q1 : e.k = 1
  · rw [if_pos q1]
    simp -implicitDefEqProofs only [go_sem, simprocAttr, q1, beq_self_eq_true]
    try rfl
  have nb1 : (e.k == 1) = false := by simpa using q1
  rw [if_neg q1]
  by_cases q2 : e.k = 2
  · rw [if_pos q2]
    unfold leafK at h2
    rw [if_neg q1, if_pos q2] at h2
    have hw : within e.n 0 (((kindsV ps).length : Int) - 1) = true := by
      by_cases hw : within e.n 0 (((kindsV ps).length : Int) - 1) = true
      · exact hw
      · rw [if_neg hw] at h2; exact absurd h2 (by decide)
    have hbn := (wit_iff _ _ _).1 hw
    have hkl : (kindsV ps).length = ps.length := by unfold kindsV; rw [List.length_map]
    obtain ⟨x, hx⟩ := some_at (l := ps) (i := e.n.toNat) (by omega)
    have hg : at? (ps.map rowV) e.n = some (rowV x) := by unfold at?; rw [if_pos hbn.1]; simp [hx]
    rw [hx, Option.getD_some]
    have cp := r_right x.k x.n x.s
    rw [Val.eta] at cp
    simp -implicitDefEqProofs only [go_sem, simprocAttr, q2, beq_self_eq_true, hg, rowV, cp]
    try rfl
  have nb2 : (e.k == 2) = false := by simpa using q2
  rw [if_neg q2]
  by_cases q3 : e.k = 3
  · rw [if_pos q3]
    unfold leafK at h2
    rw [if_neg q1, if_neg q2, if_pos q3] at h2
    have hw : 0 ≤ findC e.src e.nm cols 0 := by
      by_cases hw : 0 ≤ findC e.src e.nm cols 0
      · exact hw
      · rw [if_neg hw] at h2; exact absurd h2 (by decide)
    have hbf := findC_bound e.src e.nm cols 0 hw
    obtain ⟨x, hx⟩ := some_at (l := row) (i := (findC e.src e.nm cols 0).toNat) (by omega)
    have hg : at? (row.map rowV) (findC e.src e.nm cols 0) = some (rowV x) := by unfold at?; rw [if_pos hw]; simp [hx]
    rw [hx, Option.getD_some]
    have cp := r_right x.k x.n x.s
    rw [Val.eta] at cp
    have hcl := r_found cols hc e.src e.nm
    simp -implicitDefEqProofs only [go_sem, simprocAttr, q3, beq_self_eq_true, hcl, hg, rowV, cp]
    try rfl
  have nb3 : (e.k == 3) = false := by simpa using q3
  rw [if_neg q3]
  by_cases q4 : e.k = 4
  · rw [if_pos q4]
    have co := r_V e.op e.n l (by omega) (hx2 q4) (by rw [hln]; rw [q4] at hx3; exact hx3)
    simp -implicitDefEqProofs only [go_sem, simprocAttr, q4, beq_self_eq_true, co, List.length_map]
    try rfl
  have nb4 : (e.k == 4) = false := by simpa using q4
  rw [if_neg q4]
  by_cases q5 : e.k = 5
  · rw [if_pos q5]
    have h3' : 3 ≤ (e.args.length : Int) := by
      rw [q5] at hx3; simp [argsOk] at hx3; omega
    obtain ⟨d, hd⟩ := some_at (l := l) (i := l.length - 1) (by omega)
    have co := r_chosen5 e q5 l (by omega) d hd
    simp only [exC_eq] at co
    rw [q5] at co
    rw [hd, Option.getD_some]
    simp -implicitDefEqProofs only [go_sem, simprocAttr, q5, beq_self_eq_true, co, List.length_map]
    try rfl
  have nb5 : (e.k == 5) = false := by simpa using q5
  rw [if_neg q5]
  have q6 : e.k = 6 := by omega
  have h3' : 2 ≤ (e.args.length : Int) := by
    rw [q6] at hx3; simp [argsOk] at hx3; omega
  obtain ⟨a, ha⟩ := some_at (l := l) (i := 0) (by omega)
  have hg : at? (l.map rowV) 0 = some (rowV a) := val_get ha
  have hg2 : (l.map rowV)[0]? = some [.int .i64 a.k, .int .i64 a.n, .str a.s] := by simp [ha, rowV]
  have c1 : ((1 : Int) ≤ (l.length : Int)) = True := eq_true (by omega)
  have hcut : List.take (l.length - 1) (List.drop 1 (l.map rowV)) = (l.drop 1).map rowV := by
    rw [List.take_of_length_le (by simp), List.map_drop]
  have co := r_chosen6 e q6 l (by omega) a ha
  simp only [exC_eq] at co
  rw [ha, Option.getD_some]
  simp -implicitDefEqProofs only [go_sem, simprocAttr, nb1, nb2, nb3, nb4, nb5, co, List.length_map, hg, hg2, rowV, c1, hcut, allLen_vals, Int.toNat_natCast]
  try rfl
theorem kindsV_nn (ps : List Val) : ∀ x ∈ kindsV ps, 0 ≤ x := by
  intro x hx
  unfold kindsV at hx
  obtain ⟨v, _, rfl⟩ := List.mem_map.1 hx
  exact (right_bounds v).1.1
theorem kindsV_len (ps : List Val) : (kindsV ps).length = ps.length := by unfold kindsV; rw [List.length_map]
theorem l_PK (l : List Val) (hl : l.length ≤ 100000) (ks : List It) : ∀ (m j : Nat) (i : Int) (acc : List Int) (Bo : Code), Loop Tryz.f109 0 Bo → i = (j : Int) → l.length = j + m → acc.length = j →
   RL K (.run 109 0 (.code Bo :: .lp Bo (some ([3, 6, 7, 8], [])) 1 :: .blk 0 1 :: ks) [(3, .own 0 acc.length), (6, RV l), (7, I l.length), (8, I i)] [.rows 1 (acc.map fun x => [I x]) false]) =
   R K (.run 109 0 ks [(3, .own 0 (acc ++ kindsV (l.drop j)).length)] [.rows 1 ((acc ++ kindsV (l.drop j)).map fun x => [I x]) false])
  | 0, j, i, acc, Bo, hB, hi, hj, ha => by
    subst hi
    have h1 : decide ((j : Int) < (l.length : Int)) = false := decide_eq_false (by omega)
    rw [List.drop_of_length_le (by omega)]
    simp only [kindsV, List.map_nil, List.append_nil]
    unfold Loop at hB
    simp -implicitDefEqProofs only [go_sem, simprocAttr, Tryz.f109, loopOf] at hB
    subst hB
    rw [RL_eq]
    simp -implicitDefEqProofs only [go_sem, simprocAttr, h1]
  | m + 1, j, i, acc, Bo, hB, hi, hj, ha => by
    subst hi
    have hB' := hB
    have h1 : decide ((j : Int) < (l.length : Int)) = true := decide_eq_true (by omega)
    have h7 := next_id (i := j) (n := l.length) (by omega) (by omega)
    obtain ⟨x, hx⟩ := some_at (l := l) (i := j) (by omega)
    have hg := val_get hx
    have r := r_right x.k x.n x.s
    rw [Val.eta] at r
    have hr := room_small (acc.length + 1) (by omega)
    have ih2 := l_PK l hl ks m (j + 1) _ (acc ++ [(plainV x).k]) Bo hB' rfl (by omega) (by simp; omega)
    rw [drop_get hx]
    simp only [kindsV, List.map_cons, List.append_assoc, List.cons_append, List.nil_append] at ih2 ⊢
    simp only [enc] at r
    unfold Loop at hB
    simp -implicitDefEqProofs only [go_sem, simprocAttr, Tryz.f109, loopOf] at hB
    subst hB
    rw [RL_eq]
    simp -implicitDefEqProofs only [go_sem, simprocAttr, h1, h7, hg, rowV, r, hr]
    simp only [← ints_snoc, List.length_append, List.length_cons, List.length_nil, Nat.zero_add] at ih2
    rw [ih2]
    try simp only [List.length_append, List.length_cons, List.length_map]
theorem r_PK (l : List Val) (hl : l.length ≤ 100000) : R K (.call 109 [RV l] []) = some (LR (kindsV l), []) := by
  have lk := fun ks B hB => l_PK l hl ks l.length 0 0 [] B hB rfl (by omega) rfl
  simp only [List.drop_zero, List.length_nil, List.map_nil, List.nil_append] at lk
  rw [call_109]
  simp -implicitDefEqProofs only [go_sem, simprocAttr, Tryz.f109, List.length_map]
  rw [lk _ _ ?_]
  · simp -implicitDefEqProofs only [go_sem, simprocAttr, List.length_map]
  · rfl
theorem l_EK (cols : List Cel) (row l : List Val) (hl : l.length ≤ 100000) (H0 : List AV) (hH : locsL H0 = []) (ks : List It) : ∀ (m j : Nat) (i : Int) (acc : List Int) (Bo : Code), Loop Tryz.f45 0 Bo → i = (j : Int) → l.length = j + m → acc.length = j →
   RL K (.run 45 0 (.code Bo :: .lp Bo (some ([1, 2, 3, 4, 8, 10, 15, 16, 17], [])) 3 :: .blk 0 3 :: ks) [(1, colsC cols), (2, RV row), (3, RV l), (4, .ptr 0 0), (8, .ptr 1 0), (10, .own 2 acc.length), (15, RV l), (16, I l.length), (17, I i)] [.cells H0, .cells [I 0, I 0, .str []], .rows 1 (acc.map fun x => [I x]) false]) =
   R K (.run 45 0 ks [(1, colsC cols), (2, RV row), (3, RV l), (4, .ptr 0 0), (8, .ptr 1 0), (10, .own 2 (acc ++ kindsV (l.drop j)).length)] [.cells H0, .cells [I 0, I 0, .str []], .rows 1 ((acc ++ kindsV (l.drop j)).map fun x => [I x]) false])
  | 0, j, i, acc, Bo, hB, hi, hj, ha => by
    subst hi
    have h1 : decide ((j : Int) < (l.length : Int)) = false := decide_eq_false (by omega)
    rw [List.drop_of_length_le (by omega)]
    simp only [kindsV, List.map_nil, List.append_nil]
    unfold Loop at hB
    simp -implicitDefEqProofs only [go_sem, simprocAttr, Tryz.f45, loopOf] at hB
    subst hB
    rw [RL_eq]
    simp -implicitDefEqProofs only [go_sem, simprocAttr, h1, hH]
  | m + 1, j, i, acc, Bo, hB, hi, hj, ha => by
    subst hi
    have hB' := hB
    have h1 : decide ((j : Int) < (l.length : Int)) = true := decide_eq_true (by omega)
    have h7 := next_id (i := j) (n := l.length) (by omega) (by omega)
    obtain ⟨x, hx⟩ := some_at (l := l) (i := j) (by omega)
    have hg := val_get hx
    have r := c_plain x.k x.n x.s
    rw [Val.eta] at r
    have hr := room_small (acc.length + 1) (by omega)
    have ih2 := l_EK cols row l hl H0 hH ks m (j + 1) _ (acc ++ [(plainV x).k]) Bo hB' rfl (by omega) (by simp; omega)
    rw [drop_get hx]
    simp only [kindsV, List.map_cons, List.append_assoc, List.cons_append, List.nil_append] at ih2 ⊢
    simp only [enc] at r
    unfold Loop at hB
    simp -implicitDefEqProofs only [go_sem, simprocAttr, Tryz.f45, loopOf] at hB
    subst hB
    rw [RL_eq]
    simp -implicitDefEqProofs only [go_sem, simprocAttr, h1, hH, h7, hg, rowV, r, hr]
    simp only [← ints_snoc, List.length_append, List.length_cons, List.length_nil, Nat.zero_add] at ih2
    rw [ih2]
    try simp only [List.length_append, List.length_cons, List.length_map]
noncomputable def evalT (cols : List Cel) (row ps : List Val) (e : Ex) : Val × Int :=
  if smallS e = true then (if (kindE cols (kindsV ps) e).2 = 0 then (if row.length = cols.length then (evalE cols row ps e, 0) else (null, 3)) else (null, (kindE cols (kindsV ps) e).2)) else (null, 2)
end Go.Ab
