/- What is proved: contracts of the program's and the reference's functions in the evaluator, and plain laws on them. Conditions: as each states. -/
import Derived.Test.YtnckdofnpjaibaaGreatDoorMQ1
set_option linter.unusedSimpArgs false
set_option linter.unusedVariables false
set_option maxRecDepth 100000
namespace Go.Ab
open Go Go.Proofs
theorem r_momentFrom (s : List UInt8) : ∃ w b, R K (.call 122 [.str s] []) = some (.tup [enc w, .bool b], []) ∧ b = decide ((dreadS s).k = 4) ∧ (b = true → w = dreadS s) := by
  by_cases hs : s.length = 19
  rotate_left
  · have e : dreadS s = null := if_neg hs
    have hb : (((s.length : Nat) : Int) != 19) = true := by simpa using (fun h => hs (by omega) : ¬ ((s.length : Nat) : Int) = 19)
    refine ⟨null, false, ?_, by rw [e]; rfl, fun h => by simp at h⟩
    rw [call_122]
    simp -implicitDefEqProofs only [↓reduceIte, go_sem, Nat.reduceAdd, Nat.reduceSub, Nat.reduceMul, Nat.reduceBEq, Nat.reduceLeDiff, Nat.reduceLT, Nat.reduceEqDiff, reduceCtorEq, Int.reduceBEq, Int.reduceBNe, Int.reduceLT, Int.reduceLE, Int.reduceAdd, Int.reduceSub, Int.reduceMul, Int.reduceNeg, Int.reduceEq, Int.reduceToNat, Tryz.f122, hb]
    repeat' ((first | refine split_cond (fun hc => ?_) (fun hc => ?_) | refine split_yes (fun hc => ?_) (fun hc => ?_) | refine split_no (fun hc => ?_) (fun hc => ?_)) <;> simp -implicitDefEqProofs only [hc, ↓reduceIte, go_sem, Nat.reduceAdd, Nat.reduceSub, Nat.reduceMul, Nat.reduceBEq, Nat.reduceLeDiff, Nat.reduceLT, Nat.reduceEqDiff, reduceCtorEq, Int.reduceBEq, Int.reduceBNe, Int.reduceLT, Int.reduceLE, Int.reduceAdd, Int.reduceSub, Int.reduceMul, Int.reduceNeg, Int.reduceEq, Int.reduceToNat, hb])
    rfl
  have hsI : ((s.length : Nat) : Int) = 19 := by omega
  have lt : ∀ (k : Nat) (l : List UInt8), (List.take k l).length ≤ 281474976710656 ∨ 281474976710656 < k := fun k l => by
    rcases Nat.lt_or_ge 281474976710656 k with h | h
    · exact .inr h
    · exact .inl (Nat.le_trans (List.length_take_le _ _) h)
  cases h0 : atoiN (List.take 4 s) with
  | none =>
    have e := six_no (s := s) (.inl h0)
    obtain ⟨z, a0⟩ := p_Atoi_no (List.take 4 s) ((lt _ _).resolve_right (by omega)) h0
    refine ⟨null, false, ?_, by rw [e]; rfl, fun h => by simp at h⟩
    rw [call_122]
    simp -implicitDefEqProofs only [↓reduceIte, go_sem, Nat.reduceAdd, Nat.reduceSub, Nat.reduceMul, Nat.reduceBEq, Nat.reduceLeDiff, Nat.reduceLT, Nat.reduceEqDiff, reduceCtorEq, Int.reduceBEq, Int.reduceBNe, Int.reduceLT, Int.reduceLE, Int.reduceAdd, Int.reduceSub, Int.reduceMul, Int.reduceNeg, Int.reduceEq, Int.reduceToNat, Tryz.f122, hs, hsI]
    repeat' ((first | refine split_cond (fun hc => ?_) (fun hc => ?_) | refine split_yes (fun hc => ?_) (fun hc => ?_) | refine split_no (fun hc => ?_) (fun hc => ?_)) <;> simp -implicitDefEqProofs only [hc, ↓reduceIte, go_sem, Nat.reduceAdd, Nat.reduceSub, Nat.reduceMul, Nat.reduceBEq, Nat.reduceLeDiff, Nat.reduceLT, Nat.reduceEqDiff, reduceCtorEq, Int.reduceBEq, Int.reduceBNe, Int.reduceLT, Int.reduceLE, Int.reduceAdd, Int.reduceSub, Int.reduceMul, Int.reduceNeg, Int.reduceEq, Int.reduceToNat, hs, hsI])
    rw [RL_eq]
    simp -implicitDefEqProofs only [↓reduceIte, go_sem, Nat.reduceAdd, Nat.reduceSub, Nat.reduceMul, Nat.reduceBEq, Nat.reduceLeDiff, Nat.reduceLT, Nat.reduceEqDiff, reduceCtorEq, Int.reduceBEq, Int.reduceBNe, Int.reduceLT, Int.reduceLE, Int.reduceAdd, Int.reduceSub, Int.reduceMul, Int.reduceNeg, Int.reduceEq, Int.reduceToNat, hs, hsI, at?, small_room, a0]
    repeat' ((first | refine split_cond (fun hc => ?_) (fun hc => ?_) | refine split_yes (fun hc => ?_) (fun hc => ?_) | refine split_no (fun hc => ?_) (fun hc => ?_)) <;> simp -implicitDefEqProofs only [hc, ↓reduceIte, go_sem, Nat.reduceAdd, Nat.reduceSub, Nat.reduceMul, Nat.reduceBEq, Nat.reduceLeDiff, Nat.reduceLT, Nat.reduceEqDiff, reduceCtorEq, Int.reduceBEq, Int.reduceBNe, Int.reduceLT, Int.reduceLE, Int.reduceAdd, Int.reduceSub, Int.reduceMul, Int.reduceNeg, Int.reduceEq, Int.reduceToNat, hs, hsI, at?, small_room, a0])
    rfl
  | some n0 =>
    have a0 := p_Atoi_ok (List.take 4 s) n0 ((lt _ _).resolve_right (by omega)) h0
    cases h1 : atoiN (List.take 2 (List.drop 5 s)) with
    | none =>
      have e := six_no (s := s) (.inr (.inl h1))
      obtain ⟨z, a1⟩ := p_Atoi_no (List.take 2 (List.drop 5 s)) ((lt _ _).resolve_right (by omega)) h1
      refine ⟨null, false, ?_, by rw [e]; rfl, fun h => by simp at h⟩
      rw [call_122]
      simp -implicitDefEqProofs only [↓reduceIte, go_sem, Nat.reduceAdd, Nat.reduceSub, Nat.reduceMul, Nat.reduceBEq, Nat.reduceLeDiff, Nat.reduceLT, Nat.reduceEqDiff, reduceCtorEq, Int.reduceBEq, Int.reduceBNe, Int.reduceLT, Int.reduceLE, Int.reduceAdd, Int.reduceSub, Int.reduceMul, Int.reduceNeg, Int.reduceEq, Int.reduceToNat, Tryz.f122, hs, hsI]
      repeat' ((first | refine split_cond (fun hc => ?_) (fun hc => ?_) | refine split_yes (fun hc => ?_) (fun hc => ?_) | refine split_no (fun hc => ?_) (fun hc => ?_)) <;> simp -implicitDefEqProofs only [hc, ↓reduceIte, go_sem, Nat.reduceAdd, Nat.reduceSub, Nat.reduceMul, Nat.reduceBEq, Nat.reduceLeDiff, Nat.reduceLT, Nat.reduceEqDiff, reduceCtorEq, Int.reduceBEq, Int.reduceBNe, Int.reduceLT, Int.reduceLE, Int.reduceAdd, Int.reduceSub, Int.reduceMul, Int.reduceNeg, Int.reduceEq, Int.reduceToNat, hs, hsI])
      rw [RL_eq]
      simp -implicitDefEqProofs only [↓reduceIte, go_sem, Nat.reduceAdd, Nat.reduceSub, Nat.reduceMul, Nat.reduceBEq, Nat.reduceLeDiff, Nat.reduceLT, Nat.reduceEqDiff, reduceCtorEq, Int.reduceBEq, Int.reduceBNe, Int.reduceLT, Int.reduceLE, Int.reduceAdd, Int.reduceSub, Int.reduceMul, Int.reduceNeg, Int.reduceEq, Int.reduceToNat, hs, hsI, at?, small_room, a0, a1]
      repeat' ((first | refine split_cond (fun hc => ?_) (fun hc => ?_) | refine split_yes (fun hc => ?_) (fun hc => ?_) | refine split_no (fun hc => ?_) (fun hc => ?_)) <;> simp -implicitDefEqProofs only [hc, ↓reduceIte, go_sem, Nat.reduceAdd, Nat.reduceSub, Nat.reduceMul, Nat.reduceBEq, Nat.reduceLeDiff, Nat.reduceLT, Nat.reduceEqDiff, reduceCtorEq, Int.reduceBEq, Int.reduceBNe, Int.reduceLT, Int.reduceLE, Int.reduceAdd, Int.reduceSub, Int.reduceMul, Int.reduceNeg, Int.reduceEq, Int.reduceToNat, hs, hsI, at?, small_room, a0, a1])
      rw [RL_eq]
      simp -implicitDefEqProofs only [↓reduceIte, go_sem, Nat.reduceAdd, Nat.reduceSub, Nat.reduceMul, Nat.reduceBEq, Nat.reduceLeDiff, Nat.reduceLT, Nat.reduceEqDiff, reduceCtorEq, Int.reduceBEq, Int.reduceBNe, Int.reduceLT, Int.reduceLE, Int.reduceAdd, Int.reduceSub, Int.reduceMul, Int.reduceNeg, Int.reduceEq, Int.reduceToNat, hs, hsI, at?, small_room, a0, a1]
      repeat' ((first | refine split_cond (fun hc => ?_) (fun hc => ?_) | refine split_yes (fun hc => ?_) (fun hc => ?_) | refine split_no (fun hc => ?_) (fun hc => ?_)) <;> simp -implicitDefEqProofs only [hc, ↓reduceIte, go_sem, Nat.reduceAdd, Nat.reduceSub, Nat.reduceMul, Nat.reduceBEq, Nat.reduceLeDiff, Nat.reduceLT, Nat.reduceEqDiff, reduceCtorEq, Int.reduceBEq, Int.reduceBNe, Int.reduceLT, Int.reduceLE, Int.reduceAdd, Int.reduceSub, Int.reduceMul, Int.reduceNeg, Int.reduceEq, Int.reduceToNat, hs, hsI, at?, small_room, a0, a1])
      rfl
    | some n1 =>
      have a1 := p_Atoi_ok (List.take 2 (List.drop 5 s)) n1 ((lt _ _).resolve_right (by omega)) h1
      cases h2 : atoiN (List.take 2 (List.drop 8 s)) with
      | none =>
        have e := six_no (s := s) (.inr (.inr (.inl h2)))
        obtain ⟨z, a2⟩ := p_Atoi_no (List.take 2 (List.drop 8 s)) ((lt _ _).resolve_right (by omega)) h2
        refine ⟨null, false, ?_, by rw [e]; rfl, fun h => by simp at h⟩
        rw [call_122]
        simp -implicitDefEqProofs only [↓reduceIte, go_sem, Nat.reduceAdd, Nat.reduceSub, Nat.reduceMul, Nat.reduceBEq, Nat.reduceLeDiff, Nat.reduceLT, Nat.reduceEqDiff, reduceCtorEq, Int.reduceBEq, Int.reduceBNe, Int.reduceLT, Int.reduceLE, Int.reduceAdd, Int.reduceSub, Int.reduceMul, Int.reduceNeg, Int.reduceEq, Int.reduceToNat, Tryz.f122, hs, hsI]
        repeat' ((first | refine split_cond (fun hc => ?_) (fun hc => ?_) | refine split_yes (fun hc => ?_) (fun hc => ?_) | refine split_no (fun hc => ?_) (fun hc => ?_)) <;> simp -implicitDefEqProofs only [hc, ↓reduceIte, go_sem, Nat.reduceAdd, Nat.reduceSub, Nat.reduceMul, Nat.reduceBEq, Nat.reduceLeDiff, Nat.reduceLT, Nat.reduceEqDiff, reduceCtorEq, Int.reduceBEq, Int.reduceBNe, Int.reduceLT, Int.reduceLE, Int.reduceAdd, Int.reduceSub, Int.reduceMul, Int.reduceNeg, Int.reduceEq, Int.reduceToNat, hs, hsI])
        rw [RL_eq]
        simp -implicitDefEqProofs only [↓reduceIte, go_sem, Nat.reduceAdd, Nat.reduceSub, Nat.reduceMul, Nat.reduceBEq, Nat.reduceLeDiff, Nat.reduceLT, Nat.reduceEqDiff, reduceCtorEq, Int.reduceBEq, Int.reduceBNe, Int.reduceLT, Int.reduceLE, Int.reduceAdd, Int.reduceSub, Int.reduceMul, Int.reduceNeg, Int.reduceEq, Int.reduceToNat, hs, hsI, at?, small_room, a0, a1, a2]
        repeat' ((first | refine split_cond (fun hc => ?_) (fun hc => ?_) | refine split_yes (fun hc => ?_) (fun hc => ?_) | refine split_no (fun hc => ?_) (fun hc => ?_)) <;> simp -implicitDefEqProofs only [hc, ↓reduceIte, go_sem, Nat.reduceAdd, Nat.reduceSub, Nat.reduceMul, Nat.reduceBEq, Nat.reduceLeDiff, Nat.reduceLT, Nat.reduceEqDiff, reduceCtorEq, Int.reduceBEq, Int.reduceBNe, Int.reduceLT, Int.reduceLE, Int.reduceAdd, Int.reduceSub, Int.reduceMul, Int.reduceNeg, Int.reduceEq, Int.reduceToNat, hs, hsI, at?, small_room, a0, a1, a2])
        rw [RL_eq]
        simp -implicitDefEqProofs only [↓reduceIte, go_sem, Nat.reduceAdd, Nat.reduceSub, Nat.reduceMul, Nat.reduceBEq, Nat.reduceLeDiff, Nat.reduceLT, Nat.reduceEqDiff, reduceCtorEq, Int.reduceBEq, Int.reduceBNe, Int.reduceLT, Int.reduceLE, Int.reduceAdd, Int.reduceSub, Int.reduceMul, Int.reduceNeg, Int.reduceEq, Int.reduceToNat, hs, hsI, at?, small_room, a0, a1, a2]
        repeat' ((first | refine split_cond (fun hc => ?_) (fun hc => ?_) | refine split_yes (fun hc => ?_) (fun hc => ?_) | refine split_no (fun hc => ?_) (fun hc => ?_)) <;> simp -implicitDefEqProofs only [hc, ↓reduceIte, go_sem, Nat.reduceAdd, Nat.reduceSub, Nat.reduceMul, Nat.reduceBEq, Nat.reduceLeDiff, Nat.reduceLT, Nat.reduceEqDiff, reduceCtorEq, Int.reduceBEq, Int.reduceBNe, Int.reduceLT, Int.reduceLE, Int.reduceAdd, Int.reduceSub, Int.reduceMul, Int.reduceNeg, Int.reduceEq, Int.reduceToNat, hs, hsI, at?, small_room, a0, a1, a2])
        rw [RL_eq]
        simp -implicitDefEqProofs only [↓reduceIte, go_sem, Nat.reduceAdd, Nat.reduceSub, Nat.reduceMul, Nat.reduceBEq, Nat.reduceLeDiff, Nat.reduceLT, Nat.reduceEqDiff, reduceCtorEq, Int.reduceBEq, Int.reduceBNe, Int.reduceLT, Int.reduceLE, Int.reduceAdd, Int.reduceSub, Int.reduceMul, Int.reduceNeg, Int.reduceEq, Int.reduceToNat, hs, hsI, at?, small_room, a0, a1, a2]
        repeat' ((first | refine split_cond (fun hc => ?_) (fun hc => ?_) | refine split_yes (fun hc => ?_) (fun hc => ?_) | refine split_no (fun hc => ?_) (fun hc => ?_)) <;> simp -implicitDefEqProofs only [hc, ↓reduceIte, go_sem, Nat.reduceAdd, Nat.reduceSub, Nat.reduceMul, Nat.reduceBEq, Nat.reduceLeDiff, Nat.reduceLT, Nat.reduceEqDiff, reduceCtorEq, Int.reduceBEq, Int.reduceBNe, Int.reduceLT, Int.reduceLE, Int.reduceAdd, Int.reduceSub, Int.reduceMul, Int.reduceNeg, Int.reduceEq, Int.reduceToNat, hs, hsI, at?, small_room, a0, a1, a2])
        rfl
      | some n2 =>
        have a2 := p_Atoi_ok (List.take 2 (List.drop 8 s)) n2 ((lt _ _).resolve_right (by omega)) h2
        cases h3 : atoiN (List.take 2 (List.drop 11 s)) with
        | none =>
          have e := six_no (s := s) (.inr (.inr (.inr (.inl h3))))
          obtain ⟨z, a3⟩ := p_Atoi_no (List.take 2 (List.drop 11 s)) ((lt _ _).resolve_right (by omega)) h3
          refine ⟨null, false, ?_, by rw [e]; rfl, fun h => by simp at h⟩
          rw [call_122]
          simp -implicitDefEqProofs only [↓reduceIte, go_sem, Nat.reduceAdd, Nat.reduceSub, Nat.reduceMul, Nat.reduceBEq, Nat.reduceLeDiff, Nat.reduceLT, Nat.reduceEqDiff, reduceCtorEq, Int.reduceBEq, Int.reduceBNe, Int.reduceLT, Int.reduceLE, Int.reduceAdd, Int.reduceSub, Int.reduceMul, Int.reduceNeg, Int.reduceEq, Int.reduceToNat, Tryz.f122, hs, hsI]
          repeat' ((first | refine split_cond (fun hc => ?_) (fun hc => ?_) | refine split_yes (fun hc => ?_) (fun hc => ?_) | refine split_no (fun hc => ?_) (fun hc => ?_)) <;> simp -implicitDefEqProofs only [hc, ↓reduceIte, go_sem, Nat.reduceAdd, Nat.reduceSub, Nat.reduceMul, Nat.reduceBEq, Nat.reduceLeDiff, Nat.reduceLT, Nat.reduceEqDiff, reduceCtorEq, Int.reduceBEq, Int.reduceBNe, Int.reduceLT, Int.reduceLE, Int.reduceAdd, Int.reduceSub, Int.reduceMul, Int.reduceNeg, Int.reduceEq, Int.reduceToNat, hs, hsI])
          rw [RL_eq]
          simp -implicitDefEqProofs only [↓reduceIte, go_sem, Nat.reduceAdd, Nat.reduceSub, Nat.reduceMul, Nat.reduceBEq, Nat.reduceLeDiff, Nat.reduceLT, Nat.reduceEqDiff, reduceCtorEq, Int.reduceBEq, Int.reduceBNe, Int.reduceLT, Int.reduceLE, Int.reduceAdd, Int.reduceSub, Int.reduceMul, Int.reduceNeg, Int.reduceEq, Int.reduceToNat, hs, hsI, at?, small_room, a0, a1, a2, a3]
          repeat' ((first | refine split_cond (fun hc => ?_) (fun hc => ?_) | refine split_yes (fun hc => ?_) (fun hc => ?_) | refine split_no (fun hc => ?_) (fun hc => ?_)) <;> simp -implicitDefEqProofs only [hc, ↓reduceIte, go_sem, Nat.reduceAdd, Nat.reduceSub, Nat.reduceMul, Nat.reduceBEq, Nat.reduceLeDiff, Nat.reduceLT, Nat.reduceEqDiff, reduceCtorEq, Int.reduceBEq, Int.reduceBNe, Int.reduceLT, Int.reduceLE, Int.reduceAdd, Int.reduceSub, Int.reduceMul, Int.reduceNeg, Int.reduceEq, Int.reduceToNat, hs, hsI, at?, small_room, a0, a1, a2, a3])
          rw [RL_eq]
          simp -implicitDefEqProofs only [↓reduceIte, go_sem, Nat.reduceAdd, Nat.reduceSub, Nat.reduceMul, Nat.reduceBEq, Nat.reduceLeDiff, Nat.reduceLT, Nat.reduceEqDiff, reduceCtorEq, Int.reduceBEq, Int.reduceBNe, Int.reduceLT, Int.reduceLE, Int.reduceAdd, Int.reduceSub, Int.reduceMul, Int.reduceNeg, Int.reduceEq, Int.reduceToNat, hs, hsI, at?, small_room, a0, a1, a2, a3]
          repeat' ((first | refine split_cond (fun hc => ?_) (fun hc => ?_) | refine split_yes (fun hc => ?_) (fun hc => ?_) | refine split_no (fun hc => ?_) (fun hc => ?_)) <;> simp -implicitDefEqProofs only [hc, ↓reduceIte, go_sem, Nat.reduceAdd, Nat.reduceSub, Nat.reduceMul, Nat.reduceBEq, Nat.reduceLeDiff, Nat.reduceLT, Nat.reduceEqDiff, reduceCtorEq, Int.reduceBEq, Int.reduceBNe, Int.reduceLT, Int.reduceLE, Int.reduceAdd, Int.reduceSub, Int.reduceMul, Int.reduceNeg, Int.reduceEq, Int.reduceToNat, hs, hsI, at?, small_room, a0, a1, a2, a3])
          rw [RL_eq]
          simp -implicitDefEqProofs only [↓reduceIte, go_sem, Nat.reduceAdd, Nat.reduceSub, Nat.reduceMul, Nat.reduceBEq, Nat.reduceLeDiff, Nat.reduceLT, Nat.reduceEqDiff, reduceCtorEq, Int.reduceBEq, Int.reduceBNe, Int.reduceLT, Int.reduceLE, Int.reduceAdd, Int.reduceSub, Int.reduceMul, Int.reduceNeg, Int.reduceEq, Int.reduceToNat, hs, hsI, at?, small_room, a0, a1, a2, a3]
          repeat' ((first | refine split_cond (fun hc => ?_) (fun hc => ?_) | refine split_yes (fun hc => ?_) (fun hc => ?_) | refine split_no (fun hc => ?_) (fun hc => ?_)) <;> simp -implicitDefEqProofs only [hc, ↓reduceIte, go_sem, Nat.reduceAdd, Nat.reduceSub, Nat.reduceMul, Nat.reduceBEq, Nat.reduceLeDiff, Nat.reduceLT, Nat.reduceEqDiff, reduceCtorEq, Int.reduceBEq, Int.reduceBNe, Int.reduceLT, Int.reduceLE, Int.reduceAdd, Int.reduceSub, Int.reduceMul, Int.reduceNeg, Int.reduceEq, Int.reduceToNat, hs, hsI, at?, small_room, a0, a1, a2, a3])
          rw [RL_eq]
          simp -implicitDefEqProofs only [↓reduceIte, go_sem, Nat.reduceAdd, Nat.reduceSub, Nat.reduceMul, Nat.reduceBEq, Nat.reduceLeDiff, Nat.reduceLT, Nat.reduceEqDiff, reduceCtorEq, Int.reduceBEq, Int.reduceBNe, Int.reduceLT, Int.reduceLE, Int.reduceAdd, Int.reduceSub, Int.reduceMul, Int.reduceNeg, Int.reduceEq, Int.reduceToNat, hs, hsI, at?, small_room, a0, a1, a2, a3]
          repeat' ((first | refine split_cond (fun hc => ?_) (fun hc => ?_) | refine split_yes (fun hc => ?_) (fun hc => ?_) | refine split_no (fun hc => ?_) (fun hc => ?_)) <;> simp -implicitDefEqProofs only [hc, ↓reduceIte, go_sem, Nat.reduceAdd, Nat.reduceSub, Nat.reduceMul, Nat.reduceBEq, Nat.reduceLeDiff, Nat.reduceLT, Nat.reduceEqDiff, reduceCtorEq, Int.reduceBEq, Int.reduceBNe, Int.reduceLT, Int.reduceLE, Int.reduceAdd, Int.reduceSub, Int.reduceMul, Int.reduceNeg, Int.reduceEq, Int.reduceToNat, hs, hsI, at?, small_room, a0, a1, a2, a3])
          rfl
        | some n3 =>
          have a3 := p_Atoi_ok (List.take 2 (List.drop 11 s)) n3 ((lt _ _).resolve_right (by omega)) h3
          cases h4 : atoiN (List.take 2 (List.drop 14 s)) with
          | none =>
            have e := six_no (s := s) (.inr (.inr (.inr (.inr (.inl h4)))))
            obtain ⟨z, a4⟩ := p_Atoi_no (List.take 2 (List.drop 14 s)) ((lt _ _).resolve_right (by omega)) h4
            refine ⟨null, false, ?_, by rw [e]; rfl, fun h => by simp at h⟩
            rw [call_122]
            simp -implicitDefEqProofs only [↓reduceIte, go_sem, Nat.reduceAdd, Nat.reduceSub, Nat.reduceMul, Nat.reduceBEq, Nat.reduceLeDiff, Nat.reduceLT, Nat.reduceEqDiff, reduceCtorEq, Int.reduceBEq, Int.reduceBNe, Int.reduceLT, Int.reduceLE, Int.reduceAdd, Int.reduceSub, Int.reduceMul, Int.reduceNeg, Int.reduceEq, Int.reduceToNat, Tryz.f122, hs, hsI]
            repeat' ((first | refine split_cond (fun hc => ?_) (fun hc => ?_) | refine split_yes (fun hc => ?_) (fun hc => ?_) | refine split_no (fun hc => ?_) (fun hc => ?_)) <;> simp -implicitDefEqProofs only [hc, ↓reduceIte, go_sem, Nat.reduceAdd, Nat.reduceSub, Nat.reduceMul, Nat.reduceBEq, Nat.reduceLeDiff, Nat.reduceLT, Nat.reduceEqDiff, reduceCtorEq, Int.reduceBEq, Int.reduceBNe, Int.reduceLT, Int.reduceLE, Int.reduceAdd, Int.reduceSub, Int.reduceMul, Int.reduceNeg, Int.reduceEq, Int.reduceToNat, hs, hsI])
            rw [RL_eq]
            simp -implicitDefEqProofs only [↓reduceIte, go_sem, Nat.reduceAdd, Nat.reduceSub, Nat.reduceMul, Nat.reduceBEq, Nat.reduceLeDiff, Nat.reduceLT, Nat.reduceEqDiff, reduceCtorEq, Int.reduceBEq, Int.reduceBNe, Int.reduceLT, Int.reduceLE, Int.reduceAdd, Int.reduceSub, Int.reduceMul, Int.reduceNeg, Int.reduceEq, Int.reduceToNat, hs, hsI, at?, small_room, a0, a1, a2, a3, a4]
            repeat' ((first | refine split_cond (fun hc => ?_) (fun hc => ?_) | refine split_yes (fun hc => ?_) (fun hc => ?_) | refine split_no (fun hc => ?_) (fun hc => ?_)) <;> simp -implicitDefEqProofs only [hc, ↓reduceIte, go_sem, Nat.reduceAdd, Nat.reduceSub, Nat.reduceMul, Nat.reduceBEq, Nat.reduceLeDiff, Nat.reduceLT, Nat.reduceEqDiff, reduceCtorEq, Int.reduceBEq, Int.reduceBNe, Int.reduceLT, Int.reduceLE, Int.reduceAdd, Int.reduceSub, Int.reduceMul, Int.reduceNeg, Int.reduceEq, Int.reduceToNat, hs, hsI, at?, small_room, a0, a1, a2, a3, a4])
            rw [RL_eq]
            simp -implicitDefEqProofs only [↓reduceIte, go_sem, Nat.reduceAdd, Nat.reduceSub, Nat.reduceMul, Nat.reduceBEq, Nat.reduceLeDiff, Nat.reduceLT, Nat.reduceEqDiff, reduceCtorEq, Int.reduceBEq, Int.reduceBNe, Int.reduceLT, Int.reduceLE, Int.reduceAdd, Int.reduceSub, Int.reduceMul, Int.reduceNeg, Int.reduceEq, Int.reduceToNat, hs, hsI, at?, small_room, a0, a1, a2, a3, a4]
            repeat' ((first | refine split_cond (fun hc => ?_) (fun hc => ?_) | refine split_yes (fun hc => ?_) (fun hc => ?_) | refine split_no (fun hc => ?_) (fun hc => ?_)) <;> simp -implicitDefEqProofs only [hc, ↓reduceIte, go_sem, Nat.reduceAdd, Nat.reduceSub, Nat.reduceMul, Nat.reduceBEq, Nat.reduceLeDiff, Nat.reduceLT, Nat.reduceEqDiff, reduceCtorEq, Int.reduceBEq, Int.reduceBNe, Int.reduceLT, Int.reduceLE, Int.reduceAdd, Int.reduceSub, Int.reduceMul, Int.reduceNeg, Int.reduceEq, Int.reduceToNat, hs, hsI, at?, small_room, a0, a1, a2, a3, a4])
            rw [RL_eq]
            simp -implicitDefEqProofs only [↓reduceIte, go_sem, Nat.reduceAdd, Nat.reduceSub, Nat.reduceMul, Nat.reduceBEq, Nat.reduceLeDiff, Nat.reduceLT, Nat.reduceEqDiff, reduceCtorEq, Int.reduceBEq, Int.reduceBNe, Int.reduceLT, Int.reduceLE, Int.reduceAdd, Int.reduceSub, Int.reduceMul, Int.reduceNeg, Int.reduceEq, Int.reduceToNat, hs, hsI, at?, small_room, a0, a1, a2, a3, a4]
            repeat' ((first | refine split_cond (fun hc => ?_) (fun hc => ?_) | refine split_yes (fun hc => ?_) (fun hc => ?_) | refine split_no (fun hc => ?_) (fun hc => ?_)) <;> simp -implicitDefEqProofs only [hc, ↓reduceIte, go_sem, Nat.reduceAdd, Nat.reduceSub, Nat.reduceMul, Nat.reduceBEq, Nat.reduceLeDiff, Nat.reduceLT, Nat.reduceEqDiff, reduceCtorEq, Int.reduceBEq, Int.reduceBNe, Int.reduceLT, Int.reduceLE, Int.reduceAdd, Int.reduceSub, Int.reduceMul, Int.reduceNeg, Int.reduceEq, Int.reduceToNat, hs, hsI, at?, small_room, a0, a1, a2, a3, a4])
            rw [RL_eq]
            simp -implicitDefEqProofs only [↓reduceIte, go_sem, Nat.reduceAdd, Nat.reduceSub, Nat.reduceMul, Nat.reduceBEq, Nat.reduceLeDiff, Nat.reduceLT, Nat.reduceEqDiff, reduceCtorEq, Int.reduceBEq, Int.reduceBNe, Int.reduceLT, Int.reduceLE, Int.reduceAdd, Int.reduceSub, Int.reduceMul, Int.reduceNeg, Int.reduceEq, Int.reduceToNat, hs, hsI, at?, small_room, a0, a1, a2, a3, a4]
            repeat' ((first | refine split_cond (fun hc => ?_) (fun hc => ?_) | refine split_yes (fun hc => ?_) (fun hc => ?_) | refine split_no (fun hc => ?_) (fun hc => ?_)) <;> simp -implicitDefEqProofs only [hc, ↓reduceIte, go_sem, Nat.reduceAdd, Nat.reduceSub, Nat.reduceMul, Nat.reduceBEq, Nat.reduceLeDiff, Nat.reduceLT, Nat.reduceEqDiff, reduceCtorEq, Int.reduceBEq, Int.reduceBNe, Int.reduceLT, Int.reduceLE, Int.reduceAdd, Int.reduceSub, Int.reduceMul, Int.reduceNeg, Int.reduceEq, Int.reduceToNat, hs, hsI, at?, small_room, a0, a1, a2, a3, a4])
            rw [RL_eq]
            simp -implicitDefEqProofs only [↓reduceIte, go_sem, Nat.reduceAdd, Nat.reduceSub, Nat.reduceMul, Nat.reduceBEq, Nat.reduceLeDiff, Nat.reduceLT, Nat.reduceEqDiff, reduceCtorEq, Int.reduceBEq, Int.reduceBNe, Int.reduceLT, Int.reduceLE, Int.reduceAdd, Int.reduceSub, Int.reduceMul, Int.reduceNeg, Int.reduceEq, Int.reduceToNat, hs, hsI, at?, small_room, a0, a1, a2, a3, a4]
            repeat' ((first | refine split_cond (fun hc => ?_) (fun hc => ?_) | refine split_yes (fun hc => ?_) (fun hc => ?_) | refine split_no (fun hc => ?_) (fun hc => ?_)) <;> simp -implicitDefEqProofs only [hc, ↓reduceIte, go_sem, Nat.reduceAdd, Nat.reduceSub, Nat.reduceMul, Nat.reduceBEq, Nat.reduceLeDiff, Nat.reduceLT, Nat.reduceEqDiff, reduceCtorEq, Int.reduceBEq, Int.reduceBNe, Int.reduceLT, Int.reduceLE, Int.reduceAdd, Int.reduceSub, Int.reduceMul, Int.reduceNeg, Int.reduceEq, Int.reduceToNat, hs, hsI, at?, small_room, a0, a1, a2, a3, a4])
            rfl
          | some n4 =>
            have a4 := p_Atoi_ok (List.take 2 (List.drop 14 s)) n4 ((lt _ _).resolve_right (by omega)) h4
            cases h5 : atoiN (List.take 2 (List.drop 17 s)) with
            | none =>
              have e := six_no (s := s) (.inr (.inr (.inr (.inr (.inr h5)))))
              obtain ⟨z, a5⟩ := p_Atoi_no (List.take 2 (List.drop 17 s)) ((lt _ _).resolve_right (by omega)) h5
              refine ⟨null, false, ?_, by rw [e]; rfl, fun h => by simp at h⟩
              rw [call_122]
              simp -implicitDefEqProofs only [↓reduceIte, go_sem, Nat.reduceAdd, Nat.reduceSub, Nat.reduceMul, Nat.reduceBEq, Nat.reduceLeDiff, Nat.reduceLT, Nat.reduceEqDiff, reduceCtorEq, Int.reduceBEq, Int.reduceBNe, Int.reduceLT, Int.reduceLE, Int.reduceAdd, Int.reduceSub, Int.reduceMul, Int.reduceNeg, Int.reduceEq, Int.reduceToNat, Tryz.f122, hs, hsI]
              repeat' ((first | refine split_cond (fun hc => ?_) (fun hc => ?_) | refine split_yes (fun hc => ?_) (fun hc => ?_) | refine split_no (fun hc => ?_) (fun hc => ?_)) <;> simp -implicitDefEqProofs only [hc, ↓reduceIte, go_sem, Nat.reduceAdd, Nat.reduceSub, Nat.reduceMul, Nat.reduceBEq, Nat.reduceLeDiff, Nat.reduceLT, Nat.reduceEqDiff, reduceCtorEq, Int.reduceBEq, Int.reduceBNe, Int.reduceLT, Int.reduceLE, Int.reduceAdd, Int.reduceSub, Int.reduceMul, Int.reduceNeg, Int.reduceEq, Int.reduceToNat, hs, hsI])
              rw [RL_eq]
              simp -implicitDefEqProofs only [↓reduceIte, go_sem, Nat.reduceAdd, Nat.reduceSub, Nat.reduceMul, Nat.reduceBEq, Nat.reduceLeDiff, Nat.reduceLT, Nat.reduceEqDiff, reduceCtorEq, Int.reduceBEq, Int.reduceBNe, Int.reduceLT, Int.reduceLE, Int.reduceAdd, Int.reduceSub, Int.reduceMul, Int.reduceNeg, Int.reduceEq, Int.reduceToNat, hs, hsI, at?, small_room, a0, a1, a2, a3, a4, a5]
              repeat' ((first | refine split_cond (fun hc => ?_) (fun hc => ?_) | refine split_yes (fun hc => ?_) (fun hc => ?_) | refine split_no (fun hc => ?_) (fun hc => ?_)) <;> simp -implicitDefEqProofs only [hc, ↓reduceIte, go_sem, Nat.reduceAdd, Nat.reduceSub, Nat.reduceMul, Nat.reduceBEq, Nat.reduceLeDiff, Nat.reduceLT, Nat.reduceEqDiff, reduceCtorEq, Int.reduceBEq, Int.reduceBNe, Int.reduceLT, Int.reduceLE, Int.reduceAdd, Int.reduceSub, Int.reduceMul, Int.reduceNeg, Int.reduceEq, Int.reduceToNat, hs, hsI, at?, small_room, a0, a1, a2, a3, a4, a5])
              rw [RL_eq]
              simp -implicitDefEqProofs only [↓reduceIte, go_sem, Nat.reduceAdd, Nat.reduceSub, Nat.reduceMul, Nat.reduceBEq, Nat.reduceLeDiff, Nat.reduceLT, Nat.reduceEqDiff, reduceCtorEq, Int.reduceBEq, Int.reduceBNe, Int.reduceLT, Int.reduceLE, Int.reduceAdd, Int.reduceSub, Int.reduceMul, Int.reduceNeg, Int.reduceEq, Int.reduceToNat, hs, hsI, at?, small_room, a0, a1, a2, a3, a4, a5]
              repeat' ((first | refine split_cond (fun hc => ?_) (fun hc => ?_) | refine split_yes (fun hc => ?_) (fun hc => ?_) | refine split_no (fun hc => ?_) (fun hc => ?_)) <;> simp -implicitDefEqProofs only [hc, ↓reduceIte, go_sem, Nat.reduceAdd, Nat.reduceSub, Nat.reduceMul, Nat.reduceBEq, Nat.reduceLeDiff, Nat.reduceLT, Nat.reduceEqDiff, reduceCtorEq, Int.reduceBEq, Int.reduceBNe, Int.reduceLT, Int.reduceLE, Int.reduceAdd, Int.reduceSub, Int.reduceMul, Int.reduceNeg, Int.reduceEq, Int.reduceToNat, hs, hsI, at?, small_room, a0, a1, a2, a3, a4, a5])
              rw [RL_eq]
              simp -implicitDefEqProofs only [↓reduceIte, go_sem, Nat.reduceAdd, Nat.reduceSub, Nat.reduceMul, Nat.reduceBEq, Nat.reduceLeDiff, Nat.reduceLT, Nat.reduceEqDiff, reduceCtorEq, Int.reduceBEq, Int.reduceBNe, Int.reduceLT, Int.reduceLE, Int.reduceAdd, Int.reduceSub, Int.reduceMul, Int.reduceNeg, Int.reduceEq, Int.reduceToNat, hs, hsI, at?, small_room, a0, a1, a2, a3, a4, a5]
              repeat' ((first | refine split_cond (fun hc => ?_) (fun hc => ?_) | refine split_yes (fun hc => ?_) (fun hc => ?_) | refine split_no (fun hc => ?_) (fun hc => ?_)) <;> simp -implicitDefEqProofs only [hc, ↓reduceIte, go_sem, Nat.reduceAdd, Nat.reduceSub, Nat.reduceMul, Nat.reduceBEq, Nat.reduceLeDiff, Nat.reduceLT, Nat.reduceEqDiff, reduceCtorEq, Int.reduceBEq, Int.reduceBNe, Int.reduceLT, Int.reduceLE, Int.reduceAdd, Int.reduceSub, Int.reduceMul, Int.reduceNeg, Int.reduceEq, Int.reduceToNat, hs, hsI, at?, small_room, a0, a1, a2, a3, a4, a5])
              rw [RL_eq]
              simp -implicitDefEqProofs only [↓reduceIte, go_sem, Nat.reduceAdd, Nat.reduceSub, Nat.reduceMul, Nat.reduceBEq, Nat.reduceLeDiff, Nat.reduceLT, Nat.reduceEqDiff, reduceCtorEq, Int.reduceBEq, Int.reduceBNe, Int.reduceLT, Int.reduceLE, Int.reduceAdd, Int.reduceSub, Int.reduceMul, Int.reduceNeg, Int.reduceEq, Int.reduceToNat, hs, hsI, at?, small_room, a0, a1, a2, a3, a4, a5]
              repeat' ((first | refine split_cond (fun hc => ?_) (fun hc => ?_) | refine split_yes (fun hc => ?_) (fun hc => ?_) | refine split_no (fun hc => ?_) (fun hc => ?_)) <;> simp -implicitDefEqProofs only [hc, ↓reduceIte, go_sem, Nat.reduceAdd, Nat.reduceSub, Nat.reduceMul, Nat.reduceBEq, Nat.reduceLeDiff, Nat.reduceLT, Nat.reduceEqDiff, reduceCtorEq, Int.reduceBEq, Int.reduceBNe, Int.reduceLT, Int.reduceLE, Int.reduceAdd, Int.reduceSub, Int.reduceMul, Int.reduceNeg, Int.reduceEq, Int.reduceToNat, hs, hsI, at?, small_room, a0, a1, a2, a3, a4, a5])
              rw [RL_eq]
              simp -implicitDefEqProofs only [↓reduceIte, go_sem, Nat.reduceAdd, Nat.reduceSub, Nat.reduceMul, Nat.reduceBEq, Nat.reduceLeDiff, Nat.reduceLT, Nat.reduceEqDiff, reduceCtorEq, Int.reduceBEq, Int.reduceBNe, Int.reduceLT, Int.reduceLE, Int.reduceAdd, Int.reduceSub, Int.reduceMul, Int.reduceNeg, Int.reduceEq, Int.reduceToNat, hs, hsI, at?, small_room, a0, a1, a2, a3, a4, a5]
              repeat' ((first | refine split_cond (fun hc => ?_) (fun hc => ?_) | refine split_yes (fun hc => ?_) (fun hc => ?_) | refine split_no (fun hc => ?_) (fun hc => ?_)) <;> simp -implicitDefEqProofs only [hc, ↓reduceIte, go_sem, Nat.reduceAdd, Nat.reduceSub, Nat.reduceMul, Nat.reduceBEq, Nat.reduceLeDiff, Nat.reduceLT, Nat.reduceEqDiff, reduceCtorEq, Int.reduceBEq, Int.reduceBNe, Int.reduceLT, Int.reduceLE, Int.reduceAdd, Int.reduceSub, Int.reduceMul, Int.reduceNeg, Int.reduceEq, Int.reduceToNat, hs, hsI, at?, small_room, a0, a1, a2, a3, a4, a5])
              rw [RL_eq]
              simp -implicitDefEqProofs only [↓reduceIte, go_sem, Nat.reduceAdd, Nat.reduceSub, Nat.reduceMul, Nat.reduceBEq, Nat.reduceLeDiff, Nat.reduceLT, Nat.reduceEqDiff, reduceCtorEq, Int.reduceBEq, Int.reduceBNe, Int.reduceLT, Int.reduceLE, Int.reduceAdd, Int.reduceSub, Int.reduceMul, Int.reduceNeg, Int.reduceEq, Int.reduceToNat, hs, hsI, at?, small_room, a0, a1, a2, a3, a4, a5]
              repeat' ((first | refine split_cond (fun hc => ?_) (fun hc => ?_) | refine split_yes (fun hc => ?_) (fun hc => ?_) | refine split_no (fun hc => ?_) (fun hc => ?_)) <;> simp -implicitDefEqProofs only [hc, ↓reduceIte, go_sem, Nat.reduceAdd, Nat.reduceSub, Nat.reduceMul, Nat.reduceBEq, Nat.reduceLeDiff, Nat.reduceLT, Nat.reduceEqDiff, reduceCtorEq, Int.reduceBEq, Int.reduceBNe, Int.reduceLT, Int.reduceLE, Int.reduceAdd, Int.reduceSub, Int.reduceMul, Int.reduceNeg, Int.reduceEq, Int.reduceToNat, hs, hsI, at?, small_room, a0, a1, a2, a3, a4, a5])
              rfl
            | some n5 =>
              have a5 := p_Atoi_ok (List.take 2 (List.drop 17 s)) n5 ((lt _ _).resolve_right (by omega)) h5
              have hsix := six_yes h0 h1 h2 h3 h4 h5
              have hv : dreadS s = if (dateV n0 n1 n2 n3 n4 n5).k = 0 ∨ dtextS (dateV n0 n1 n2 n3 n4 n5).n ≠ s then null else dateV n0 n1 n2 n3 n4 n5 := by unfold dreadS; rw [if_pos hs, hsix]
              have hd := r_Dated n0 n1 n2 n3 n4 n5
              rcases date_cases n0 n1 n2 n3 n4 n5 with hc | ⟨hk, hss, hr⟩
              · rw [hc] at hv hd
                have hv : dreadS s = null := by rw [hv]; rfl
                refine ⟨null, false, ?_, by rw [hv]; rfl, fun h => by simp at h⟩
                have kn : null.k = 0 := rfl
                rw [call_122]
                simp -implicitDefEqProofs only [↓reduceIte, go_sem, Nat.reduceAdd, Nat.reduceSub, Nat.reduceMul, Nat.reduceBEq, Nat.reduceLeDiff, Nat.reduceLT, Nat.reduceEqDiff, reduceCtorEq, Int.reduceBEq, Int.reduceBNe, Int.reduceLT, Int.reduceLE, Int.reduceAdd, Int.reduceSub, Int.reduceMul, Int.reduceNeg, Int.reduceEq, Int.reduceToNat, Tryz.f122, hs, hsI]
                repeat' ((first | refine split_cond (fun hc => ?_) (fun hc => ?_) | refine split_yes (fun hc => ?_) (fun hc => ?_) | refine split_no (fun hc => ?_) (fun hc => ?_)) <;> simp -implicitDefEqProofs only [hc, ↓reduceIte, go_sem, Nat.reduceAdd, Nat.reduceSub, Nat.reduceMul, Nat.reduceBEq, Nat.reduceLeDiff, Nat.reduceLT, Nat.reduceEqDiff, reduceCtorEq, Int.reduceBEq, Int.reduceBNe, Int.reduceLT, Int.reduceLE, Int.reduceAdd, Int.reduceSub, Int.reduceMul, Int.reduceNeg, Int.reduceEq, Int.reduceToNat, hs, hsI])
                rw [RL_eq]
                simp -implicitDefEqProofs only [↓reduceIte, go_sem, Nat.reduceAdd, Nat.reduceSub, Nat.reduceMul, Nat.reduceBEq, Nat.reduceLeDiff, Nat.reduceLT, Nat.reduceEqDiff, reduceCtorEq, Int.reduceBEq, Int.reduceBNe, Int.reduceLT, Int.reduceLE, Int.reduceAdd, Int.reduceSub, Int.reduceMul, Int.reduceNeg, Int.reduceEq, Int.reduceToNat, hs, hsI, at?, small_room, a0, a1, a2, a3, a4, a5]
                repeat' ((first | refine split_cond (fun hc => ?_) (fun hc => ?_) | refine split_yes (fun hc => ?_) (fun hc => ?_) | refine split_no (fun hc => ?_) (fun hc => ?_)) <;> simp -implicitDefEqProofs only [hc, ↓reduceIte, go_sem, Nat.reduceAdd, Nat.reduceSub, Nat.reduceMul, Nat.reduceBEq, Nat.reduceLeDiff, Nat.reduceLT, Nat.reduceEqDiff, reduceCtorEq, Int.reduceBEq, Int.reduceBNe, Int.reduceLT, Int.reduceLE, Int.reduceAdd, Int.reduceSub, Int.reduceMul, Int.reduceNeg, Int.reduceEq, Int.reduceToNat, hs, hsI, at?, small_room, a0, a1, a2, a3, a4, a5])
                rw [RL_eq]
                simp -implicitDefEqProofs only [↓reduceIte, go_sem, Nat.reduceAdd, Nat.reduceSub, Nat.reduceMul, Nat.reduceBEq, Nat.reduceLeDiff, Nat.reduceLT, Nat.reduceEqDiff, reduceCtorEq, Int.reduceBEq, Int.reduceBNe, Int.reduceLT, Int.reduceLE, Int.reduceAdd, Int.reduceSub, Int.reduceMul, Int.reduceNeg, Int.reduceEq, Int.reduceToNat, hs, hsI, at?, small_room, a0, a1, a2, a3, a4, a5]
                repeat' ((first | refine split_cond (fun hc => ?_) (fun hc => ?_) | refine split_yes (fun hc => ?_) (fun hc => ?_) | refine split_no (fun hc => ?_) (fun hc => ?_)) <;> simp -implicitDefEqProofs only [hc, ↓reduceIte, go_sem, Nat.reduceAdd, Nat.reduceSub, Nat.reduceMul, Nat.reduceBEq, Nat.reduceLeDiff, Nat.reduceLT, Nat.reduceEqDiff, reduceCtorEq, Int.reduceBEq, Int.reduceBNe, Int.reduceLT, Int.reduceLE, Int.reduceAdd, Int.reduceSub, Int.reduceMul, Int.reduceNeg, Int.reduceEq, Int.reduceToNat, hs, hsI, at?, small_room, a0, a1, a2, a3, a4, a5])
                rw [RL_eq]
                simp -implicitDefEqProofs only [↓reduceIte, go_sem, Nat.reduceAdd, Nat.reduceSub, Nat.reduceMul, Nat.reduceBEq, Nat.reduceLeDiff, Nat.reduceLT, Nat.reduceEqDiff, reduceCtorEq, Int.reduceBEq, Int.reduceBNe, Int.reduceLT, Int.reduceLE, Int.reduceAdd, Int.reduceSub, Int.reduceMul, Int.reduceNeg, Int.reduceEq, Int.reduceToNat, hs, hsI, at?, small_room, a0, a1, a2, a3, a4, a5]
                repeat' ((first | refine split_cond (fun hc => ?_) (fun hc => ?_) | refine split_yes (fun hc => ?_) (fun hc => ?_) | refine split_no (fun hc => ?_) (fun hc => ?_)) <;> simp -implicitDefEqProofs only [hc, ↓reduceIte, go_sem, Nat.reduceAdd, Nat.reduceSub, Nat.reduceMul, Nat.reduceBEq, Nat.reduceLeDiff, Nat.reduceLT, Nat.reduceEqDiff, reduceCtorEq, Int.reduceBEq, Int.reduceBNe, Int.reduceLT, Int.reduceLE, Int.reduceAdd, Int.reduceSub, Int.reduceMul, Int.reduceNeg, Int.reduceEq, Int.reduceToNat, hs, hsI, at?, small_room, a0, a1, a2, a3, a4, a5])
                rw [RL_eq]
                simp -implicitDefEqProofs only [↓reduceIte, go_sem, Nat.reduceAdd, Nat.reduceSub, Nat.reduceMul, Nat.reduceBEq, Nat.reduceLeDiff, Nat.reduceLT, Nat.reduceEqDiff, reduceCtorEq, Int.reduceBEq, Int.reduceBNe, Int.reduceLT, Int.reduceLE, Int.reduceAdd, Int.reduceSub, Int.reduceMul, Int.reduceNeg, Int.reduceEq, Int.reduceToNat, hs, hsI, at?, small_room, a0, a1, a2, a3, a4, a5]
                repeat' ((first | refine split_cond (fun hc => ?_) (fun hc => ?_) | refine split_yes (fun hc => ?_) (fun hc => ?_) | refine split_no (fun hc => ?_) (fun hc => ?_)) <;> simp -implicitDefEqProofs only [hc, ↓reduceIte, go_sem, Nat.reduceAdd, Nat.reduceSub, Nat.reduceMul, Nat.reduceBEq, Nat.reduceLeDiff, Nat.reduceLT, Nat.reduceEqDiff, reduceCtorEq, Int.reduceBEq, Int.reduceBNe, Int.reduceLT, Int.reduceLE, Int.reduceAdd, Int.reduceSub, Int.reduceMul, Int.reduceNeg, Int.reduceEq, Int.reduceToNat, hs, hsI, at?, small_room, a0, a1, a2, a3, a4, a5])
                rw [RL_eq]
                simp -implicitDefEqProofs only [↓reduceIte, go_sem, Nat.reduceAdd, Nat.reduceSub, Nat.reduceMul, Nat.reduceBEq, Nat.reduceLeDiff, Nat.reduceLT, Nat.reduceEqDiff, reduceCtorEq, Int.reduceBEq, Int.reduceBNe, Int.reduceLT, Int.reduceLE, Int.reduceAdd, Int.reduceSub, Int.reduceMul, Int.reduceNeg, Int.reduceEq, Int.reduceToNat, hs, hsI, at?, small_room, a0, a1, a2, a3, a4, a5]
                repeat' ((first | refine split_cond (fun hc => ?_) (fun hc => ?_) | refine split_yes (fun hc => ?_) (fun hc => ?_) | refine split_no (fun hc => ?_) (fun hc => ?_)) <;> simp -implicitDefEqProofs only [hc, ↓reduceIte, go_sem, Nat.reduceAdd, Nat.reduceSub, Nat.reduceMul, Nat.reduceBEq, Nat.reduceLeDiff, Nat.reduceLT, Nat.reduceEqDiff, reduceCtorEq, Int.reduceBEq, Int.reduceBNe, Int.reduceLT, Int.reduceLE, Int.reduceAdd, Int.reduceSub, Int.reduceMul, Int.reduceNeg, Int.reduceEq, Int.reduceToNat, hs, hsI, at?, small_room, a0, a1, a2, a3, a4, a5])
                rw [RL_eq]
                simp -implicitDefEqProofs only [↓reduceIte, go_sem, Nat.reduceAdd, Nat.reduceSub, Nat.reduceMul, Nat.reduceBEq, Nat.reduceLeDiff, Nat.reduceLT, Nat.reduceEqDiff, reduceCtorEq, Int.reduceBEq, Int.reduceBNe, Int.reduceLT, Int.reduceLE, Int.reduceAdd, Int.reduceSub, Int.reduceMul, Int.reduceNeg, Int.reduceEq, Int.reduceToNat, hs, hsI, at?, small_room, a0, a1, a2, a3, a4, a5]
                repeat' ((first | refine split_cond (fun hc => ?_) (fun hc => ?_) | refine split_yes (fun hc => ?_) (fun hc => ?_) | refine split_no (fun hc => ?_) (fun hc => ?_)) <;> simp -implicitDefEqProofs only [hc, ↓reduceIte, go_sem, Nat.reduceAdd, Nat.reduceSub, Nat.reduceMul, Nat.reduceBEq, Nat.reduceLeDiff, Nat.reduceLT, Nat.reduceEqDiff, reduceCtorEq, Int.reduceBEq, Int.reduceBNe, Int.reduceLT, Int.reduceLE, Int.reduceAdd, Int.reduceSub, Int.reduceMul, Int.reduceNeg, Int.reduceEq, Int.reduceToNat, hs, hsI, at?, small_room, a0, a1, a2, a3, a4, a5])
                rw [RL_eq]
                simp -implicitDefEqProofs only [↓reduceIte, go_sem, Nat.reduceAdd, Nat.reduceSub, Nat.reduceMul, Nat.reduceBEq, Nat.reduceLeDiff, Nat.reduceLT, Nat.reduceEqDiff, reduceCtorEq, Int.reduceBEq, Int.reduceBNe, Int.reduceLT, Int.reduceLE, Int.reduceAdd, Int.reduceSub, Int.reduceMul, Int.reduceNeg, Int.reduceEq, Int.reduceToNat, hs, hsI, at?, small_room, a0, a1, a2, a3, a4, a5, hd, kn]
                repeat' ((first | refine split_cond (fun hc => ?_) (fun hc => ?_) | refine split_yes (fun hc => ?_) (fun hc => ?_) | refine split_no (fun hc => ?_) (fun hc => ?_)) <;> simp -implicitDefEqProofs only [hc, ↓reduceIte, go_sem, Nat.reduceAdd, Nat.reduceSub, Nat.reduceMul, Nat.reduceBEq, Nat.reduceLeDiff, Nat.reduceLT, Nat.reduceEqDiff, reduceCtorEq, Int.reduceBEq, Int.reduceBNe, Int.reduceLT, Int.reduceLE, Int.reduceAdd, Int.reduceSub, Int.reduceMul, Int.reduceNeg, Int.reduceEq, Int.reduceToNat, hs, hsI, at?, small_room, a0, a1, a2, a3, a4, a5, hd, kn])
                all_goals rfl
              · have hb := right_moment hk hr
                have ht := r_MomentText (dateV n0 n1 n2 n3 n4 n5).n hb.1 hb.2
                by_cases hq : dtextS (dateV n0 n1 n2 n3 n4 n5).n = s
                · have hv : dreadS s = dateV n0 n1 n2 n3 n4 n5 := by rw [hv, if_neg (fun h => h.elim (fun h => by rw [hk] at h; simp at h) (fun h => h hq))]
                  have hq2 : (dtextS (dateV n0 n1 n2 n3 n4 n5).n == s) = true := by simp [hq]
                  refine ⟨dateV n0 n1 n2 n3 n4 n5, true, ?_, by rw [hv, hk]; rfl, fun _ => hv.symm⟩
                  rw [call_122]
                  simp -implicitDefEqProofs only [↓reduceIte, go_sem, Nat.reduceAdd, Nat.reduceSub, Nat.reduceMul, Nat.reduceBEq, Nat.reduceLeDiff, Nat.reduceLT, Nat.reduceEqDiff, reduceCtorEq, Int.reduceBEq, Int.reduceBNe, Int.reduceLT, Int.reduceLE, Int.reduceAdd, Int.reduceSub, Int.reduceMul, Int.reduceNeg, Int.reduceEq, Int.reduceToNat, Tryz.f122, hs, hsI]
                  repeat' ((first | refine split_cond (fun hc => ?_) (fun hc => ?_) | refine split_yes (fun hc => ?_) (fun hc => ?_) | refine split_no (fun hc => ?_) (fun hc => ?_)) <;> simp -implicitDefEqProofs only [hc, ↓reduceIte, go_sem, Nat.reduceAdd, Nat.reduceSub, Nat.reduceMul, Nat.reduceBEq, Nat.reduceLeDiff, Nat.reduceLT, Nat.reduceEqDiff, reduceCtorEq, Int.reduceBEq, Int.reduceBNe, Int.reduceLT, Int.reduceLE, Int.reduceAdd, Int.reduceSub, Int.reduceMul, Int.reduceNeg, Int.reduceEq, Int.reduceToNat, hs, hsI])
                  rw [RL_eq]
                  simp -implicitDefEqProofs only [↓reduceIte, go_sem, Nat.reduceAdd, Nat.reduceSub, Nat.reduceMul, Nat.reduceBEq, Nat.reduceLeDiff, Nat.reduceLT, Nat.reduceEqDiff, reduceCtorEq, Int.reduceBEq, Int.reduceBNe, Int.reduceLT, Int.reduceLE, Int.reduceAdd, Int.reduceSub, Int.reduceMul, Int.reduceNeg, Int.reduceEq, Int.reduceToNat, hs, hsI, at?, small_room, a0, a1, a2, a3, a4, a5]
                  repeat' ((first | refine split_cond (fun hc => ?_) (fun hc => ?_) | refine split_yes (fun hc => ?_) (fun hc => ?_) | refine split_no (fun hc => ?_) (fun hc => ?_)) <;> simp -implicitDefEqProofs only [hc, ↓reduceIte, go_sem, Nat.reduceAdd, Nat.reduceSub, Nat.reduceMul, Nat.reduceBEq, Nat.reduceLeDiff, Nat.reduceLT, Nat.reduceEqDiff, reduceCtorEq, Int.reduceBEq, Int.reduceBNe, Int.reduceLT, Int.reduceLE, Int.reduceAdd, Int.reduceSub, Int.reduceMul, Int.reduceNeg, Int.reduceEq, Int.reduceToNat, hs, hsI, at?, small_room, a0, a1, a2, a3, a4, a5])
                  rw [RL_eq]
                  simp -implicitDefEqProofs only [↓reduceIte, go_sem, Nat.reduceAdd, Nat.reduceSub, Nat.reduceMul, Nat.reduceBEq, Nat.reduceLeDiff, Nat.reduceLT, Nat.reduceEqDiff, reduceCtorEq, Int.reduceBEq, Int.reduceBNe, Int.reduceLT, Int.reduceLE, Int.reduceAdd, Int.reduceSub, Int.reduceMul, Int.reduceNeg, Int.reduceEq, Int.reduceToNat, hs, hsI, at?, small_room, a0, a1, a2, a3, a4, a5]
                  repeat' ((first | refine split_cond (fun hc => ?_) (fun hc => ?_) | refine split_yes (fun hc => ?_) (fun hc => ?_) | refine split_no (fun hc => ?_) (fun hc => ?_)) <;> simp -implicitDefEqProofs only [hc, ↓reduceIte, go_sem, Nat.reduceAdd, Nat.reduceSub, Nat.reduceMul, Nat.reduceBEq, Nat.reduceLeDiff, Nat.reduceLT, Nat.reduceEqDiff, reduceCtorEq, Int.reduceBEq, Int.reduceBNe, Int.reduceLT, Int.reduceLE, Int.reduceAdd, Int.reduceSub, Int.reduceMul, Int.reduceNeg, Int.reduceEq, Int.reduceToNat, hs, hsI, at?, small_room, a0, a1, a2, a3, a4, a5])
                  rw [RL_eq]
                  simp -implicitDefEqProofs only [↓reduceIte, go_sem, Nat.reduceAdd, Nat.reduceSub, Nat.reduceMul, Nat.reduceBEq, Nat.reduceLeDiff, Nat.reduceLT, Nat.reduceEqDiff, reduceCtorEq, Int.reduceBEq, Int.reduceBNe, Int.reduceLT, Int.reduceLE, Int.reduceAdd, Int.reduceSub, Int.reduceMul, Int.reduceNeg, Int.reduceEq, Int.reduceToNat, hs, hsI, at?, small_room, a0, a1, a2, a3, a4, a5]
                  repeat' ((first | refine split_cond (fun hc => ?_) (fun hc => ?_) | refine split_yes (fun hc => ?_) (fun hc => ?_) | refine split_no (fun hc => ?_) (fun hc => ?_)) <;> simp -implicitDefEqProofs only [hc, ↓reduceIte, go_sem, Nat.reduceAdd, Nat.reduceSub, Nat.reduceMul, Nat.reduceBEq, Nat.reduceLeDiff, Nat.reduceLT, Nat.reduceEqDiff, reduceCtorEq, Int.reduceBEq, Int.reduceBNe, Int.reduceLT, Int.reduceLE, Int.reduceAdd, Int.reduceSub, Int.reduceMul, Int.reduceNeg, Int.reduceEq, Int.reduceToNat, hs, hsI, at?, small_room, a0, a1, a2, a3, a4, a5])
                  rw [RL_eq]
                  simp -implicitDefEqProofs only [↓reduceIte, go_sem, Nat.reduceAdd, Nat.reduceSub, Nat.reduceMul, Nat.reduceBEq, Nat.reduceLeDiff, Nat.reduceLT, Nat.reduceEqDiff, reduceCtorEq, Int.reduceBEq, Int.reduceBNe, Int.reduceLT, Int.reduceLE, Int.reduceAdd, Int.reduceSub, Int.reduceMul, Int.reduceNeg, Int.reduceEq, Int.reduceToNat, hs, hsI, at?, small_room, a0, a1, a2, a3, a4, a5]
                  repeat' ((first | refine split_cond (fun hc => ?_) (fun hc => ?_) | refine split_yes (fun hc => ?_) (fun hc => ?_) | refine split_no (fun hc => ?_) (fun hc => ?_)) <;> simp -implicitDefEqProofs only [hc, ↓reduceIte, go_sem, Nat.reduceAdd, Nat.reduceSub, Nat.reduceMul, Nat.reduceBEq, Nat.reduceLeDiff, Nat.reduceLT, Nat.reduceEqDiff, reduceCtorEq, Int.reduceBEq, Int.reduceBNe, Int.reduceLT, Int.reduceLE, Int.reduceAdd, Int.reduceSub, Int.reduceMul, Int.reduceNeg, Int.reduceEq, Int.reduceToNat, hs, hsI, at?, small_room, a0, a1, a2, a3, a4, a5])
                  rw [RL_eq]
                  simp -implicitDefEqProofs only [↓reduceIte, go_sem, Nat.reduceAdd, Nat.reduceSub, Nat.reduceMul, Nat.reduceBEq, Nat.reduceLeDiff, Nat.reduceLT, Nat.reduceEqDiff, reduceCtorEq, Int.reduceBEq, Int.reduceBNe, Int.reduceLT, Int.reduceLE, Int.reduceAdd, Int.reduceSub, Int.reduceMul, Int.reduceNeg, Int.reduceEq, Int.reduceToNat, hs, hsI, at?, small_room, a0, a1, a2, a3, a4, a5]
                  repeat' ((first | refine split_cond (fun hc => ?_) (fun hc => ?_) | refine split_yes (fun hc => ?_) (fun hc => ?_) | refine split_no (fun hc => ?_) (fun hc => ?_)) <;> simp -implicitDefEqProofs only [hc, ↓reduceIte, go_sem, Nat.reduceAdd, Nat.reduceSub, Nat.reduceMul, Nat.reduceBEq, Nat.reduceLeDiff, Nat.reduceLT, Nat.reduceEqDiff, reduceCtorEq, Int.reduceBEq, Int.reduceBNe, Int.reduceLT, Int.reduceLE, Int.reduceAdd, Int.reduceSub, Int.reduceMul, Int.reduceNeg, Int.reduceEq, Int.reduceToNat, hs, hsI, at?, small_room, a0, a1, a2, a3, a4, a5])
                  rw [RL_eq]
                  simp -implicitDefEqProofs only [↓reduceIte, go_sem, Nat.reduceAdd, Nat.reduceSub, Nat.reduceMul, Nat.reduceBEq, Nat.reduceLeDiff, Nat.reduceLT, Nat.reduceEqDiff, reduceCtorEq, Int.reduceBEq, Int.reduceBNe, Int.reduceLT, Int.reduceLE, Int.reduceAdd, Int.reduceSub, Int.reduceMul, Int.reduceNeg, Int.reduceEq, Int.reduceToNat, hs, hsI, at?, small_room, a0, a1, a2, a3, a4, a5]
                  repeat' ((first | refine split_cond (fun hc => ?_) (fun hc => ?_) | refine split_yes (fun hc => ?_) (fun hc => ?_) | refine split_no (fun hc => ?_) (fun hc => ?_)) <;> simp -implicitDefEqProofs only [hc, ↓reduceIte, go_sem, Nat.reduceAdd, Nat.reduceSub, Nat.reduceMul, Nat.reduceBEq, Nat.reduceLeDiff, Nat.reduceLT, Nat.reduceEqDiff, reduceCtorEq, Int.reduceBEq, Int.reduceBNe, Int.reduceLT, Int.reduceLE, Int.reduceAdd, Int.reduceSub, Int.reduceMul, Int.reduceNeg, Int.reduceEq, Int.reduceToNat, hs, hsI, at?, small_room, a0, a1, a2, a3, a4, a5])
                  rw [RL_eq]
                  simp -implicitDefEqProofs only [↓reduceIte, go_sem, Nat.reduceAdd, Nat.reduceSub, Nat.reduceMul, Nat.reduceBEq, Nat.reduceLeDiff, Nat.reduceLT, Nat.reduceEqDiff, reduceCtorEq, Int.reduceBEq, Int.reduceBNe, Int.reduceLT, Int.reduceLE, Int.reduceAdd, Int.reduceSub, Int.reduceMul, Int.reduceNeg, Int.reduceEq, Int.reduceToNat, hs, hsI, at?, small_room, a0, a1, a2, a3, a4, a5, hd, hk, ht, hq2]
                  repeat' ((first | refine split_cond (fun hc => ?_) (fun hc => ?_) | refine split_yes (fun hc => ?_) (fun hc => ?_) | refine split_no (fun hc => ?_) (fun hc => ?_)) <;> simp -implicitDefEqProofs only [hc, ↓reduceIte, go_sem, Nat.reduceAdd, Nat.reduceSub, Nat.reduceMul, Nat.reduceBEq, Nat.reduceLeDiff, Nat.reduceLT, Nat.reduceEqDiff, reduceCtorEq, Int.reduceBEq, Int.reduceBNe, Int.reduceLT, Int.reduceLE, Int.reduceAdd, Int.reduceSub, Int.reduceMul, Int.reduceNeg, Int.reduceEq, Int.reduceToNat, hs, hsI, at?, small_room, a0, a1, a2, a3, a4, a5, hd, hk, ht, hq2])
                · have hv : dreadS s = null := by rw [hv, if_pos (.inr hq)]
                  have hq2 : (dtextS (dateV n0 n1 n2 n3 n4 n5).n == s) = false := by simpa using hq
                  refine ⟨dateV n0 n1 n2 n3 n4 n5, false, ?_, by rw [hv]; rfl, fun h => by simp at h⟩
                  rw [call_122]
                  simp -implicitDefEqProofs only [↓reduceIte, go_sem, Nat.reduceAdd, Nat.reduceSub, Nat.reduceMul, Nat.reduceBEq, Nat.reduceLeDiff, Nat.reduceLT, Nat.reduceEqDiff, reduceCtorEq, Int.reduceBEq, Int.reduceBNe, Int.reduceLT, Int.reduceLE, Int.reduceAdd, Int.reduceSub, Int.reduceMul, Int.reduceNeg, Int.reduceEq, Int.reduceToNat, Tryz.f122, hs, hsI]
                  repeat' ((first | refine split_cond (fun hc => ?_) (fun hc => ?_) | refine split_yes (fun hc => ?_) (fun hc => ?_) | refine split_no (fun hc => ?_) (fun hc => ?_)) <;> simp -implicitDefEqProofs only [hc, ↓reduceIte, go_sem, Nat.reduceAdd, Nat.reduceSub, Nat.reduceMul, Nat.reduceBEq, Nat.reduceLeDiff, Nat.reduceLT, Nat.reduceEqDiff, reduceCtorEq, Int.reduceBEq, Int.reduceBNe, Int.reduceLT, Int.reduceLE, Int.reduceAdd, Int.reduceSub, Int.reduceMul, Int.reduceNeg, Int.reduceEq, Int.reduceToNat, hs, hsI])
                  rw [RL_eq]
                  simp -implicitDefEqProofs only [↓reduceIte, go_sem, Nat.reduceAdd, Nat.reduceSub, Nat.reduceMul, Nat.reduceBEq, Nat.reduceLeDiff, Nat.reduceLT, Nat.reduceEqDiff, reduceCtorEq, Int.reduceBEq, Int.reduceBNe, Int.reduceLT, Int.reduceLE, Int.reduceAdd, Int.reduceSub, Int.reduceMul, Int.reduceNeg, Int.reduceEq, Int.reduceToNat, hs, hsI, at?, small_room, a0, a1, a2, a3, a4, a5]
                  repeat' ((first | refine split_cond (fun hc => ?_) (fun hc => ?_) | refine split_yes (fun hc => ?_) (fun hc => ?_) | refine split_no (fun hc => ?_) (fun hc => ?_)) <;> simp -implicitDefEqProofs only [hc, ↓reduceIte, go_sem, Nat.reduceAdd, Nat.reduceSub, Nat.reduceMul, Nat.reduceBEq, Nat.reduceLeDiff, Nat.reduceLT, Nat.reduceEqDiff, reduceCtorEq, Int.reduceBEq, Int.reduceBNe, Int.reduceLT, Int.reduceLE, Int.reduceAdd, Int.reduceSub, Int.reduceMul, Int.reduceNeg, Int.reduceEq, Int.reduceToNat, hs, hsI, at?, small_room, a0, a1, a2, a3, a4, a5])
                  rw [RL_eq]
                  simp -implicitDefEqProofs only [↓reduceIte, go_sem, Nat.reduceAdd, Nat.reduceSub, Nat.reduceMul, Nat.reduceBEq, Nat.reduceLeDiff, Nat.reduceLT, Nat.reduceEqDiff, reduceCtorEq, Int.reduceBEq, Int.reduceBNe, Int.reduceLT, Int.reduceLE, Int.reduceAdd, Int.reduceSub, Int.reduceMul, Int.reduceNeg, Int.reduceEq, Int.reduceToNat, hs, hsI, at?, small_room, a0, a1, a2, a3, a4, a5]
                  repeat' ((first | refine split_cond (fun hc => ?_) (fun hc => ?_) | refine split_yes (fun hc => ?_) (fun hc => ?_) | refine split_no (fun hc => ?_) (fun hc => ?_)) <;> simp -implicitDefEqProofs only [hc, ↓reduceIte, go_sem, Nat.reduceAdd, Nat.reduceSub, Nat.reduceMul, Nat.reduceBEq, Nat.reduceLeDiff, Nat.reduceLT, Nat.reduceEqDiff, reduceCtorEq, Int.reduceBEq, Int.reduceBNe, Int.reduceLT, Int.reduceLE, Int.reduceAdd, Int.reduceSub, Int.reduceMul, Int.reduceNeg, Int.reduceEq, Int.reduceToNat, hs, hsI, at?, small_room, a0, a1, a2, a3, a4, a5])
                  rw [RL_eq]
                  simp -implicitDefEqProofs only [↓reduceIte, go_sem, Nat.reduceAdd, Nat.reduceSub, Nat.reduceMul, Nat.reduceBEq, Nat.reduceLeDiff, Nat.reduceLT, Nat.reduceEqDiff, reduceCtorEq, Int.reduceBEq, Int.reduceBNe, Int.reduceLT, Int.reduceLE, Int.reduceAdd, Int.reduceSub, Int.reduceMul, Int.reduceNeg, Int.reduceEq, Int.reduceToNat, hs, hsI, at?, small_room, a0, a1, a2, a3, a4, a5]
                  repeat' ((first | refine split_cond (fun hc => ?_) (fun hc => ?_) | refine split_yes (fun hc => ?_) (fun hc => ?_) | refine split_no (fun hc => ?_) (fun hc => ?_)) <;> simp -implicitDefEqProofs only [hc, ↓reduceIte, go_sem, Nat.reduceAdd, Nat.reduceSub, Nat.reduceMul, Nat.reduceBEq, Nat.reduceLeDiff, Nat.reduceLT, Nat.reduceEqDiff, reduceCtorEq, Int.reduceBEq, Int.reduceBNe, Int.reduceLT, Int.reduceLE, Int.reduceAdd, Int.reduceSub, Int.reduceMul, Int.reduceNeg, Int.reduceEq, Int.reduceToNat, hs, hsI, at?, small_room, a0, a1, a2, a3, a4, a5])
                  rw [RL_eq]
                  simp -implicitDefEqProofs only [↓reduceIte, go_sem, Nat.reduceAdd, Nat.reduceSub, Nat.reduceMul, Nat.reduceBEq, Nat.reduceLeDiff, Nat.reduceLT, Nat.reduceEqDiff, reduceCtorEq, Int.reduceBEq, Int.reduceBNe, Int.reduceLT, Int.reduceLE, Int.reduceAdd, Int.reduceSub, Int.reduceMul, Int.reduceNeg, Int.reduceEq, Int.reduceToNat, hs, hsI, at?, small_room, a0, a1, a2, a3, a4, a5]
                  repeat' ((first | refine split_cond (fun hc => ?_) (fun hc => ?_) | refine split_yes (fun hc => ?_) (fun hc => ?_) | refine split_no (fun hc => ?_) (fun hc => ?_)) <;> simp -implicitDefEqProofs only [hc, ↓reduceIte, go_sem, Nat.reduceAdd, Nat.reduceSub, Nat.reduceMul, Nat.reduceBEq, Nat.reduceLeDiff, Nat.reduceLT, Nat.reduceEqDiff, reduceCtorEq, Int.reduceBEq, Int.reduceBNe, Int.reduceLT, Int.reduceLE, Int.reduceAdd, Int.reduceSub, Int.reduceMul, Int.reduceNeg, Int.reduceEq, Int.reduceToNat, hs, hsI, at?, small_room, a0, a1, a2, a3, a4, a5])
                  rw [RL_eq]
                  simp -implicitDefEqProofs only [↓reduceIte, go_sem, Nat.reduceAdd, Nat.reduceSub, Nat.reduceMul, Nat.reduceBEq, Nat.reduceLeDiff, Nat.reduceLT, Nat.reduceEqDiff, reduceCtorEq, Int.reduceBEq, Int.reduceBNe, Int.reduceLT, Int.reduceLE, Int.reduceAdd, Int.reduceSub, Int.reduceMul, Int.reduceNeg, Int.reduceEq, Int.reduceToNat, hs, hsI, at?, small_room, a0, a1, a2, a3, a4, a5]
                  repeat' ((first | refine split_cond (fun hc => ?_) (fun hc => ?_) | refine split_yes (fun hc => ?_) (fun hc => ?_) | refine split_no (fun hc => ?_) (fun hc => ?_)) <;> simp -implicitDefEqProofs only [hc, ↓reduceIte, go_sem, Nat.reduceAdd, Nat.reduceSub, Nat.reduceMul, Nat.reduceBEq, Nat.reduceLeDiff, Nat.reduceLT, Nat.reduceEqDiff, reduceCtorEq, Int.reduceBEq, Int.reduceBNe, Int.reduceLT, Int.reduceLE, Int.reduceAdd, Int.reduceSub, Int.reduceMul, Int.reduceNeg, Int.reduceEq, Int.reduceToNat, hs, hsI, at?, small_room, a0, a1, a2, a3, a4, a5])
                  rw [RL_eq]
                  simp -implicitDefEqProofs only [↓reduceIte, go_sem, Nat.reduceAdd, Nat.reduceSub, Nat.reduceMul, Nat.reduceBEq, Nat.reduceLeDiff, Nat.reduceLT, Nat.reduceEqDiff, reduceCtorEq, Int.reduceBEq, Int.reduceBNe, Int.reduceLT, Int.reduceLE, Int.reduceAdd, Int.reduceSub, Int.reduceMul, Int.reduceNeg, Int.reduceEq, Int.reduceToNat, hs, hsI, at?, small_room, a0, a1, a2, a3, a4, a5]
                  repeat' ((first | refine split_cond (fun hc => ?_) (fun hc => ?_) | refine split_yes (fun hc => ?_) (fun hc => ?_) | refine split_no (fun hc => ?_) (fun hc => ?_)) <;> simp -implicitDefEqProofs only [hc, ↓reduceIte, go_sem, Nat.reduceAdd, Nat.reduceSub, Nat.reduceMul, Nat.reduceBEq, Nat.reduceLeDiff, Nat.reduceLT, Nat.reduceEqDiff, reduceCtorEq, Int.reduceBEq, Int.reduceBNe, Int.reduceLT, Int.reduceLE, Int.reduceAdd, Int.reduceSub, Int.reduceMul, Int.reduceNeg, Int.reduceEq, Int.reduceToNat, hs, hsI, at?, small_room, a0, a1, a2, a3, a4, a5])
                  rw [RL_eq]
                  simp -implicitDefEqProofs only [↓reduceIte, go_sem, Nat.reduceAdd, Nat.reduceSub, Nat.reduceMul, Nat.reduceBEq, Nat.reduceLeDiff, Nat.reduceLT, Nat.reduceEqDiff, reduceCtorEq, Int.reduceBEq, Int.reduceBNe, Int.reduceLT, Int.reduceLE, Int.reduceAdd, Int.reduceSub, Int.reduceMul, Int.reduceNeg, Int.reduceEq, Int.reduceToNat, hs, hsI, at?, small_room, a0, a1, a2, a3, a4, a5, hd, hk, ht, hq2]
                  repeat' ((first | refine split_cond (fun hc => ?_) (fun hc => ?_) | refine split_yes (fun hc => ?_) (fun hc => ?_) | refine split_no (fun hc => ?_) (fun hc => ?_)) <;> simp -implicitDefEqProofs only [hc, ↓reduceIte, go_sem, Nat.reduceAdd, Nat.reduceSub, Nat.reduceMul, Nat.reduceBEq, Nat.reduceLeDiff, Nat.reduceLT, Nat.reduceEqDiff, reduceCtorEq, Int.reduceBEq, Int.reduceBNe, Int.reduceLT, Int.reduceLE, Int.reduceAdd, Int.reduceSub, Int.reduceMul, Int.reduceNeg, Int.reduceEq, Int.reduceToNat, hs, hsI, at?, small_room, a0, a1, a2, a3, a4, a5, hd, hk, ht, hq2])
theorem p_HasPrefix (s p : List UInt8) : R K (.call 116 [.str s, .str p] []) = some (.bool (Lib.hasPrefix s p), []) := R_prim rfl
theorem p_TrimPrefix (s p : List UInt8) : R K (.call 123 [.str s, .str p] []) = some (.str (Lib.trimPrefix s p), []) := R_prim rfl
theorem u8_39 (c : UInt8) : (((c.toNat : Nat) : Int) == 39) = (c == 39) := u8_lit c 39 (by omega)
theorem c_candidate (s : List UInt8) (hs : s.length ≤ 10000000) : R K (.call 54 [.str s] []) = some (enc (candS s), []) := by
  by_cases h1 : s = bTrue
  · have e : candS s = boolV true := by rw [h1]; exact cand_true
    have hb : (s == bTrue) = true := by simp [h1]
    rw [e]
    rw [call_54]
    simp -implicitDefEqProofs only [↓reduceIte, go_sem, Nat.reduceAdd, Nat.reduceSub, Nat.reduceMul, Nat.reduceBEq, Nat.reduceLeDiff, Nat.reduceLT, Nat.reduceEqDiff, reduceCtorEq, Int.reduceBEq, Int.reduceBNe, Int.reduceLT, Int.reduceLE, Int.reduceAdd, Int.reduceSub, Int.reduceMul, Int.reduceNeg, Int.reduceEq, Int.reduceToNat, Tryz.f54, hb, c_boolean]
    repeat' ((first | refine split_cond (fun hc => ?_) (fun hc => ?_) | refine split_yes (fun hc => ?_) (fun hc => ?_) | refine split_no (fun hc => ?_) (fun hc => ?_)) <;> simp -implicitDefEqProofs only [hc, ↓reduceIte, go_sem, Nat.reduceAdd, Nat.reduceSub, Nat.reduceMul, Nat.reduceBEq, Nat.reduceLeDiff, Nat.reduceLT, Nat.reduceEqDiff, reduceCtorEq, Int.reduceBEq, Int.reduceBNe, Int.reduceLT, Int.reduceLE, Int.reduceAdd, Int.reduceSub, Int.reduceMul, Int.reduceNeg, Int.reduceEq, Int.reduceToNat, hb, c_boolean])
  by_cases h2 : s = bFalse
  · have e : candS s = boolV false := by rw [h2]; exact cand_false
    have hb : (s == bTrue) = false := by simpa using h1
    have hb2 : (s == bFalse) = true := by simp [h2]
    rw [e]
    rw [call_54]
    simp -implicitDefEqProofs only [↓reduceIte, go_sem, Nat.reduceAdd, Nat.reduceSub, Nat.reduceMul, Nat.reduceBEq, Nat.reduceLeDiff, Nat.reduceLT, Nat.reduceEqDiff, reduceCtorEq, Int.reduceBEq, Int.reduceBNe, Int.reduceLT, Int.reduceLE, Int.reduceAdd, Int.reduceSub, Int.reduceMul, Int.reduceNeg, Int.reduceEq, Int.reduceToNat, Tryz.f54, hb, hb2, c_boolean]
    repeat' ((first | refine split_cond (fun hc => ?_) (fun hc => ?_) | refine split_yes (fun hc => ?_) (fun hc => ?_) | refine split_no (fun hc => ?_) (fun hc => ?_)) <;> simp -implicitDefEqProofs only [hc, ↓reduceIte, go_sem, Nat.reduceAdd, Nat.reduceSub, Nat.reduceMul, Nat.reduceBEq, Nat.reduceLeDiff, Nat.reduceLT, Nat.reduceEqDiff, reduceCtorEq, Int.reduceBEq, Int.reduceBNe, Int.reduceLT, Int.reduceLE, Int.reduceAdd, Int.reduceSub, Int.reduceMul, Int.reduceNeg, Int.reduceEq, Int.reduceToNat, hb, hb2, c_boolean])
  have hb : (s == bTrue) = false := by simpa using h1
  have hb2 : (s == bFalse) = false := by simpa using h2
  have hn : ¬ (s = bTrue ∨ s = bFalse) := fun h => h.elim h1 h2
  -- what is behind the quotes
  have tailEq : ¬ (2 ≤ s.length ∧ s[0]? = some 39 ∧ s[s.length - 1]? = some 39) → candS s = (if Lib.hasPrefix s [64] = true then dreadS (s.drop 1) else match atoiN s with
    | some n => ⟨2, n, []⟩
    | none => null) := fun hq => by unfold candS; rw [if_neg hn, if_neg hq]; cases atoiN s <;> rfl
  have hw : 1 ≤ s.length → wrapI .i64 ((s.length : Int) - 1) = ((s.length - 1 : Nat) : Int) := fun h => by rw [wrap_id (by omega) (by omega)]; omega
  -- the end of the road
  have q4 : (s.drop 1).length ≤ s.length := by simp
  by_cases hq : (2 ≤ s.length ∧ s[0]? = some 39 ∧ s[s.length - 1]? = some 39)
  · have e : candS s = ⟨3, 0, Lib.replaceAll (cut s 1 (s.length - 1)) [39, 39] [39]⟩ := by unfold candS; rw [if_neg hn, if_pos hq]
    obtain ⟨l2, c0, cl⟩ := hq
    have hw := hw (by omega)
    have g1 : decide ((2 : Int) ≤ (s.length : Int)) = true := by rw [decide_eq_true_eq]; omega
    have g2 : at? s 0 = some 39 := byte_get c0
    have g3 := byte_get cl
    have g4 : ((0 : Int) ≤ ((s.length - 1 : Nat) : Int)) = True := eq_true (by omega)
    have g5 : (((s.length - 1 : Nat) : Int) ≤ (s.length : Int)) = True := eq_true (by omega)
    have g6 : ((1 : Int) ≤ ((s.length - 1 : Nat) : Int)) = True := eq_true (by omega)
    have g9 : ((1 : Int) ≤ (s.length : Int)) = True := eq_true (by omega)
    have g7 : (1 : Int).toNat = 1 := rfl
    have g8 : ((39 : UInt8).toNat : Int) = 39 := rfl
    have hr := p_Replace (List.take (s.length - 1 - 1) (List.drop 1 s)) [39, 39] [39] (by simp; omega) (by simp) (by simp; omega)
    rw [e]
    rw [call_54]
    simp -implicitDefEqProofs only [↓reduceIte, go_sem, Nat.reduceAdd, Nat.reduceSub, Nat.reduceMul, Nat.reduceBEq, Nat.reduceLeDiff, Nat.reduceLT, Nat.reduceEqDiff, reduceCtorEq, Int.reduceBEq, Int.reduceBNe, Int.reduceLT, Int.reduceLE, Int.reduceAdd, Int.reduceSub, Int.reduceMul, Int.reduceNeg, Int.reduceEq, Int.reduceToNat, Tryz.f54, hb, hb2, g1, g2, g3, g4, g5, g6, g7, g8, g9, hw, Int.toNat_natCast, hr]
    repeat' ((first | refine split_cond (fun hc => ?_) (fun hc => ?_) | refine split_yes (fun hc => ?_) (fun hc => ?_) | refine split_no (fun hc => ?_) (fun hc => ?_)) <;> simp -implicitDefEqProofs only [hc, ↓reduceIte, go_sem, Nat.reduceAdd, Nat.reduceSub, Nat.reduceMul, Nat.reduceBEq, Nat.reduceLeDiff, Nat.reduceLT, Nat.reduceEqDiff, reduceCtorEq, Int.reduceBEq, Int.reduceBNe, Int.reduceLT, Int.reduceLE, Int.reduceAdd, Int.reduceSub, Int.reduceMul, Int.reduceNeg, Int.reduceEq, Int.reduceToNat, hb, hb2, g1, g2, g3, g4, g5, g6, g7, g8, g9, hw, Int.toNat_natCast, hr])
    all_goals rfl
  · rw [tailEq hq]
    -- the three ways not to be in quotes lead on to the same place
    by_cases h3 : Lib.hasPrefix s [64] = true
    · have hs0 : ∃ r, s = 64 :: r := by
        match s, h3 with
        | [], h3 => simp [Lib.hasPrefix] at h3
        | c :: r, h3 =>
          by_cases hc : c = 64
          · exact ⟨r, by rw [hc]⟩
          · rw [pre_no c r hc] at h3; simp at h3
      obtain ⟨r, rfl⟩ := hs0
      rw [if_pos h3]
      have d := c_dateRead r
      have hp := p_HasPrefix (64 :: r) [64]
      rw [h3] at hp
      have g8 : ((64 : UInt8).toNat : Int) = 64 := rfl
      have g9 : ((1 : Int) ≤ ((r.length + 1 : Nat) : Int)) = True := eq_true (by omega)
      have g7 : (1 : Int).toNat = 1 := rfl
      have g10 : ((r.length + 1 : Nat) : Int).toNat = r.length + 1 := rfl
      by_cases h4 : 2 ≤ r.length + 1
      · have g1 : decide ((2 : Int) ≤ ((r.length + 1 : Nat) : Int)) = true := by rw [decide_eq_true_eq]; omega
        rw [call_54]
        simp -implicitDefEqProofs only [↓reduceIte, go_sem, Nat.reduceAdd, Nat.reduceSub, Nat.reduceMul, Nat.reduceBEq, Nat.reduceLeDiff, Nat.reduceLT, Nat.reduceEqDiff, reduceCtorEq, Int.reduceBEq, Int.reduceBNe, Int.reduceLT, Int.reduceLE, Int.reduceAdd, Int.reduceSub, Int.reduceMul, Int.reduceNeg, Int.reduceEq, Int.reduceToNat, Tryz.f54, hb, hb2, g1, at_zero, g8, hp, g9, g7, Nat.add_sub_cancel, List.take_length, d]
        repeat' ((first | refine split_cond (fun hc => ?_) (fun hc => ?_) | refine split_yes (fun hc => ?_) (fun hc => ?_) | refine split_no (fun hc => ?_) (fun hc => ?_)) <;> simp -implicitDefEqProofs only [hc, ↓reduceIte, go_sem, Nat.reduceAdd, Nat.reduceSub, Nat.reduceMul, Nat.reduceBEq, Nat.reduceLeDiff, Nat.reduceLT, Nat.reduceEqDiff, reduceCtorEq, Int.reduceBEq, Int.reduceBNe, Int.reduceLT, Int.reduceLE, Int.reduceAdd, Int.reduceSub, Int.reduceMul, Int.reduceNeg, Int.reduceEq, Int.reduceToNat, hb, hb2, g1, at_zero, g8, hp, g9, g7, Nat.add_sub_cancel, List.take_length, d])
        all_goals rfl
      · have g1 : decide ((2 : Int) ≤ ((r.length + 1 : Nat) : Int)) = false := by simp; omega
        rw [call_54]
        simp -implicitDefEqProofs only [↓reduceIte, go_sem, Nat.reduceAdd, Nat.reduceSub, Nat.reduceMul, Nat.reduceBEq, Nat.reduceLeDiff, Nat.reduceLT, Nat.reduceEqDiff, reduceCtorEq, Int.reduceBEq, Int.reduceBNe, Int.reduceLT, Int.reduceLE, Int.reduceAdd, Int.reduceSub, Int.reduceMul, Int.reduceNeg, Int.reduceEq, Int.reduceToNat, Tryz.f54, hb, hb2, g1, at_zero, g8, hp, g9, g7, Nat.add_sub_cancel, List.take_length, d]
        repeat' ((first | refine split_cond (fun hc => ?_) (fun hc => ?_) | refine split_yes (fun hc => ?_) (fun hc => ?_) | refine split_no (fun hc => ?_) (fun hc => ?_)) <;> simp -implicitDefEqProofs only [hc, ↓reduceIte, go_sem, Nat.reduceAdd, Nat.reduceSub, Nat.reduceMul, Nat.reduceBEq, Nat.reduceLeDiff, Nat.reduceLT, Nat.reduceEqDiff, reduceCtorEq, Int.reduceBEq, Int.reduceBNe, Int.reduceLT, Int.reduceLE, Int.reduceAdd, Int.reduceSub, Int.reduceMul, Int.reduceNeg, Int.reduceEq, Int.reduceToNat, hb, hb2, g1, at_zero, g8, hp, g9, g7, Nat.add_sub_cancel, List.take_length, d])
        all_goals rfl
    · have h3' : Lib.hasPrefix s [64] = false := by simpa using h3
      rw [if_neg h3]
      have hp := p_HasPrefix s [64]
      rw [h3'] at hp
      have fin : ∀ {X : AV}, True := fun {X} => trivial
      cases ha : atoiN s with
      | none =>
        obtain ⟨z, a⟩ := p_Atoi_no s (by omega) ha
        by_cases l2 : 2 ≤ s.length
        · have g1 : decide ((2 : Int) ≤ (s.length : Int)) = true := by rw [decide_eq_true_eq]; omega
          obtain ⟨c, hc⟩ := some_at (l := s) (i := 0) (by omega)
          have g2 : at? s 0 = some c := byte_get hc
          have hw := hw (by omega)
          obtain ⟨d, hd⟩ := some_at (l := s) (i := s.length - 1) (by omega)
          have g3 := byte_get hd
          by_cases hc39 : c = 39
          · have g4 : (c == 39) = true := by simp [hc39]
            have g5 : (d == 39) = false := by
              have : d ≠ 39 := fun e => hq ⟨l2, by rw [hc, hc39], by rw [hd, e]⟩
              simpa using this
            rw [call_54]
            simp -implicitDefEqProofs only [↓reduceIte, go_sem, Nat.reduceAdd, Nat.reduceSub, Nat.reduceMul, Nat.reduceBEq, Nat.reduceLeDiff, Nat.reduceLT, Nat.reduceEqDiff, reduceCtorEq, Int.reduceBEq, Int.reduceBNe, Int.reduceLT, Int.reduceLE, Int.reduceAdd, Int.reduceSub, Int.reduceMul, Int.reduceNeg, Int.reduceEq, Int.reduceToNat, Tryz.f54, hb, hb2, g1, g2, g3, g4, g5, u8_39, hw, hp, a]
            repeat' ((first | refine split_cond (fun hc => ?_) (fun hc => ?_) | refine split_yes (fun hc => ?_) (fun hc => ?_) | refine split_no (fun hc => ?_) (fun hc => ?_)) <;> simp -implicitDefEqProofs only [hc, ↓reduceIte, go_sem, Nat.reduceAdd, Nat.reduceSub, Nat.reduceMul, Nat.reduceBEq, Nat.reduceLeDiff, Nat.reduceLT, Nat.reduceEqDiff, reduceCtorEq, Int.reduceBEq, Int.reduceBNe, Int.reduceLT, Int.reduceLE, Int.reduceAdd, Int.reduceSub, Int.reduceMul, Int.reduceNeg, Int.reduceEq, Int.reduceToNat, hb, hb2, g1, g2, g3, g4, g5, u8_39, hw, hp, a])
            all_goals rfl
          · have g4 : (c == 39) = false := by simpa using hc39
            rw [call_54]
            simp -implicitDefEqProofs only [↓reduceIte, go_sem, Nat.reduceAdd, Nat.reduceSub, Nat.reduceMul, Nat.reduceBEq, Nat.reduceLeDiff, Nat.reduceLT, Nat.reduceEqDiff, reduceCtorEq, Int.reduceBEq, Int.reduceBNe, Int.reduceLT, Int.reduceLE, Int.reduceAdd, Int.reduceSub, Int.reduceMul, Int.reduceNeg, Int.reduceEq, Int.reduceToNat, Tryz.f54, hb, hb2, g1, g2, g4, u8_39, hp, a]
            repeat' ((first | refine split_cond (fun hc => ?_) (fun hc => ?_) | refine split_yes (fun hc => ?_) (fun hc => ?_) | refine split_no (fun hc => ?_) (fun hc => ?_)) <;> simp -implicitDefEqProofs only [hc, ↓reduceIte, go_sem, Nat.reduceAdd, Nat.reduceSub, Nat.reduceMul, Nat.reduceBEq, Nat.reduceLeDiff, Nat.reduceLT, Nat.reduceEqDiff, reduceCtorEq, Int.reduceBEq, Int.reduceBNe, Int.reduceLT, Int.reduceLE, Int.reduceAdd, Int.reduceSub, Int.reduceMul, Int.reduceNeg, Int.reduceEq, Int.reduceToNat, hb, hb2, g1, g2, g4, u8_39, hp, a])
            all_goals rfl
        · have g1 : decide ((2 : Int) ≤ (s.length : Int)) = false := by simp; omega
          rw [call_54]
          simp -implicitDefEqProofs only [↓reduceIte, go_sem, Nat.reduceAdd, Nat.reduceSub, Nat.reduceMul, Nat.reduceBEq, Nat.reduceLeDiff, Nat.reduceLT, Nat.reduceEqDiff, reduceCtorEq, Int.reduceBEq, Int.reduceBNe, Int.reduceLT, Int.reduceLE, Int.reduceAdd, Int.reduceSub, Int.reduceMul, Int.reduceNeg, Int.reduceEq, Int.reduceToNat, Tryz.f54, hb, hb2, g1, hp, a]
          repeat' ((first | refine split_cond (fun hc => ?_) (fun hc => ?_) | refine split_yes (fun hc => ?_) (fun hc => ?_) | refine split_no (fun hc => ?_) (fun hc => ?_)) <;> simp -implicitDefEqProofs only [hc, ↓reduceIte, go_sem, Nat.reduceAdd, Nat.reduceSub, Nat.reduceMul, Nat.reduceBEq, Nat.reduceLeDiff, Nat.reduceLT, Nat.reduceEqDiff, reduceCtorEq, Int.reduceBEq, Int.reduceBNe, Int.reduceLT, Int.reduceLE, Int.reduceAdd, Int.reduceSub, Int.reduceMul, Int.reduceNeg, Int.reduceEq, Int.reduceToNat, hb, hb2, g1, hp, a])
          all_goals rfl
      | some n =>
        have a := p_Atoi_ok s n (by omega) ha
        by_cases l2 : 2 ≤ s.length
        · have g1 : decide ((2 : Int) ≤ (s.length : Int)) = true := by rw [decide_eq_true_eq]; omega
          obtain ⟨c, hc⟩ := some_at (l := s) (i := 0) (by omega)
          have g2 : at? s 0 = some c := byte_get hc
          have hw := hw (by omega)
          obtain ⟨d, hd⟩ := some_at (l := s) (i := s.length - 1) (by omega)
          have g3 := byte_get hd
          by_cases hc39 : c = 39
          · have g4 : (c == 39) = true := by simp [hc39]
            have g5 : (d == 39) = false := by
              have : d ≠ 39 := fun e => hq ⟨l2, by rw [hc, hc39], by rw [hd, e]⟩
              simpa using this
            rw [call_54]
            simp -implicitDefEqProofs only [↓reduceIte, go_sem, Nat.reduceAdd, Nat.reduceSub, Nat.reduceMul, Nat.reduceBEq, Nat.reduceLeDiff, Nat.reduceLT, Nat.reduceEqDiff, reduceCtorEq, Int.reduceBEq, Int.reduceBNe, Int.reduceLT, Int.reduceLE, Int.reduceAdd, Int.reduceSub, Int.reduceMul, Int.reduceNeg, Int.reduceEq, Int.reduceToNat, Tryz.f54, hb, hb2, g1, g2, g3, g4, g5, u8_39, hw, hp, a]
            repeat' ((first | refine split_cond (fun hc => ?_) (fun hc => ?_) | refine split_yes (fun hc => ?_) (fun hc => ?_) | refine split_no (fun hc => ?_) (fun hc => ?_)) <;> simp -implicitDefEqProofs only [hc, ↓reduceIte, go_sem, Nat.reduceAdd, Nat.reduceSub, Nat.reduceMul, Nat.reduceBEq, Nat.reduceLeDiff, Nat.reduceLT, Nat.reduceEqDiff, reduceCtorEq, Int.reduceBEq, Int.reduceBNe, Int.reduceLT, Int.reduceLE, Int.reduceAdd, Int.reduceSub, Int.reduceMul, Int.reduceNeg, Int.reduceEq, Int.reduceToNat, hb, hb2, g1, g2, g3, g4, g5, u8_39, hw, hp, a])
          · have g4 : (c == 39) = false := by simpa using hc39
            rw [call_54]
            simp -implicitDefEqProofs only [↓reduceIte, go_sem, Nat.reduceAdd, Nat.reduceSub, Nat.reduceMul, Nat.reduceBEq, Nat.reduceLeDiff, Nat.reduceLT, Nat.reduceEqDiff, reduceCtorEq, Int.reduceBEq, Int.reduceBNe, Int.reduceLT, Int.reduceLE, Int.reduceAdd, Int.reduceSub, Int.reduceMul, Int.reduceNeg, Int.reduceEq, Int.reduceToNat, Tryz.f54, hb, hb2, g1, g2, g4, u8_39, hp, a]
            repeat' ((first | refine split_cond (fun hc => ?_) (fun hc => ?_) | refine split_yes (fun hc => ?_) (fun hc => ?_) | refine split_no (fun hc => ?_) (fun hc => ?_)) <;> simp -implicitDefEqProofs only [hc, ↓reduceIte, go_sem, Nat.reduceAdd, Nat.reduceSub, Nat.reduceMul, Nat.reduceBEq, Nat.reduceLeDiff, Nat.reduceLT, Nat.reduceEqDiff, reduceCtorEq, Int.reduceBEq, Int.reduceBNe, Int.reduceLT, Int.reduceLE, Int.reduceAdd, Int.reduceSub, Int.reduceMul, Int.reduceNeg, Int.reduceEq, Int.reduceToNat, hb, hb2, g1, g2, g4, u8_39, hp, a])
        · have g1 : decide ((2 : Int) ≤ (s.length : Int)) = false := by simp; omega
          rw [call_54]
          simp -implicitDefEqProofs only [↓reduceIte, go_sem, Nat.reduceAdd, Nat.reduceSub, Nat.reduceMul, Nat.reduceBEq, Nat.reduceLeDiff, Nat.reduceLT, Nat.reduceEqDiff, reduceCtorEq, Int.reduceBEq, Int.reduceBNe, Int.reduceLT, Int.reduceLE, Int.reduceAdd, Int.reduceSub, Int.reduceMul, Int.reduceNeg, Int.reduceEq, Int.reduceToNat, Tryz.f54, hb, hb2, g1, hp, a]
          repeat' ((first | refine split_cond (fun hc => ?_) (fun hc => ?_) | refine split_yes (fun hc => ?_) (fun hc => ?_) | refine split_no (fun hc => ?_) (fun hc => ?_)) <;> simp -implicitDefEqProofs only [hc, ↓reduceIte, go_sem, Nat.reduceAdd, Nat.reduceSub, Nat.reduceMul, Nat.reduceBEq, Nat.reduceLeDiff, Nat.reduceLT, Nat.reduceEqDiff, reduceCtorEq, Int.reduceBEq, Int.reduceBNe, Int.reduceLT, Int.reduceLE, Int.reduceAdd, Int.reduceSub, Int.reduceMul, Int.reduceNeg, Int.reduceEq, Int.reduceToNat, hb, hb2, g1, hp, a])
theorem c_Can (a b : Int) : R K (.call 18 [I a, I b] []) = some (.bool (canS a b), []) := by
  rw [call_18]
  simp -implicitDefEqProofs only [↓reduceIte, go_sem, Nat.reduceAdd, Nat.reduceSub, Nat.reduceMul, Nat.reduceBEq, Nat.reduceLeDiff, Nat.reduceLT, Nat.reduceEqDiff, reduceCtorEq, Int.reduceBEq, Int.reduceBNe, Int.reduceLT, Int.reduceLE, Int.reduceAdd, Int.reduceSub, Int.reduceMul, Int.reduceNeg, Int.reduceEq, Int.reduceToNat, Tryz.f18, c_within]
  repeat' ((first | refine split_cond (fun hc => ?_) (fun hc => ?_) | refine split_yes (fun hc => ?_) (fun hc => ?_) | refine split_no (fun hc => ?_) (fun hc => ?_)) <;> simp -implicitDefEqProofs only [hc, ↓reduceIte, go_sem, Nat.reduceAdd, Nat.reduceSub, Nat.reduceMul, Nat.reduceBEq, Nat.reduceLeDiff, Nat.reduceLT, Nat.reduceEqDiff, reduceCtorEq, Int.reduceBEq, Int.reduceBNe, Int.reduceLT, Int.reduceLE, Int.reduceAdd, Int.reduceSub, Int.reduceMul, Int.reduceNeg, Int.reduceEq, Int.reduceToNat, c_within])
  all_goals simp_all [canS]
theorem r_CanCast (a b : Int) : R K (.call 19 [I a, I b] []) = some (.bool (canS a b), []) := by
  rw [call_19]
  simp -implicitDefEqProofs only [↓reduceIte, go_sem, Nat.reduceAdd, Nat.reduceSub, Nat.reduceMul, Nat.reduceBEq, Nat.reduceLeDiff, Nat.reduceLT, Nat.reduceEqDiff, reduceCtorEq, Int.reduceBEq, Int.reduceBNe, Int.reduceLT, Int.reduceLE, Int.reduceAdd, Int.reduceSub, Int.reduceMul, Int.reduceNeg, Int.reduceEq, Int.reduceToNat, Tryz.f19, r_within]
  repeat' ((first | refine split_cond (fun hc => ?_) (fun hc => ?_) | refine split_yes (fun hc => ?_) (fun hc => ?_) | refine split_no (fun hc => ?_) (fun hc => ?_)) <;> simp -implicitDefEqProofs only [hc, ↓reduceIte, go_sem, Nat.reduceAdd, Nat.reduceSub, Nat.reduceMul, Nat.reduceBEq, Nat.reduceLeDiff, Nat.reduceLT, Nat.reduceEqDiff, reduceCtorEq, Int.reduceBEq, Int.reduceBNe, Int.reduceLT, Int.reduceLE, Int.reduceAdd, Int.reduceSub, Int.reduceMul, Int.reduceNeg, Int.reduceEq, Int.reduceToNat, r_within])
  all_goals simp_all [canS]
theorem c_shown (v : Val) (h : v.k = 4 → 0 ≤ v.n ∧ v.n ≤ 253402300799) : R K (.call 66 [V v.k v.n v.s] []) = some (.str (shownS v), []) := by
  by_cases h3 : v.k = 3
  · have e : shownS v = v.s := if_pos h3
    rw [e]
    rw [call_66]
    simp -implicitDefEqProofs only [↓reduceIte, go_sem, Nat.reduceAdd, Nat.reduceSub, Nat.reduceMul, Nat.reduceBEq, Nat.reduceLeDiff, Nat.reduceLT, Nat.reduceEqDiff, reduceCtorEq, Int.reduceBEq, Int.reduceBNe, Int.reduceLT, Int.reduceLE, Int.reduceAdd, Int.reduceSub, Int.reduceMul, Int.reduceNeg, Int.reduceEq, Int.reduceToNat, Tryz.f66, h3]
    repeat' ((first | refine split_cond (fun hc => ?_) (fun hc => ?_) | refine split_yes (fun hc => ?_) (fun hc => ?_) | refine split_no (fun hc => ?_) (fun hc => ?_)) <;> simp -implicitDefEqProofs only [hc, ↓reduceIte, go_sem, Nat.reduceAdd, Nat.reduceSub, Nat.reduceMul, Nat.reduceBEq, Nat.reduceLeDiff, Nat.reduceLT, Nat.reduceEqDiff, reduceCtorEq, Int.reduceBEq, Int.reduceBNe, Int.reduceLT, Int.reduceLE, Int.reduceAdd, Int.reduceSub, Int.reduceMul, Int.reduceNeg, Int.reduceEq, Int.reduceToNat, h3])
  · by_cases h4 : v.k = 4
    · have e : shownS v = dtextS v.n := by unfold shownS; rw [if_neg h3, if_pos h4]
      have hd := c_dateText v.n (h h4).1 (h h4).2
      rw [e]
      rw [call_66]
      simp -implicitDefEqProofs only [↓reduceIte, go_sem, Nat.reduceAdd, Nat.reduceSub, Nat.reduceMul, Nat.reduceBEq, Nat.reduceLeDiff, Nat.reduceLT, Nat.reduceEqDiff, reduceCtorEq, Int.reduceBEq, Int.reduceBNe, Int.reduceLT, Int.reduceLE, Int.reduceAdd, Int.reduceSub, Int.reduceMul, Int.reduceNeg, Int.reduceEq, Int.reduceToNat, Tryz.f66, h4, hd]
      repeat' ((first | refine split_cond (fun hc => ?_) (fun hc => ?_) | refine split_yes (fun hc => ?_) (fun hc => ?_) | refine split_no (fun hc => ?_) (fun hc => ?_)) <;> simp -implicitDefEqProofs only [hc, ↓reduceIte, go_sem, Nat.reduceAdd, Nat.reduceSub, Nat.reduceMul, Nat.reduceBEq, Nat.reduceLeDiff, Nat.reduceLT, Nat.reduceEqDiff, reduceCtorEq, Int.reduceBEq, Int.reduceBNe, Int.reduceLT, Int.reduceLE, Int.reduceAdd, Int.reduceSub, Int.reduceMul, Int.reduceNeg, Int.reduceEq, Int.reduceToNat, h4, hd])
    · have e : shownS v = showS v := by unfold shownS; rw [if_neg h3, if_neg h4]
      have b3 : (v.k == 3) = false := by simpa using h3
      have b4 : (v.k == 4) = false := by simpa using h4
      have hs := c_Show v.k v.n v.s
      rw [Val.eta] at hs
      rw [e]
      rw [call_66]
      simp -implicitDefEqProofs only [↓reduceIte, go_sem, Nat.reduceAdd, Nat.reduceSub, Nat.reduceMul, Nat.reduceBEq, Nat.reduceLeDiff, Nat.reduceLT, Nat.reduceEqDiff, reduceCtorEq, Int.reduceBEq, Int.reduceBNe, Int.reduceLT, Int.reduceLE, Int.reduceAdd, Int.reduceSub, Int.reduceMul, Int.reduceNeg, Int.reduceEq, Int.reduceToNat, Tryz.f66, b3, b4, hs]
      repeat' ((first | refine split_cond (fun hc => ?_) (fun hc => ?_) | refine split_yes (fun hc => ?_) (fun hc => ?_) | refine split_no (fun hc => ?_) (fun hc => ?_)) <;> simp -implicitDefEqProofs only [hc, ↓reduceIte, go_sem, Nat.reduceAdd, Nat.reduceSub, Nat.reduceMul, Nat.reduceBEq, Nat.reduceLeDiff, Nat.reduceLT, Nat.reduceEqDiff, reduceCtorEq, Int.reduceBEq, Int.reduceBNe, Int.reduceLT, Int.reduceLE, Int.reduceAdd, Int.reduceSub, Int.reduceMul, Int.reduceNeg, Int.reduceEq, Int.reduceToNat, b3, b4, hs])
theorem c_fromText (s : List UInt8) (kind : Int) (hs : s.length ≤ 10000000) : R K (.call 67 [.str s, I kind] []) = some (enc (fromS s kind), []) := by
  have h1 := c_candidate s hs
  have h2 := c_dateRead s
  have key : ∀ (v : Val) (b : Bool), b = (kind == 4) → (if kind = 4 then dreadS s else candS s) = v → (b = true → dreadS s = v) → (b = false → candS s = v) → R K (.call 67 [.str s, I kind] []) = some (enc (fromS s kind), []) := by
    intro v b hb hv hd hc
    have hr := c_right v.k v.n v.s
    rw [Val.eta] at hr
    have fin : fromS s kind = if rightS v = true ∧ v.k = kind ∧ shownS v = s then v else null := by unfold fromS; rw [hv]
    rw [fin]
    cases hrv : rightS v with
    | false =>
      rw [hrv] at hr
      rw [if_neg (by simp)]
      cases b with
      | true =>
        rw [hd rfl] at h2
        rw [call_67]
        simp -implicitDefEqProofs only [↓reduceIte, go_sem, Nat.reduceAdd, Nat.reduceSub, Nat.reduceMul, Nat.reduceBEq, Nat.reduceLeDiff, Nat.reduceLT, Nat.reduceEqDiff, reduceCtorEq, Int.reduceBEq, Int.reduceBNe, Int.reduceLT, Int.reduceLE, Int.reduceAdd, Int.reduceSub, Int.reduceMul, Int.reduceNeg, Int.reduceEq, Int.reduceToNat, Tryz.f67, bne, h1, ← hb, h2, hr]
        repeat' ((first | refine split_cond (fun hc => ?_) (fun hc => ?_) | refine split_yes (fun hc => ?_) (fun hc => ?_) | refine split_no (fun hc => ?_) (fun hc => ?_)) <;> simp -implicitDefEqProofs only [hc, ↓reduceIte, go_sem, Nat.reduceAdd, Nat.reduceSub, Nat.reduceMul, Nat.reduceBEq, Nat.reduceLeDiff, Nat.reduceLT, Nat.reduceEqDiff, reduceCtorEq, Int.reduceBEq, Int.reduceBNe, Int.reduceLT, Int.reduceLE, Int.reduceAdd, Int.reduceSub, Int.reduceMul, Int.reduceNeg, Int.reduceEq, Int.reduceToNat, bne, h1, ← hb, h2, hr])
        all_goals rfl
      | false =>
        rw [hc rfl] at h1
        rw [call_67]
        simp -implicitDefEqProofs only [↓reduceIte, go_sem, Nat.reduceAdd, Nat.reduceSub, Nat.reduceMul, Nat.reduceBEq, Nat.reduceLeDiff, Nat.reduceLT, Nat.reduceEqDiff, reduceCtorEq, Int.reduceBEq, Int.reduceBNe, Int.reduceLT, Int.reduceLE, Int.reduceAdd, Int.reduceSub, Int.reduceMul, Int.reduceNeg, Int.reduceEq, Int.reduceToNat, Tryz.f67, bne, h1, ← hb, hr]
        repeat' ((first | refine split_cond (fun hc => ?_) (fun hc => ?_) | refine split_yes (fun hc => ?_) (fun hc => ?_) | refine split_no (fun hc => ?_) (fun hc => ?_)) <;> simp -implicitDefEqProofs only [hc, ↓reduceIte, go_sem, Nat.reduceAdd, Nat.reduceSub, Nat.reduceMul, Nat.reduceBEq, Nat.reduceLeDiff, Nat.reduceLT, Nat.reduceEqDiff, reduceCtorEq, Int.reduceBEq, Int.reduceBNe, Int.reduceLT, Int.reduceLE, Int.reduceAdd, Int.reduceSub, Int.reduceMul, Int.reduceNeg, Int.reduceEq, Int.reduceToNat, bne, h1, ← hb, hr])
        all_goals rfl
    | true =>
      rw [hrv] at hr
      have hm : v.k = 4 → 0 ≤ v.n ∧ v.n ≤ 253402300799 := fun h => right_moment h hrv
      have hsh := c_shown v hm
      by_cases hk : v.k = kind
      · have bk : (v.k == kind) = true := by simp [hk]
        by_cases hq : shownS v = s
        · have bq : (shownS v == s) = true := by simp [hq]
          rw [if_pos ⟨rfl, hk, hq⟩]
          cases b with
          | true =>
            rw [hd rfl] at h2
            rw [call_67]
            simp -implicitDefEqProofs only [↓reduceIte, go_sem, Nat.reduceAdd, Nat.reduceSub, Nat.reduceMul, Nat.reduceBEq, Nat.reduceLeDiff, Nat.reduceLT, Nat.reduceEqDiff, reduceCtorEq, Int.reduceBEq, Int.reduceBNe, Int.reduceLT, Int.reduceLE, Int.reduceAdd, Int.reduceSub, Int.reduceMul, Int.reduceNeg, Int.reduceEq, Int.reduceToNat, Tryz.f67, bne, h1, ← hb, h2, hr, bk, hsh, bq]
            repeat' ((first | refine split_cond (fun hc => ?_) (fun hc => ?_) | refine split_yes (fun hc => ?_) (fun hc => ?_) | refine split_no (fun hc => ?_) (fun hc => ?_)) <;> simp -implicitDefEqProofs only [hc, ↓reduceIte, go_sem, Nat.reduceAdd, Nat.reduceSub, Nat.reduceMul, Nat.reduceBEq, Nat.reduceLeDiff, Nat.reduceLT, Nat.reduceEqDiff, reduceCtorEq, Int.reduceBEq, Int.reduceBNe, Int.reduceLT, Int.reduceLE, Int.reduceAdd, Int.reduceSub, Int.reduceMul, Int.reduceNeg, Int.reduceEq, Int.reduceToNat, bne, h1, ← hb, h2, hr, bk, hsh, bq])
          | false =>
            rw [hc rfl] at h1
            rw [call_67]
            simp -implicitDefEqProofs only [↓reduceIte, go_sem, Nat.reduceAdd, Nat.reduceSub, Nat.reduceMul, Nat.reduceBEq, Nat.reduceLeDiff, Nat.reduceLT, Nat.reduceEqDiff, reduceCtorEq, Int.reduceBEq, Int.reduceBNe, Int.reduceLT, Int.reduceLE, Int.reduceAdd, Int.reduceSub, Int.reduceMul, Int.reduceNeg, Int.reduceEq, Int.reduceToNat, Tryz.f67, bne, h1, ← hb, hr, bk, hsh, bq]
            repeat' ((first | refine split_cond (fun hc => ?_) (fun hc => ?_) | refine split_yes (fun hc => ?_) (fun hc => ?_) | refine split_no (fun hc => ?_) (fun hc => ?_)) <;> simp -implicitDefEqProofs only [hc, ↓reduceIte, go_sem, Nat.reduceAdd, Nat.reduceSub, Nat.reduceMul, Nat.reduceBEq, Nat.reduceLeDiff, Nat.reduceLT, Nat.reduceEqDiff, reduceCtorEq, Int.reduceBEq, Int.reduceBNe, Int.reduceLT, Int.reduceLE, Int.reduceAdd, Int.reduceSub, Int.reduceMul, Int.reduceNeg, Int.reduceEq, Int.reduceToNat, bne, h1, ← hb, hr, bk, hsh, bq])
        · have bq : (shownS v == s) = false := by simpa using hq
          rw [if_neg (fun h => hq h.2.2)]
          cases b with
          | true =>
            rw [hd rfl] at h2
            rw [call_67]
            simp -implicitDefEqProofs only [↓reduceIte, go_sem, Nat.reduceAdd, Nat.reduceSub, Nat.reduceMul, Nat.reduceBEq, Nat.reduceLeDiff, Nat.reduceLT, Nat.reduceEqDiff, reduceCtorEq, Int.reduceBEq, Int.reduceBNe, Int.reduceLT, Int.reduceLE, Int.reduceAdd, Int.reduceSub, Int.reduceMul, Int.reduceNeg, Int.reduceEq, Int.reduceToNat, Tryz.f67, bne, h1, ← hb, h2, hr, bk, hsh, bq]
            repeat' ((first | refine split_cond (fun hc => ?_) (fun hc => ?_) | refine split_yes (fun hc => ?_) (fun hc => ?_) | refine split_no (fun hc => ?_) (fun hc => ?_)) <;> simp -implicitDefEqProofs only [hc, ↓reduceIte, go_sem, Nat.reduceAdd, Nat.reduceSub, Nat.reduceMul, Nat.reduceBEq, Nat.reduceLeDiff, Nat.reduceLT, Nat.reduceEqDiff, reduceCtorEq, Int.reduceBEq, Int.reduceBNe, Int.reduceLT, Int.reduceLE, Int.reduceAdd, Int.reduceSub, Int.reduceMul, Int.reduceNeg, Int.reduceEq, Int.reduceToNat, bne, h1, ← hb, h2, hr, bk, hsh, bq])
            all_goals rfl
          | false =>
            rw [hc rfl] at h1
            rw [call_67]
            simp -implicitDefEqProofs only [↓reduceIte, go_sem, Nat.reduceAdd, Nat.reduceSub, Nat.reduceMul, Nat.reduceBEq, Nat.reduceLeDiff, Nat.reduceLT, Nat.reduceEqDiff, reduceCtorEq, Int.reduceBEq, Int.reduceBNe, Int.reduceLT, Int.reduceLE, Int.reduceAdd, Int.reduceSub, Int.reduceMul, Int.reduceNeg, Int.reduceEq, Int.reduceToNat, Tryz.f67, bne, h1, ← hb, hr, bk, hsh, bq]
            repeat' ((first | refine split_cond (fun hc => ?_) (fun hc => ?_) | refine split_yes (fun hc => ?_) (fun hc => ?_) | refine split_no (fun hc => ?_) (fun hc => ?_)) <;> simp -implicitDefEqProofs only [hc, ↓reduceIte, go_sem, Nat.reduceAdd, Nat.reduceSub, Nat.reduceMul, Nat.reduceBEq, Nat.reduceLeDiff, Nat.reduceLT, Nat.reduceEqDiff, reduceCtorEq, Int.reduceBEq, Int.reduceBNe, Int.reduceLT, Int.reduceLE, Int.reduceAdd, Int.reduceSub, Int.reduceMul, Int.reduceNeg, Int.reduceEq, Int.reduceToNat, bne, h1, ← hb, hr, bk, hsh, bq])
            all_goals rfl
      · have bk : (v.k == kind) = false := by simpa using hk
        rw [if_neg (fun h => hk h.2.1)]
        cases b with
        | true =>
          rw [hd rfl] at h2
          rw [call_67]
          simp -implicitDefEqProofs only [↓reduceIte, go_sem, Nat.reduceAdd, Nat.reduceSub, Nat.reduceMul, Nat.reduceBEq, Nat.reduceLeDiff, Nat.reduceLT, Nat.reduceEqDiff, reduceCtorEq, Int.reduceBEq, Int.reduceBNe, Int.reduceLT, Int.reduceLE, Int.reduceAdd, Int.reduceSub, Int.reduceMul, Int.reduceNeg, Int.reduceEq, Int.reduceToNat, Tryz.f67, bne, h1, ← hb, h2, hr, bk]
          repeat' ((first | refine split_cond (fun hc => ?_) (fun hc => ?_) | refine split_yes (fun hc => ?_) (fun hc => ?_) | refine split_no (fun hc => ?_) (fun hc => ?_)) <;> simp -implicitDefEqProofs only [hc, ↓reduceIte, go_sem, Nat.reduceAdd, Nat.reduceSub, Nat.reduceMul, Nat.reduceBEq, Nat.reduceLeDiff, Nat.reduceLT, Nat.reduceEqDiff, reduceCtorEq, Int.reduceBEq, Int.reduceBNe, Int.reduceLT, Int.reduceLE, Int.reduceAdd, Int.reduceSub, Int.reduceMul, Int.reduceNeg, Int.reduceEq, Int.reduceToNat, bne, h1, ← hb, h2, hr, bk])
          all_goals rfl
        | false =>
          rw [hc rfl] at h1
          rw [call_67]
          simp -implicitDefEqProofs only [↓reduceIte, go_sem, Nat.reduceAdd, Nat.reduceSub, Nat.reduceMul, Nat.reduceBEq, Nat.reduceLeDiff, Nat.reduceLT, Nat.reduceEqDiff, reduceCtorEq, Int.reduceBEq, Int.reduceBNe, Int.reduceLT, Int.reduceLE, Int.reduceAdd, Int.reduceSub, Int.reduceMul, Int.reduceNeg, Int.reduceEq, Int.reduceToNat, Tryz.f67, bne, h1, ← hb, hr, bk]
          repeat' ((first | refine split_cond (fun hc => ?_) (fun hc => ?_) | refine split_yes (fun hc => ?_) (fun hc => ?_) | refine split_no (fun hc => ?_) (fun hc => ?_)) <;> simp -implicitDefEqProofs only [hc, ↓reduceIte, go_sem, Nat.reduceAdd, Nat.reduceSub, Nat.reduceMul, Nat.reduceBEq, Nat.reduceLeDiff, Nat.reduceLT, Nat.reduceEqDiff, reduceCtorEq, Int.reduceBEq, Int.reduceBNe, Int.reduceLT, Int.reduceLE, Int.reduceAdd, Int.reduceSub, Int.reduceMul, Int.reduceNeg, Int.reduceEq, Int.reduceToNat, bne, h1, ← hb, hr, bk])
          all_goals rfl
  by_cases hk : kind = 4
  · exact key _ true (by simp [hk]) (if_pos hk) (fun _ => rfl) (fun h => by simp at h)
  · exact key _ false (by simp [hk]) (if_neg hk) (fun h => by simp at h) (fun _ => rfl)
theorem c_Cast (k n : Int) (s : List UInt8) (kind : Int) : R K (.call 16 [V k n s, I kind] []) = some (enc (castS ⟨k, n, s⟩ kind), []) := by
  have hp := c_plain k n s
  generalize hv : (⟨k, n, s⟩ : Val) = a
  rw [hv] at hp
  have hpr := plain_right a
  unfold castS
  by_cases h0 : (plainV a).k = 0
  · rw [if_pos (.inl h0)]
    have b0 : ((plainV a).k == 0) = true := by simp [h0]
    rw [call_16]
    simp -implicitDefEqProofs only [↓reduceIte, go_sem, Nat.reduceAdd, Nat.reduceSub, Nat.reduceMul, Nat.reduceBEq, Nat.reduceLeDiff, Nat.reduceLT, Nat.reduceEqDiff, reduceCtorEq, Int.reduceBEq, Int.reduceBNe, Int.reduceLT, Int.reduceLE, Int.reduceAdd, Int.reduceSub, Int.reduceMul, Int.reduceNeg, Int.reduceEq, Int.reduceToNat, Tryz.f16, hp, b0]
    repeat' ((first | refine split_cond (fun hc => ?_) (fun hc => ?_) | refine split_yes (fun hc => ?_) (fun hc => ?_) | refine split_no (fun hc => ?_) (fun hc => ?_)) <;> simp -implicitDefEqProofs only [hc, ↓reduceIte, go_sem, Nat.reduceAdd, Nat.reduceSub, Nat.reduceMul, Nat.reduceBEq, Nat.reduceLeDiff, Nat.reduceLT, Nat.reduceEqDiff, reduceCtorEq, Int.reduceBEq, Int.reduceBNe, Int.reduceLT, Int.reduceLE, Int.reduceAdd, Int.reduceSub, Int.reduceMul, Int.reduceNeg, Int.reduceEq, Int.reduceToNat, hp, b0])
    all_goals rfl
  have b0 : ((plainV a).k == 0) = false := by simpa using h0
  have hcan := c_Can (plainV a).k kind
  cases hc : canS (plainV a).k kind with
  | false =>
    rw [hc] at hcan
    rw [if_pos (.inr rfl)]
    rw [call_16]
    simp -implicitDefEqProofs only [↓reduceIte, go_sem, Nat.reduceAdd, Nat.reduceSub, Nat.reduceMul, Nat.reduceBEq, Nat.reduceLeDiff, Nat.reduceLT, Nat.reduceEqDiff, reduceCtorEq, Int.reduceBEq, Int.reduceBNe, Int.reduceLT, Int.reduceLE, Int.reduceAdd, Int.reduceSub, Int.reduceMul, Int.reduceNeg, Int.reduceEq, Int.reduceToNat, Tryz.f16, hp, b0, hcan]
    repeat' ((first | refine split_cond (fun hc => ?_) (fun hc => ?_) | refine split_yes (fun hc => ?_) (fun hc => ?_) | refine split_no (fun hc => ?_) (fun hc => ?_)) <;> simp -implicitDefEqProofs only [hc, ↓reduceIte, go_sem, Nat.reduceAdd, Nat.reduceSub, Nat.reduceMul, Nat.reduceBEq, Nat.reduceLeDiff, Nat.reduceLT, Nat.reduceEqDiff, reduceCtorEq, Int.reduceBEq, Int.reduceBNe, Int.reduceLT, Int.reduceLE, Int.reduceAdd, Int.reduceSub, Int.reduceMul, Int.reduceNeg, Int.reduceEq, Int.reduceToNat, hp, b0, hcan])
    all_goals rfl
  | true =>
    rw [hc] at hcan
    rw [if_neg (by simp [h0])]
    by_cases hk : (plainV a).k = kind
    · have bk : ((plainV a).k == kind) = true := by simp [hk]
      rw [if_pos hk]
      rw [call_16]
      simp -implicitDefEqProofs only [↓reduceIte, go_sem, Nat.reduceAdd, Nat.reduceSub, Nat.reduceMul, Nat.reduceBEq, Nat.reduceLeDiff, Nat.reduceLT, Nat.reduceEqDiff, reduceCtorEq, Int.reduceBEq, Int.reduceBNe, Int.reduceLT, Int.reduceLE, Int.reduceAdd, Int.reduceSub, Int.reduceMul, Int.reduceNeg, Int.reduceEq, Int.reduceToNat, Tryz.f16, hp, b0, hcan, bk]
      repeat' ((first | refine split_cond (fun hc => ?_) (fun hc => ?_) | refine split_yes (fun hc => ?_) (fun hc => ?_) | refine split_no (fun hc => ?_) (fun hc => ?_)) <;> simp -implicitDefEqProofs only [hc, ↓reduceIte, go_sem, Nat.reduceAdd, Nat.reduceSub, Nat.reduceMul, Nat.reduceBEq, Nat.reduceLeDiff, Nat.reduceLT, Nat.reduceEqDiff, reduceCtorEq, Int.reduceBEq, Int.reduceBNe, Int.reduceLT, Int.reduceLE, Int.reduceAdd, Int.reduceSub, Int.reduceMul, Int.reduceNeg, Int.reduceEq, Int.reduceToNat, hp, b0, hcan, bk])
    have bk : ((plainV a).k == kind) = false := by simpa using hk
    rw [if_neg hk]
    by_cases h3 : kind = 3
    · subst h3
      rw [if_pos rfl]
      have hsh := c_shown (plainV a) (fun h => right_moment h hpr)
      rw [call_16]
      simp -implicitDefEqProofs only [↓reduceIte, go_sem, Nat.reduceAdd, Nat.reduceSub, Nat.reduceMul, Nat.reduceBEq, Nat.reduceLeDiff, Nat.reduceLT, Nat.reduceEqDiff, reduceCtorEq, Int.reduceBEq, Int.reduceBNe, Int.reduceLT, Int.reduceLE, Int.reduceAdd, Int.reduceSub, Int.reduceMul, Int.reduceNeg, Int.reduceEq, Int.reduceToNat, Tryz.f16, hp, b0, hcan, bk, hsh, c_text]
      repeat' ((first | refine split_cond (fun hc => ?_) (fun hc => ?_) | refine split_yes (fun hc => ?_) (fun hc => ?_) | refine split_no (fun hc => ?_) (fun hc => ?_)) <;> simp -implicitDefEqProofs only [hc, ↓reduceIte, go_sem, Nat.reduceAdd, Nat.reduceSub, Nat.reduceMul, Nat.reduceBEq, Nat.reduceLeDiff, Nat.reduceLT, Nat.reduceEqDiff, reduceCtorEq, Int.reduceBEq, Int.reduceBNe, Int.reduceLT, Int.reduceLE, Int.reduceAdd, Int.reduceSub, Int.reduceMul, Int.reduceNeg, Int.reduceEq, Int.reduceToNat, hp, b0, hcan, bk, hsh, c_text])
    have b3 : (kind == 3) = false := by simpa using h3
    rw [if_neg h3]
    by_cases h4 : (plainV a).k = 3
    · rw [if_pos h4]
      have bt : ((plainV a).k == 3) = true := by simp [h4]
      have hf := c_fromText (plainV a).s kind (by have := (plain3 a h4).1; omega)
      rw [call_16]
      simp -implicitDefEqProofs only [↓reduceIte, go_sem, Nat.reduceAdd, Nat.reduceSub, Nat.reduceMul, Nat.reduceBEq, Nat.reduceLeDiff, Nat.reduceLT, Nat.reduceEqDiff, reduceCtorEq, Int.reduceBEq, Int.reduceBNe, Int.reduceLT, Int.reduceLE, Int.reduceAdd, Int.reduceSub, Int.reduceMul, Int.reduceNeg, Int.reduceEq, Int.reduceToNat, Tryz.f16, hp, b0, hcan, bk, b3, bt, hf]
      repeat' ((first | refine split_cond (fun hc => ?_) (fun hc => ?_) | refine split_yes (fun hc => ?_) (fun hc => ?_) | refine split_no (fun hc => ?_) (fun hc => ?_)) <;> simp -implicitDefEqProofs only [hc, ↓reduceIte, go_sem, Nat.reduceAdd, Nat.reduceSub, Nat.reduceMul, Nat.reduceBEq, Nat.reduceLeDiff, Nat.reduceLT, Nat.reduceEqDiff, reduceCtorEq, Int.reduceBEq, Int.reduceBNe, Int.reduceLT, Int.reduceLE, Int.reduceAdd, Int.reduceSub, Int.reduceMul, Int.reduceNeg, Int.reduceEq, Int.reduceToNat, hp, b0, hcan, bk, b3, bt, hf])
    have bt : ((plainV a).k == 3) = false := by simpa using h4
    rw [if_neg h4]
    by_cases h5 : kind = 1
    · subst h5
      rw [if_pos rfl]
      rw [call_16]
      simp -implicitDefEqProofs only [↓reduceIte, go_sem, Nat.reduceAdd, Nat.reduceSub, Nat.reduceMul, Nat.reduceBEq, Nat.reduceLeDiff, Nat.reduceLT, Nat.reduceEqDiff, reduceCtorEq, Int.reduceBEq, Int.reduceBNe, Int.reduceLT, Int.reduceLE, Int.reduceAdd, Int.reduceSub, Int.reduceMul, Int.reduceNeg, Int.reduceEq, Int.reduceToNat, Tryz.f16, hp, b0, hcan, bk, bt, c_boolean]
      repeat' ((first | refine split_cond (fun hc => ?_) (fun hc => ?_) | refine split_yes (fun hc => ?_) (fun hc => ?_) | refine split_no (fun hc => ?_) (fun hc => ?_)) <;> simp -implicitDefEqProofs only [hc, ↓reduceIte, go_sem, Nat.reduceAdd, Nat.reduceSub, Nat.reduceMul, Nat.reduceBEq, Nat.reduceLeDiff, Nat.reduceLT, Nat.reduceEqDiff, reduceCtorEq, Int.reduceBEq, Int.reduceBNe, Int.reduceLT, Int.reduceLE, Int.reduceAdd, Int.reduceSub, Int.reduceMul, Int.reduceNeg, Int.reduceEq, Int.reduceToNat, hp, b0, hcan, bk, bt, c_boolean])
      all_goals rfl
    have b5 : (kind == 1) = false := by simpa using h5
    rw [if_neg h5]
    rw [call_16]
    simp -implicitDefEqProofs only [↓reduceIte, go_sem, Nat.reduceAdd, Nat.reduceSub, Nat.reduceMul, Nat.reduceBEq, Nat.reduceLeDiff, Nat.reduceLT, Nat.reduceEqDiff, reduceCtorEq, Int.reduceBEq, Int.reduceBNe, Int.reduceLT, Int.reduceLE, Int.reduceAdd, Int.reduceSub, Int.reduceMul, Int.reduceNeg, Int.reduceEq, Int.reduceToNat, Tryz.f16, hp, b0, hcan, bk, b3, bt, b5, c_number]
    repeat' ((first | refine split_cond (fun hc => ?_) (fun hc => ?_) | refine split_yes (fun hc => ?_) (fun hc => ?_) | refine split_no (fun hc => ?_) (fun hc => ?_)) <;> simp -implicitDefEqProofs only [hc, ↓reduceIte, go_sem, Nat.reduceAdd, Nat.reduceSub, Nat.reduceMul, Nat.reduceBEq, Nat.reduceLeDiff, Nat.reduceLT, Nat.reduceEqDiff, reduceCtorEq, Int.reduceBEq, Int.reduceBNe, Int.reduceLT, Int.reduceLE, Int.reduceAdd, Int.reduceSub, Int.reduceMul, Int.reduceNeg, Int.reduceEq, Int.reduceToNat, hp, b0, hcan, bk, b3, bt, b5, c_number])
def Fresh (rows : List (List AV)) (r : AV × Heap) : Prop := r = (.lit rows, []) ∨ r = (.own 0 rows.length, [.rows 3 rows false])
theorem r_candidates (s : List UInt8) (hs : s.length ≤ 10000000) : ∃ r, R K (.call 56 [.str s] []) = some r ∧ Fresh ((candsS s).map rowV) r := by
  obtain ⟨w, b, hm, hb, hw⟩ := r_momentFrom (Lib.trimPrefix s [64])
  have ht := p_TrimPrefix s [64]
  have hd : (if (dreadS (Lib.trimPrefix s [64])).k = 4 then [dreadS (Lib.trimPrefix s [64])] else []) = if b = true then [w] else [] := by
    cases b with
    | true => rw [if_pos (by simpa using hb.symm), if_pos rfl, hw rfl]
    | false => rw [if_neg (by simpa using hb.symm), if_neg (by simp)]
  have key : ∀ (q : Bool), (q = true ↔ (1 < s.length ∧ s[0]? = some 39)) → ∀ (X : List Val), (match atoiN s with | some n => [numberS 2 n] | none => []) = X →
     ∃ r, R K (.call 56 [.str s] []) = some r ∧ Fresh (([null, boolV true, boolV false] ++ X ++ (if q = true then [textS (Lib.replaceAll (cut s 1 (s.length - 1)) [39, 39] [39])] else []) ++ (if b = true then [w] else [])).map rowV) r := by
    intro q hq X hX
    have g7 : (1 : Int).toNat = 1 := rfl
    have hr := p_Replace (List.take (s.length - 1 - 1) (List.drop 1 s)) [39, 39] [39] (by simp; omega) (by simp) (by simp; omega)
    have hwr : 1 < s.length → wrapI .i64 ((s.length : Int) - 1) = ((s.length - 1 : Nat) : Int) := fun h => by rw [wrap_id (by omega) (by omega)]; omega
    cases ha : atoiN s with
    | none =>
      rw [ha] at hX
      subst hX
      obtain ⟨z, a⟩ := p_Atoi_no s (by omega) ha
      by_cases h1 : 1 < s.length
      · have d1 : decide ((1 : Int) < (s.length : Int)) = true := by rw [decide_eq_true_eq]; omega
        obtain ⟨c, hc⟩ := some_at (l := s) (i := 0) (by omega)
        have c0 : at? s 0 = some c := byte_get hc
        by_cases h39 : c = 39
        · have c39 : (c == 39) = true := by simp [h39]
          have hw1 := hwr h1
          have g9 : ((1 : Int) ≤ (s.length : Int)) = True := eq_true (by omega)
          have g4 : ((0 : Int) ≤ ((s.length - 1 : Nat) : Int)) = True := eq_true (by omega)
          have g5 : (((s.length - 1 : Nat) : Int) ≤ (s.length : Int)) = True := eq_true (by omega)
          have g6 : ((1 : Int) ≤ ((s.length - 1 : Nat) : Int)) = True := eq_true (by omega)
          have hqt : q = true := hq.2 ⟨h1, by rw [hc, h39]⟩
          subst hqt
          cases b with
          | true =>
            refine ⟨_, ?_, .inr rfl⟩
            rw [call_56]
            simp -implicitDefEqProofs only [↓reduceIte, go_sem, Nat.reduceAdd, Nat.reduceSub, Nat.reduceMul, Nat.reduceBEq, Nat.reduceLeDiff, Nat.reduceLT, Nat.reduceEqDiff, reduceCtorEq, Int.reduceBEq, Int.reduceBNe, Int.reduceLT, Int.reduceLE, Int.reduceAdd, Int.reduceSub, Int.reduceMul, Int.reduceNeg, Int.reduceEq, Int.reduceToNat, Tryz.f56, small_room, a, d1, c0, u8_39, c39, hw1, g9, g4, g5, g6, g7, Int.toNat_natCast, hr, ht, hm, r_Truth, r_word]
            repeat' ((first | refine split_cond (fun hc => ?_) (fun hc => ?_) | refine split_yes (fun hc => ?_) (fun hc => ?_) | refine split_no (fun hc => ?_) (fun hc => ?_)) <;> simp -implicitDefEqProofs only [hc, ↓reduceIte, go_sem, Nat.reduceAdd, Nat.reduceSub, Nat.reduceMul, Nat.reduceBEq, Nat.reduceLeDiff, Nat.reduceLT, Nat.reduceEqDiff, reduceCtorEq, Int.reduceBEq, Int.reduceBNe, Int.reduceLT, Int.reduceLE, Int.reduceAdd, Int.reduceSub, Int.reduceMul, Int.reduceNeg, Int.reduceEq, Int.reduceToNat, small_room, a, d1, c0, u8_39, c39, hw1, g9, g4, g5, g6, g7, Int.toNat_natCast, hr, ht, hm, r_Truth, r_word])
            all_goals rfl
          | false =>
            refine ⟨_, ?_, .inr rfl⟩
            rw [call_56]
            simp -implicitDefEqProofs only [↓reduceIte, go_sem, Nat.reduceAdd, Nat.reduceSub, Nat.reduceMul, Nat.reduceBEq, Nat.reduceLeDiff, Nat.reduceLT, Nat.reduceEqDiff, reduceCtorEq, Int.reduceBEq, Int.reduceBNe, Int.reduceLT, Int.reduceLE, Int.reduceAdd, Int.reduceSub, Int.reduceMul, Int.reduceNeg, Int.reduceEq, Int.reduceToNat, Tryz.f56, small_room, a, d1, c0, u8_39, c39, hw1, g9, g4, g5, g6, g7, Int.toNat_natCast, hr, ht, hm, r_Truth, r_word]
            repeat' ((first | refine split_cond (fun hc => ?_) (fun hc => ?_) | refine split_yes (fun hc => ?_) (fun hc => ?_) | refine split_no (fun hc => ?_) (fun hc => ?_)) <;> simp -implicitDefEqProofs only [hc, ↓reduceIte, go_sem, Nat.reduceAdd, Nat.reduceSub, Nat.reduceMul, Nat.reduceBEq, Nat.reduceLeDiff, Nat.reduceLT, Nat.reduceEqDiff, reduceCtorEq, Int.reduceBEq, Int.reduceBNe, Int.reduceLT, Int.reduceLE, Int.reduceAdd, Int.reduceSub, Int.reduceMul, Int.reduceNeg, Int.reduceEq, Int.reduceToNat, small_room, a, d1, c0, u8_39, c39, hw1, g9, g4, g5, g6, g7, Int.toNat_natCast, hr, ht, hm, r_Truth, r_word])
            all_goals rfl
        · have c39 : (c == 39) = false := by simpa using h39
          have hqf : q = false := by rw [Bool.eq_false_iff]; intro e; have := (hq.1 e).2; rw [hc] at this; exact h39 (Option.some.inj this)
          subst hqf
          cases b with
          | true =>
            refine ⟨_, ?_, .inr rfl⟩
            rw [call_56]
            simp -implicitDefEqProofs only [↓reduceIte, go_sem, Nat.reduceAdd, Nat.reduceSub, Nat.reduceMul, Nat.reduceBEq, Nat.reduceLeDiff, Nat.reduceLT, Nat.reduceEqDiff, reduceCtorEq, Int.reduceBEq, Int.reduceBNe, Int.reduceLT, Int.reduceLE, Int.reduceAdd, Int.reduceSub, Int.reduceMul, Int.reduceNeg, Int.reduceEq, Int.reduceToNat, Tryz.f56, small_room, a, d1, c0, u8_39, c39, ht, hm, r_Truth, r_word]
            repeat' ((first | refine split_cond (fun hc => ?_) (fun hc => ?_) | refine split_yes (fun hc => ?_) (fun hc => ?_) | refine split_no (fun hc => ?_) (fun hc => ?_)) <;> simp -implicitDefEqProofs only [hc, ↓reduceIte, go_sem, Nat.reduceAdd, Nat.reduceSub, Nat.reduceMul, Nat.reduceBEq, Nat.reduceLeDiff, Nat.reduceLT, Nat.reduceEqDiff, reduceCtorEq, Int.reduceBEq, Int.reduceBNe, Int.reduceLT, Int.reduceLE, Int.reduceAdd, Int.reduceSub, Int.reduceMul, Int.reduceNeg, Int.reduceEq, Int.reduceToNat, small_room, a, d1, c0, u8_39, c39, ht, hm, r_Truth, r_word])
            all_goals rfl
          | false =>
            refine ⟨_, ?_, .inl rfl⟩
            rw [call_56]
            simp -implicitDefEqProofs only [↓reduceIte, go_sem, Nat.reduceAdd, Nat.reduceSub, Nat.reduceMul, Nat.reduceBEq, Nat.reduceLeDiff, Nat.reduceLT, Nat.reduceEqDiff, reduceCtorEq, Int.reduceBEq, Int.reduceBNe, Int.reduceLT, Int.reduceLE, Int.reduceAdd, Int.reduceSub, Int.reduceMul, Int.reduceNeg, Int.reduceEq, Int.reduceToNat, Tryz.f56, small_room, a, d1, c0, u8_39, c39, ht, hm, r_Truth, r_word]
            repeat' ((first | refine split_cond (fun hc => ?_) (fun hc => ?_) | refine split_yes (fun hc => ?_) (fun hc => ?_) | refine split_no (fun hc => ?_) (fun hc => ?_)) <;> simp -implicitDefEqProofs only [hc, ↓reduceIte, go_sem, Nat.reduceAdd, Nat.reduceSub, Nat.reduceMul, Nat.reduceBEq, Nat.reduceLeDiff, Nat.reduceLT, Nat.reduceEqDiff, reduceCtorEq, Int.reduceBEq, Int.reduceBNe, Int.reduceLT, Int.reduceLE, Int.reduceAdd, Int.reduceSub, Int.reduceMul, Int.reduceNeg, Int.reduceEq, Int.reduceToNat, small_room, a, d1, c0, u8_39, c39, ht, hm, r_Truth, r_word])
            all_goals rfl
      · have d1 : decide ((1 : Int) < (s.length : Int)) = false := by simp; omega
        have hqf : q = false := by rw [Bool.eq_false_iff]; intro e; exact h1 (hq.1 e).1
        subst hqf
        cases b with
        | true =>
          refine ⟨_, ?_, .inr rfl⟩
          rw [call_56]
          simp -implicitDefEqProofs only [↓reduceIte, go_sem, Nat.reduceAdd, Nat.reduceSub, Nat.reduceMul, Nat.reduceBEq, Nat.reduceLeDiff, Nat.reduceLT, Nat.reduceEqDiff, reduceCtorEq, Int.reduceBEq, Int.reduceBNe, Int.reduceLT, Int.reduceLE, Int.reduceAdd, Int.reduceSub, Int.reduceMul, Int.reduceNeg, Int.reduceEq, Int.reduceToNat, Tryz.f56, small_room, a, d1, ht, hm, r_Truth, r_word]
          repeat' ((first | refine split_cond (fun hc => ?_) (fun hc => ?_) | refine split_yes (fun hc => ?_) (fun hc => ?_) | refine split_no (fun hc => ?_) (fun hc => ?_)) <;> simp -implicitDefEqProofs only [hc, ↓reduceIte, go_sem, Nat.reduceAdd, Nat.reduceSub, Nat.reduceMul, Nat.reduceBEq, Nat.reduceLeDiff, Nat.reduceLT, Nat.reduceEqDiff, reduceCtorEq, Int.reduceBEq, Int.reduceBNe, Int.reduceLT, Int.reduceLE, Int.reduceAdd, Int.reduceSub, Int.reduceMul, Int.reduceNeg, Int.reduceEq, Int.reduceToNat, small_room, a, d1, ht, hm, r_Truth, r_word])
          all_goals rfl
        | false =>
          refine ⟨_, ?_, .inl rfl⟩
          rw [call_56]
          simp -implicitDefEqProofs only [↓reduceIte, go_sem, Nat.reduceAdd, Nat.reduceSub, Nat.reduceMul, Nat.reduceBEq, Nat.reduceLeDiff, Nat.reduceLT, Nat.reduceEqDiff, reduceCtorEq, Int.reduceBEq, Int.reduceBNe, Int.reduceLT, Int.reduceLE, Int.reduceAdd, Int.reduceSub, Int.reduceMul, Int.reduceNeg, Int.reduceEq, Int.reduceToNat, Tryz.f56, small_room, a, d1, ht, hm, r_Truth, r_word]
          repeat' ((first | refine split_cond (fun hc => ?_) (fun hc => ?_) | refine split_yes (fun hc => ?_) (fun hc => ?_) | refine split_no (fun hc => ?_) (fun hc => ?_)) <;> simp -implicitDefEqProofs only [hc, ↓reduceIte, go_sem, Nat.reduceAdd, Nat.reduceSub, Nat.reduceMul, Nat.reduceBEq, Nat.reduceLeDiff, Nat.reduceLT, Nat.reduceEqDiff, reduceCtorEq, Int.reduceBEq, Int.reduceBNe, Int.reduceLT, Int.reduceLE, Int.reduceAdd, Int.reduceSub, Int.reduceMul, Int.reduceNeg, Int.reduceEq, Int.reduceToNat, small_room, a, d1, ht, hm, r_Truth, r_word])
          all_goals rfl
    | some n =>
      rw [ha] at hX
      subst hX
      have a := p_Atoi_ok s n (by omega) ha
      by_cases h1 : 1 < s.length
      · have d1 : decide ((1 : Int) < (s.length : Int)) = true := by rw [decide_eq_true_eq]; omega
        obtain ⟨c, hc⟩ := some_at (l := s) (i := 0) (by omega)
        have c0 : at? s 0 = some c := byte_get hc
        by_cases h39 : c = 39
        · have c39 : (c == 39) = true := by simp [h39]
          have hw1 := hwr h1
          have g9 : ((1 : Int) ≤ (s.length : Int)) = True := eq_true (by omega)
          have g4 : ((0 : Int) ≤ ((s.length - 1 : Nat) : Int)) = True := eq_true (by omega)
          have g5 : (((s.length - 1 : Nat) : Int) ≤ (s.length : Int)) = True := eq_true (by omega)
          have g6 : ((1 : Int) ≤ ((s.length - 1 : Nat) : Int)) = True := eq_true (by omega)
          have hqt : q = true := hq.2 ⟨h1, by rw [hc, h39]⟩
          subst hqt
          cases b with
          | true =>
            refine ⟨_, ?_, .inr rfl⟩
            rw [call_56]
            simp -implicitDefEqProofs only [↓reduceIte, go_sem, Nat.reduceAdd, Nat.reduceSub, Nat.reduceMul, Nat.reduceBEq, Nat.reduceLeDiff, Nat.reduceLT, Nat.reduceEqDiff, reduceCtorEq, Int.reduceBEq, Int.reduceBNe, Int.reduceLT, Int.reduceLE, Int.reduceAdd, Int.reduceSub, Int.reduceMul, Int.reduceNeg, Int.reduceEq, Int.reduceToNat, Tryz.f56, small_room, a, d1, c0, u8_39, c39, hw1, g9, g4, g5, g6, g7, Int.toNat_natCast, hr, ht, hm, r_Truth, r_word, r_Number]
            repeat' ((first | refine split_cond (fun hc => ?_) (fun hc => ?_) | refine split_yes (fun hc => ?_) (fun hc => ?_) | refine split_no (fun hc => ?_) (fun hc => ?_)) <;> simp -implicitDefEqProofs only [hc, ↓reduceIte, go_sem, Nat.reduceAdd, Nat.reduceSub, Nat.reduceMul, Nat.reduceBEq, Nat.reduceLeDiff, Nat.reduceLT, Nat.reduceEqDiff, reduceCtorEq, Int.reduceBEq, Int.reduceBNe, Int.reduceLT, Int.reduceLE, Int.reduceAdd, Int.reduceSub, Int.reduceMul, Int.reduceNeg, Int.reduceEq, Int.reduceToNat, small_room, a, d1, c0, u8_39, c39, hw1, g9, g4, g5, g6, g7, Int.toNat_natCast, hr, ht, hm, r_Truth, r_word, r_Number])
            all_goals rfl
          | false =>
            refine ⟨_, ?_, .inr rfl⟩
            rw [call_56]
            simp -implicitDefEqProofs only [↓reduceIte, go_sem, Nat.reduceAdd, Nat.reduceSub, Nat.reduceMul, Nat.reduceBEq, Nat.reduceLeDiff, Nat.reduceLT, Nat.reduceEqDiff, reduceCtorEq, Int.reduceBEq, Int.reduceBNe, Int.reduceLT, Int.reduceLE, Int.reduceAdd, Int.reduceSub, Int.reduceMul, Int.reduceNeg, Int.reduceEq, Int.reduceToNat, Tryz.f56, small_room, a, d1, c0, u8_39, c39, hw1, g9, g4, g5, g6, g7, Int.toNat_natCast, hr, ht, hm, r_Truth, r_word, r_Number]
            repeat' ((first | refine split_cond (fun hc => ?_) (fun hc => ?_) | refine split_yes (fun hc => ?_) (fun hc => ?_) | refine split_no (fun hc => ?_) (fun hc => ?_)) <;> simp -implicitDefEqProofs only [hc, ↓reduceIte, go_sem, Nat.reduceAdd, Nat.reduceSub, Nat.reduceMul, Nat.reduceBEq, Nat.reduceLeDiff, Nat.reduceLT, Nat.reduceEqDiff, reduceCtorEq, Int.reduceBEq, Int.reduceBNe, Int.reduceLT, Int.reduceLE, Int.reduceAdd, Int.reduceSub, Int.reduceMul, Int.reduceNeg, Int.reduceEq, Int.reduceToNat, small_room, a, d1, c0, u8_39, c39, hw1, g9, g4, g5, g6, g7, Int.toNat_natCast, hr, ht, hm, r_Truth, r_word, r_Number])
            all_goals rfl
        · have c39 : (c == 39) = false := by simpa using h39
          have hqf : q = false := by rw [Bool.eq_false_iff]; intro e; have := (hq.1 e).2; rw [hc] at this; exact h39 (Option.some.inj this)
          subst hqf
          cases b with
          | true =>
            refine ⟨_, ?_, .inr rfl⟩
            rw [call_56]
            simp -implicitDefEqProofs only [↓reduceIte, go_sem, Nat.reduceAdd, Nat.reduceSub, Nat.reduceMul, Nat.reduceBEq, Nat.reduceLeDiff, Nat.reduceLT, Nat.reduceEqDiff, reduceCtorEq, Int.reduceBEq, Int.reduceBNe, Int.reduceLT, Int.reduceLE, Int.reduceAdd, Int.reduceSub, Int.reduceMul, Int.reduceNeg, Int.reduceEq, Int.reduceToNat, Tryz.f56, small_room, a, d1, c0, u8_39, c39, ht, hm, r_Truth, r_word, r_Number]
            repeat' ((first | refine split_cond (fun hc => ?_) (fun hc => ?_) | refine split_yes (fun hc => ?_) (fun hc => ?_) | refine split_no (fun hc => ?_) (fun hc => ?_)) <;> simp -implicitDefEqProofs only [hc, ↓reduceIte, go_sem, Nat.reduceAdd, Nat.reduceSub, Nat.reduceMul, Nat.reduceBEq, Nat.reduceLeDiff, Nat.reduceLT, Nat.reduceEqDiff, reduceCtorEq, Int.reduceBEq, Int.reduceBNe, Int.reduceLT, Int.reduceLE, Int.reduceAdd, Int.reduceSub, Int.reduceMul, Int.reduceNeg, Int.reduceEq, Int.reduceToNat, small_room, a, d1, c0, u8_39, c39, ht, hm, r_Truth, r_word, r_Number])
            all_goals rfl
          | false =>
            refine ⟨_, ?_, .inr rfl⟩
            rw [call_56]
            simp -implicitDefEqProofs only [↓reduceIte, go_sem, Nat.reduceAdd, Nat.reduceSub, Nat.reduceMul, Nat.reduceBEq, Nat.reduceLeDiff, Nat.reduceLT, Nat.reduceEqDiff, reduceCtorEq, Int.reduceBEq, Int.reduceBNe, Int.reduceLT, Int.reduceLE, Int.reduceAdd, Int.reduceSub, Int.reduceMul, Int.reduceNeg, Int.reduceEq, Int.reduceToNat, Tryz.f56, small_room, a, d1, c0, u8_39, c39, ht, hm, r_Truth, r_word, r_Number]
            repeat' ((first | refine split_cond (fun hc => ?_) (fun hc => ?_) | refine split_yes (fun hc => ?_) (fun hc => ?_) | refine split_no (fun hc => ?_) (fun hc => ?_)) <;> simp -implicitDefEqProofs only [hc, ↓reduceIte, go_sem, Nat.reduceAdd, Nat.reduceSub, Nat.reduceMul, Nat.reduceBEq, Nat.reduceLeDiff, Nat.reduceLT, Nat.reduceEqDiff, reduceCtorEq, Int.reduceBEq, Int.reduceBNe, Int.reduceLT, Int.reduceLE, Int.reduceAdd, Int.reduceSub, Int.reduceMul, Int.reduceNeg, Int.reduceEq, Int.reduceToNat, small_room, a, d1, c0, u8_39, c39, ht, hm, r_Truth, r_word, r_Number])
            all_goals rfl
      · have d1 : decide ((1 : Int) < (s.length : Int)) = false := by simp; omega
        have hqf : q = false := by rw [Bool.eq_false_iff]; intro e; exact h1 (hq.1 e).1
        subst hqf
        cases b with
        | true =>
          refine ⟨_, ?_, .inr rfl⟩
          rw [call_56]
          simp -implicitDefEqProofs only [↓reduceIte, go_sem, Nat.reduceAdd, Nat.reduceSub, Nat.reduceMul, Nat.reduceBEq, Nat.reduceLeDiff, Nat.reduceLT, Nat.reduceEqDiff, reduceCtorEq, Int.reduceBEq, Int.reduceBNe, Int.reduceLT, Int.reduceLE, Int.reduceAdd, Int.reduceSub, Int.reduceMul, Int.reduceNeg, Int.reduceEq, Int.reduceToNat, Tryz.f56, small_room, a, d1, ht, hm, r_Truth, r_word, r_Number]
          repeat' ((first | refine split_cond (fun hc => ?_) (fun hc => ?_) | refine split_yes (fun hc => ?_) (fun hc => ?_) | refine split_no (fun hc => ?_) (fun hc => ?_)) <;> simp -implicitDefEqProofs only [hc, ↓reduceIte, go_sem, Nat.reduceAdd, Nat.reduceSub, Nat.reduceMul, Nat.reduceBEq, Nat.reduceLeDiff, Nat.reduceLT, Nat.reduceEqDiff, reduceCtorEq, Int.reduceBEq, Int.reduceBNe, Int.reduceLT, Int.reduceLE, Int.reduceAdd, Int.reduceSub, Int.reduceMul, Int.reduceNeg, Int.reduceEq, Int.reduceToNat, small_room, a, d1, ht, hm, r_Truth, r_word, r_Number])
          all_goals rfl
        | false =>
          refine ⟨_, ?_, .inr rfl⟩
          rw [call_56]
          simp -implicitDefEqProofs only [↓reduceIte, go_sem, Nat.reduceAdd, Nat.reduceSub, Nat.reduceMul, Nat.reduceBEq, Nat.reduceLeDiff, Nat.reduceLT, Nat.reduceEqDiff, reduceCtorEq, Int.reduceBEq, Int.reduceBNe, Int.reduceLT, Int.reduceLE, Int.reduceAdd, Int.reduceSub, Int.reduceMul, Int.reduceNeg, Int.reduceEq, Int.reduceToNat, Tryz.f56, small_room, a, d1, ht, hm, r_Truth, r_word, r_Number]
          repeat' ((first | refine split_cond (fun hc => ?_) (fun hc => ?_) | refine split_yes (fun hc => ?_) (fun hc => ?_) | refine split_no (fun hc => ?_) (fun hc => ?_)) <;> simp -implicitDefEqProofs only [hc, ↓reduceIte, go_sem, Nat.reduceAdd, Nat.reduceSub, Nat.reduceMul, Nat.reduceBEq, Nat.reduceLeDiff, Nat.reduceLT, Nat.reduceEqDiff, reduceCtorEq, Int.reduceBEq, Int.reduceBNe, Int.reduceLT, Int.reduceLE, Int.reduceAdd, Int.reduceSub, Int.reduceMul, Int.reduceNeg, Int.reduceEq, Int.reduceToNat, small_room, a, d1, ht, hm, r_Truth, r_word, r_Number])
          all_goals rfl
  have e : candsS s = [null, boolV true, boolV false] ++ (match atoiN s with | some n => [numberS 2 n] | none => []) ++ (if decide (1 < s.length ∧ s[0]? = some 39) = true then [textS (Lib.replaceAll (cut s 1 (s.length - 1)) [39, 39] [39])] else []) ++ (if b = true then [w] else []) := by
    unfold candsS
    rw [hd]
    simp only [decide_eq_true_eq]
    cases atoiN s <;> rfl
  rw [e]
  exact key _ (by rw [decide_eq_true_eq]) _ rfl
theorem opt_len {α : Type} (p : Prop) [Decidable p] (x : α) : (if p then [x] else []).length ≤ 1 := by split <;> simp
theorem cands_len (s : List UInt8) : (candsS s).length ≤ 6 := by
  unfold candsS
  simp only [List.length_append, List.length_cons, List.length_nil]
  have h2 := opt_len (1 < s.length ∧ s[0]? = some 39) (textS (Lib.replaceAll (cut s 1 (s.length - 1)) [39, 39] [39]))
  have h3 := opt_len ((dreadS (Lib.trimPrefix s [64])).k = 4) (dreadS (Lib.trimPrefix s [64]))
  cases atoiN s with
  | none => simp only [List.length_nil]; omega
  | some n => simp only [List.length_cons, List.length_nil]; omega
theorem r_castText (v : Val) : R K (.call 70 [V v.k v.n v.s] []) = some (enc (castTextS v), []) := by
  have hsh := r_Shown v.k v.n v.s
  rw [Val.eta] at hsh
  by_cases h : v.k = 3
  · have e : castTextS v = v := if_pos h
    rw [e]
    rw [call_70]
    simp -implicitDefEqProofs only [↓reduceIte, go_sem, Nat.reduceAdd, Nat.reduceSub, Nat.reduceMul, Nat.reduceBEq, Nat.reduceLeDiff, Nat.reduceLT, Nat.reduceEqDiff, reduceCtorEq, Int.reduceBEq, Int.reduceBNe, Int.reduceLT, Int.reduceLE, Int.reduceAdd, Int.reduceSub, Int.reduceMul, Int.reduceNeg, Int.reduceEq, Int.reduceToNat, Tryz.f70, h]
    repeat' ((first | refine split_cond (fun hc => ?_) (fun hc => ?_) | refine split_yes (fun hc => ?_) (fun hc => ?_) | refine split_no (fun hc => ?_) (fun hc => ?_)) <;> simp -implicitDefEqProofs only [hc, ↓reduceIte, go_sem, Nat.reduceAdd, Nat.reduceSub, Nat.reduceMul, Nat.reduceBEq, Nat.reduceLeDiff, Nat.reduceLT, Nat.reduceEqDiff, reduceCtorEq, Int.reduceBEq, Int.reduceBNe, Int.reduceLT, Int.reduceLE, Int.reduceAdd, Int.reduceSub, Int.reduceMul, Int.reduceNeg, Int.reduceEq, Int.reduceToNat, h])
  · have e : castTextS v = textS (Lib.trimPrefix (showS v) [64]) := if_neg h
    have b3 : (v.k == 3) = false := by simpa using h
    rw [e]
    rw [call_70]
    simp -implicitDefEqProofs only [↓reduceIte, go_sem, Nat.reduceAdd, Nat.reduceSub, Nat.reduceMul, Nat.reduceBEq, Nat.reduceLeDiff, Nat.reduceLT, Nat.reduceEqDiff, reduceCtorEq, Int.reduceBEq, Int.reduceBNe, Int.reduceLT, Int.reduceLE, Int.reduceAdd, Int.reduceSub, Int.reduceMul, Int.reduceNeg, Int.reduceEq, Int.reduceToNat, Tryz.f70, b3, hsh, p_TrimPrefix, r_word]
    repeat' ((first | refine split_cond (fun hc => ?_) (fun hc => ?_) | refine split_yes (fun hc => ?_) (fun hc => ?_) | refine split_no (fun hc => ?_) (fun hc => ?_)) <;> simp -implicitDefEqProofs only [hc, ↓reduceIte, go_sem, Nat.reduceAdd, Nat.reduceSub, Nat.reduceMul, Nat.reduceBEq, Nat.reduceLeDiff, Nat.reduceLT, Nat.reduceEqDiff, reduceCtorEq, Int.reduceBEq, Int.reduceBNe, Int.reduceLT, Int.reduceLE, Int.reduceAdd, Int.reduceSub, Int.reduceMul, Int.reduceNeg, Int.reduceEq, Int.reduceToNat, b3, hsh, p_TrimPrefix, r_word])
theorem eq_val (u v : Val) : ((u.k == v.k) && ((u.n == v.n) && (u.s == v.s))) = decide (u = v) := by
  rw [Bool.eq_iff_iff]
  simp only [Bool.and_eq_true, beq_iff_eq, decide_eq_true_eq]
  constructor
  · rintro ⟨h1, h2, h3⟩; cases u; cases v; simp_all
  · rintro rfl; exact ⟨rfl, rfl, rfl⟩
theorem l_Casted (w : Val) (kind : Int) (rows more : List Val) (hl : rows.length ≤ 1000) (A : Nat) (H : Heap) (b : Nat)
   (hX : (A = 2 ∧ H = [.cells [I w.k, I w.n, .str w.s], .cells [I 0, I 0, .str []], .rows 3 (rows.map rowV) false] ∧ b = 3) ∨ (A = 3 ∧ H = [.cells [I w.k, I w.n, .str w.s], .cells [I 0, I 0, .str []], .rows 3 (more.map rowV) false, .rows 3 (rows.map rowV) false] ∧ b = 4) ∨ (A = 2 ∧ H = [.cells [I w.k, I w.n, .str w.s], .cells [I 0, I 0, .str []], .rows 3 (rows.map rowV) false, .rows 3 (more.map rowV) false] ∧ b = 4)) (ks : List It) : ∀ (m i : Nat) (j : Int) (B : Code), Loop Tryz.f17 1 B → j = (i : Int) → rows.length = i + m →
   RL K (.run 17 0 (.code B :: .lp B (some ([1, 2, 4, 43, 44, 45], [])) b :: .blk 1 b :: ks) [(1, I kind), (2, .ptr 0 0), (4, .ptr 1 0), (43, .own A rows.length), (44, I (rows.length : Int)), (45, I j)] H) =
   match (rows.drop i).find? (fitS w kind) with
   | some v => some (enc v, [])
   | none => R K (.run 17 0 ks [(4, .ptr 1 0)] (H.take b))
  | 0, i, j, B, hB, hj, hm => by
    subst hj
    have h1 : decide ((i : Int) < (rows.length : Int)) = false := by simp; omega
    rw [List.drop_of_length_le (by omega)]
    rcases hX with ⟨rfl, rfl, rfl⟩ | ⟨rfl, rfl, rfl⟩ | ⟨rfl, rfl, rfl⟩
    · unfold Loop at hB
      simp -implicitDefEqProofs only [↓reduceIte, go_sem, Nat.reduceAdd, Nat.reduceSub, Nat.reduceMul, Nat.reduceBEq, Nat.reduceLeDiff, Nat.reduceLT, Nat.reduceEqDiff, reduceCtorEq, Int.reduceBEq, Int.reduceBNe, Int.reduceLT, Int.reduceLE, Int.reduceAdd, Int.reduceSub, Int.reduceMul, Int.reduceNeg, Int.reduceEq, Int.reduceToNat, Tryz.f17, loopOf] at hB
      subst hB
      rw [RL_eq]
      simp -implicitDefEqProofs only [↓reduceIte, go_sem, Nat.reduceAdd, Nat.reduceSub, Nat.reduceMul, Nat.reduceBEq, Nat.reduceLeDiff, Nat.reduceLT, Nat.reduceEqDiff, reduceCtorEq, Int.reduceBEq, Int.reduceBNe, Int.reduceLT, Int.reduceLE, Int.reduceAdd, Int.reduceSub, Int.reduceMul, Int.reduceNeg, Int.reduceEq, Int.reduceToNat, h1]
      repeat' ((first | refine split_cond (fun hc => ?_) (fun hc => ?_) | refine split_yes (fun hc => ?_) (fun hc => ?_) | refine split_no (fun hc => ?_) (fun hc => ?_)) <;> simp -implicitDefEqProofs only [hc, ↓reduceIte, go_sem, Nat.reduceAdd, Nat.reduceSub, Nat.reduceMul, Nat.reduceBEq, Nat.reduceLeDiff, Nat.reduceLT, Nat.reduceEqDiff, reduceCtorEq, Int.reduceBEq, Int.reduceBNe, Int.reduceLT, Int.reduceLE, Int.reduceAdd, Int.reduceSub, Int.reduceMul, Int.reduceNeg, Int.reduceEq, Int.reduceToNat, h1])
      rfl
    · unfold Loop at hB
      simp -implicitDefEqProofs only [↓reduceIte, go_sem, Nat.reduceAdd, Nat.reduceSub, Nat.reduceMul, Nat.reduceBEq, Nat.reduceLeDiff, Nat.reduceLT, Nat.reduceEqDiff, reduceCtorEq, Int.reduceBEq, Int.reduceBNe, Int.reduceLT, Int.reduceLE, Int.reduceAdd, Int.reduceSub, Int.reduceMul, Int.reduceNeg, Int.reduceEq, Int.reduceToNat, Tryz.f17, loopOf] at hB
      subst hB
      rw [RL_eq]
      simp -implicitDefEqProofs only [↓reduceIte, go_sem, Nat.reduceAdd, Nat.reduceSub, Nat.reduceMul, Nat.reduceBEq, Nat.reduceLeDiff, Nat.reduceLT, Nat.reduceEqDiff, reduceCtorEq, Int.reduceBEq, Int.reduceBNe, Int.reduceLT, Int.reduceLE, Int.reduceAdd, Int.reduceSub, Int.reduceMul, Int.reduceNeg, Int.reduceEq, Int.reduceToNat, h1]
      repeat' ((first | refine split_cond (fun hc => ?_) (fun hc => ?_) | refine split_yes (fun hc => ?_) (fun hc => ?_) | refine split_no (fun hc => ?_) (fun hc => ?_)) <;> simp -implicitDefEqProofs only [hc, ↓reduceIte, go_sem, Nat.reduceAdd, Nat.reduceSub, Nat.reduceMul, Nat.reduceBEq, Nat.reduceLeDiff, Nat.reduceLT, Nat.reduceEqDiff, reduceCtorEq, Int.reduceBEq, Int.reduceBNe, Int.reduceLT, Int.reduceLE, Int.reduceAdd, Int.reduceSub, Int.reduceMul, Int.reduceNeg, Int.reduceEq, Int.reduceToNat, h1])
      rfl
    · unfold Loop at hB
      simp -implicitDefEqProofs only [↓reduceIte, go_sem, Nat.reduceAdd, Nat.reduceSub, Nat.reduceMul, Nat.reduceBEq, Nat.reduceLeDiff, Nat.reduceLT, Nat.reduceEqDiff, reduceCtorEq, Int.reduceBEq, Int.reduceBNe, Int.reduceLT, Int.reduceLE, Int.reduceAdd, Int.reduceSub, Int.reduceMul, Int.reduceNeg, Int.reduceEq, Int.reduceToNat, Tryz.f17, loopOf] at hB
      subst hB
      rw [RL_eq]
      simp -implicitDefEqProofs only [↓reduceIte, go_sem, Nat.reduceAdd, Nat.reduceSub, Nat.reduceMul, Nat.reduceBEq, Nat.reduceLeDiff, Nat.reduceLT, Nat.reduceEqDiff, reduceCtorEq, Int.reduceBEq, Int.reduceBNe, Int.reduceLT, Int.reduceLE, Int.reduceAdd, Int.reduceSub, Int.reduceMul, Int.reduceNeg, Int.reduceEq, Int.reduceToNat, h1]
      repeat' ((first | refine split_cond (fun hc => ?_) (fun hc => ?_) | refine split_yes (fun hc => ?_) (fun hc => ?_) | refine split_no (fun hc => ?_) (fun hc => ?_)) <;> simp -implicitDefEqProofs only [hc, ↓reduceIte, go_sem, Nat.reduceAdd, Nat.reduceSub, Nat.reduceMul, Nat.reduceBEq, Nat.reduceLeDiff, Nat.reduceLT, Nat.reduceEqDiff, reduceCtorEq, Int.reduceBEq, Int.reduceBNe, Int.reduceLT, Int.reduceLE, Int.reduceAdd, Int.reduceSub, Int.reduceMul, Int.reduceNeg, Int.reduceEq, Int.reduceToNat, h1])
      rfl
  | m + 1, i, j, B, hB, hj, hm => by
    subst hj
    have hB' := hB
    have h1 : decide ((i : Int) < (rows.length : Int)) = true := by rw [decide_eq_true_eq]; omega
    obtain ⟨v, hv⟩ := some_at (l := rows) (i := i) (by omega)
    have hg := row_get hv
    have hg2 : (rows.map rowV)[i]? = some (rowV v) := by simp [hv]
    have hw := next_id (i := i) (n := rows.length) (by omega) (by omega)
    have hsh := r_castText v
    rw [drop_get hv]
    have ih := l_Casted w kind rows more hl A H b hX ks m (i + 1) _ B hB' rfl (by omega)
    have hfit : fitS w kind v = ((v.k == kind) && (((castTextS v).k == w.k) && (((castTextS v).n == w.n) && ((castTextS v).s == w.s)))) := by unfold fitS; rw [eq_val]
    cases hk : v.k == kind with
    | false =>
      have hq : fitS w kind v = false := by rw [hfit, hk]; rfl
      rcases hX with ⟨rfl, rfl, rfl⟩ | ⟨rfl, rfl, rfl⟩ | ⟨rfl, rfl, rfl⟩
      · unfold Loop at hB
        simp -implicitDefEqProofs only [↓reduceIte, go_sem, Nat.reduceAdd, Nat.reduceSub, Nat.reduceMul, Nat.reduceBEq, Nat.reduceLeDiff, Nat.reduceLT, Nat.reduceEqDiff, reduceCtorEq, Int.reduceBEq, Int.reduceBNe, Int.reduceLT, Int.reduceLE, Int.reduceAdd, Int.reduceSub, Int.reduceMul, Int.reduceNeg, Int.reduceEq, Int.reduceToNat, Tryz.f17, loopOf] at hB
        subst hB
        rw [RL_eq]
        simp -implicitDefEqProofs only [↓reduceIte, go_sem, Nat.reduceAdd, Nat.reduceSub, Nat.reduceMul, Nat.reduceBEq, Nat.reduceLeDiff, Nat.reduceLT, Nat.reduceEqDiff, reduceCtorEq, Int.reduceBEq, Int.reduceBNe, Int.reduceLT, Int.reduceLE, Int.reduceAdd, Int.reduceSub, Int.reduceMul, Int.reduceNeg, Int.reduceEq, Int.reduceToNat, h1, hg, hg2, rowV, hk, hw, Int.toNat_natCast, List.length_map, bne]
        repeat' ((first | refine split_cond (fun hc => ?_) (fun hc => ?_) | refine split_yes (fun hc => ?_) (fun hc => ?_) | refine split_no (fun hc => ?_) (fun hc => ?_)) <;> simp -implicitDefEqProofs only [hc, ↓reduceIte, go_sem, Nat.reduceAdd, Nat.reduceSub, Nat.reduceMul, Nat.reduceBEq, Nat.reduceLeDiff, Nat.reduceLT, Nat.reduceEqDiff, reduceCtorEq, Int.reduceBEq, Int.reduceBNe, Int.reduceLT, Int.reduceLE, Int.reduceAdd, Int.reduceSub, Int.reduceMul, Int.reduceNeg, Int.reduceEq, Int.reduceToNat, h1, hg, hg2, rowV, hk, hw, Int.toNat_natCast, List.length_map, bne])
        rw [ih]
        simp only [List.find?_cons, hq]
        cases List.find? (fitS w kind) (List.drop (i + 1) rows) <;> rfl
      · unfold Loop at hB
        simp -implicitDefEqProofs only [↓reduceIte, go_sem, Nat.reduceAdd, Nat.reduceSub, Nat.reduceMul, Nat.reduceBEq, Nat.reduceLeDiff, Nat.reduceLT, Nat.reduceEqDiff, reduceCtorEq, Int.reduceBEq, Int.reduceBNe, Int.reduceLT, Int.reduceLE, Int.reduceAdd, Int.reduceSub, Int.reduceMul, Int.reduceNeg, Int.reduceEq, Int.reduceToNat, Tryz.f17, loopOf] at hB
        subst hB
        rw [RL_eq]
        simp -implicitDefEqProofs only [↓reduceIte, go_sem, Nat.reduceAdd, Nat.reduceSub, Nat.reduceMul, Nat.reduceBEq, Nat.reduceLeDiff, Nat.reduceLT, Nat.reduceEqDiff, reduceCtorEq, Int.reduceBEq, Int.reduceBNe, Int.reduceLT, Int.reduceLE, Int.reduceAdd, Int.reduceSub, Int.reduceMul, Int.reduceNeg, Int.reduceEq, Int.reduceToNat, h1, hg, hg2, rowV, hk, hw, Int.toNat_natCast, List.length_map, bne]
        repeat' ((first | refine split_cond (fun hc => ?_) (fun hc => ?_) | refine split_yes (fun hc => ?_) (fun hc => ?_) | refine split_no (fun hc => ?_) (fun hc => ?_)) <;> simp -implicitDefEqProofs only [hc, ↓reduceIte, go_sem, Nat.reduceAdd, Nat.reduceSub, Nat.reduceMul, Nat.reduceBEq, Nat.reduceLeDiff, Nat.reduceLT, Nat.reduceEqDiff, reduceCtorEq, Int.reduceBEq, Int.reduceBNe, Int.reduceLT, Int.reduceLE, Int.reduceAdd, Int.reduceSub, Int.reduceMul, Int.reduceNeg, Int.reduceEq, Int.reduceToNat, h1, hg, hg2, rowV, hk, hw, Int.toNat_natCast, List.length_map, bne])
        rw [ih]
        simp only [List.find?_cons, hq]
        cases List.find? (fitS w kind) (List.drop (i + 1) rows) <;> rfl
      · unfold Loop at hB
        simp -implicitDefEqProofs only [↓reduceIte, go_sem, Nat.reduceAdd, Nat.reduceSub, Nat.reduceMul, Nat.reduceBEq, Nat.reduceLeDiff, Nat.reduceLT, Nat.reduceEqDiff, reduceCtorEq, Int.reduceBEq, Int.reduceBNe, Int.reduceLT, Int.reduceLE, Int.reduceAdd, Int.reduceSub, Int.reduceMul, Int.reduceNeg, Int.reduceEq, Int.reduceToNat, Tryz.f17, loopOf] at hB
        subst hB
        rw [RL_eq]
        simp -implicitDefEqProofs only [↓reduceIte, go_sem, Nat.reduceAdd, Nat.reduceSub, Nat.reduceMul, Nat.reduceBEq, Nat.reduceLeDiff, Nat.reduceLT, Nat.reduceEqDiff, reduceCtorEq, Int.reduceBEq, Int.reduceBNe, Int.reduceLT, Int.reduceLE, Int.reduceAdd, Int.reduceSub, Int.reduceMul, Int.reduceNeg, Int.reduceEq, Int.reduceToNat, h1, hg, hg2, rowV, hk, hw, Int.toNat_natCast, List.length_map, bne]
        repeat' ((first | refine split_cond (fun hc => ?_) (fun hc => ?_) | refine split_yes (fun hc => ?_) (fun hc => ?_) | refine split_no (fun hc => ?_) (fun hc => ?_)) <;> simp -implicitDefEqProofs only [hc, ↓reduceIte, go_sem, Nat.reduceAdd, Nat.reduceSub, Nat.reduceMul, Nat.reduceBEq, Nat.reduceLeDiff, Nat.reduceLT, Nat.reduceEqDiff, reduceCtorEq, Int.reduceBEq, Int.reduceBNe, Int.reduceLT, Int.reduceLE, Int.reduceAdd, Int.reduceSub, Int.reduceMul, Int.reduceNeg, Int.reduceEq, Int.reduceToNat, h1, hg, hg2, rowV, hk, hw, Int.toNat_natCast, List.length_map, bne])
        rw [ih]
        simp only [List.find?_cons, hq]
        cases List.find? (fitS w kind) (List.drop (i + 1) rows) <;> rfl
    | true =>
      cases hq2 : ((castTextS v).k == w.k) && (((castTextS v).n == w.n) && ((castTextS v).s == w.s)) with
      | true =>
        have hq : fitS w kind v = true := by rw [hfit, hk, hq2]; rfl
        simp only [Bool.and_eq_true] at hq2
        obtain ⟨q1, q2, q3⟩ := hq2
        rcases hX with ⟨rfl, rfl, rfl⟩ | ⟨rfl, rfl, rfl⟩ | ⟨rfl, rfl, rfl⟩
        · unfold Loop at hB
          simp -implicitDefEqProofs only [↓reduceIte, go_sem, Nat.reduceAdd, Nat.reduceSub, Nat.reduceMul, Nat.reduceBEq, Nat.reduceLeDiff, Nat.reduceLT, Nat.reduceEqDiff, reduceCtorEq, Int.reduceBEq, Int.reduceBNe, Int.reduceLT, Int.reduceLE, Int.reduceAdd, Int.reduceSub, Int.reduceMul, Int.reduceNeg, Int.reduceEq, Int.reduceToNat, Tryz.f17, loopOf] at hB
          subst hB
          rw [RL_eq]
          simp -implicitDefEqProofs only [↓reduceIte, go_sem, Nat.reduceAdd, Nat.reduceSub, Nat.reduceMul, Nat.reduceBEq, Nat.reduceLeDiff, Nat.reduceLT, Nat.reduceEqDiff, reduceCtorEq, Int.reduceBEq, Int.reduceBNe, Int.reduceLT, Int.reduceLE, Int.reduceAdd, Int.reduceSub, Int.reduceMul, Int.reduceNeg, Int.reduceEq, Int.reduceToNat, h1, hg, hg2, rowV, hk, hsh, q1, q2, q3, Int.toNat_natCast, List.length_map, bne]
          repeat' ((first | refine split_cond (fun hc => ?_) (fun hc => ?_) | refine split_yes (fun hc => ?_) (fun hc => ?_) | refine split_no (fun hc => ?_) (fun hc => ?_)) <;> simp -implicitDefEqProofs only [hc, ↓reduceIte, go_sem, Nat.reduceAdd, Nat.reduceSub, Nat.reduceMul, Nat.reduceBEq, Nat.reduceLeDiff, Nat.reduceLT, Nat.reduceEqDiff, reduceCtorEq, Int.reduceBEq, Int.reduceBNe, Int.reduceLT, Int.reduceLE, Int.reduceAdd, Int.reduceSub, Int.reduceMul, Int.reduceNeg, Int.reduceEq, Int.reduceToNat, h1, hg, hg2, rowV, hk, hsh, q1, q2, q3, Int.toNat_natCast, List.length_map, bne])
          simp only [List.find?_cons, hq]
          all_goals rfl
        · unfold Loop at hB
          simp -implicitDefEqProofs only [↓reduceIte, go_sem, Nat.reduceAdd, Nat.reduceSub, Nat.reduceMul, Nat.reduceBEq, Nat.reduceLeDiff, Nat.reduceLT, Nat.reduceEqDiff, reduceCtorEq, Int.reduceBEq, Int.reduceBNe, Int.reduceLT, Int.reduceLE, Int.reduceAdd, Int.reduceSub, Int.reduceMul, Int.reduceNeg, Int.reduceEq, Int.reduceToNat, Tryz.f17, loopOf] at hB
          subst hB
          rw [RL_eq]
          simp -implicitDefEqProofs only [↓reduceIte, go_sem, Nat.reduceAdd, Nat.reduceSub, Nat.reduceMul, Nat.reduceBEq, Nat.reduceLeDiff, Nat.reduceLT, Nat.reduceEqDiff, reduceCtorEq, Int.reduceBEq, Int.reduceBNe, Int.reduceLT, Int.reduceLE, Int.reduceAdd, Int.reduceSub, Int.reduceMul, Int.reduceNeg, Int.reduceEq, Int.reduceToNat, h1, hg, hg2, rowV, hk, hsh, q1, q2, q3, Int.toNat_natCast, List.length_map, bne]
          repeat' ((first | refine split_cond (fun hc => ?_) (fun hc => ?_) | refine split_yes (fun hc => ?_) (fun hc => ?_) | refine split_no (fun hc => ?_) (fun hc => ?_)) <;> simp -implicitDefEqProofs only [hc, ↓reduceIte, go_sem, Nat.reduceAdd, Nat.reduceSub, Nat.reduceMul, Nat.reduceBEq, Nat.reduceLeDiff, Nat.reduceLT, Nat.reduceEqDiff, reduceCtorEq, Int.reduceBEq, Int.reduceBNe, Int.reduceLT, Int.reduceLE, Int.reduceAdd, Int.reduceSub, Int.reduceMul, Int.reduceNeg, Int.reduceEq, Int.reduceToNat, h1, hg, hg2, rowV, hk, hsh, q1, q2, q3, Int.toNat_natCast, List.length_map, bne])
          simp only [List.find?_cons, hq]
          all_goals rfl
        · unfold Loop at hB
          simp -implicitDefEqProofs only [↓reduceIte, go_sem, Nat.reduceAdd, Nat.reduceSub, Nat.reduceMul, Nat.reduceBEq, Nat.reduceLeDiff, Nat.reduceLT, Nat.reduceEqDiff, reduceCtorEq, Int.reduceBEq, Int.reduceBNe, Int.reduceLT, Int.reduceLE, Int.reduceAdd, Int.reduceSub, Int.reduceMul, Int.reduceNeg, Int.reduceEq, Int.reduceToNat, Tryz.f17, loopOf] at hB
          subst hB
          rw [RL_eq]
          simp -implicitDefEqProofs only [↓reduceIte, go_sem, Nat.reduceAdd, Nat.reduceSub, Nat.reduceMul, Nat.reduceBEq, Nat.reduceLeDiff, Nat.reduceLT, Nat.reduceEqDiff, reduceCtorEq, Int.reduceBEq, Int.reduceBNe, Int.reduceLT, Int.reduceLE, Int.reduceAdd, Int.reduceSub, Int.reduceMul, Int.reduceNeg, Int.reduceEq, Int.reduceToNat, h1, hg, hg2, rowV, hk, hsh, q1, q2, q3, Int.toNat_natCast, List.length_map, bne]
          repeat' ((first | refine split_cond (fun hc => ?_) (fun hc => ?_) | refine split_yes (fun hc => ?_) (fun hc => ?_) | refine split_no (fun hc => ?_) (fun hc => ?_)) <;> simp -implicitDefEqProofs only [hc, ↓reduceIte, go_sem, Nat.reduceAdd, Nat.reduceSub, Nat.reduceMul, Nat.reduceBEq, Nat.reduceLeDiff, Nat.reduceLT, Nat.reduceEqDiff, reduceCtorEq, Int.reduceBEq, Int.reduceBNe, Int.reduceLT, Int.reduceLE, Int.reduceAdd, Int.reduceSub, Int.reduceMul, Int.reduceNeg, Int.reduceEq, Int.reduceToNat, h1, hg, hg2, rowV, hk, hsh, q1, q2, q3, Int.toNat_natCast, List.length_map, bne])
          simp only [List.find?_cons, hq]
          all_goals rfl
      | false =>
        have hq : fitS w kind v = false := by rw [hfit, hk, hq2]; rfl
        rcases hX with ⟨rfl, rfl, rfl⟩ | ⟨rfl, rfl, rfl⟩ | ⟨rfl, rfl, rfl⟩
        · unfold Loop at hB
          simp -implicitDefEqProofs only [↓reduceIte, go_sem, Nat.reduceAdd, Nat.reduceSub, Nat.reduceMul, Nat.reduceBEq, Nat.reduceLeDiff, Nat.reduceLT, Nat.reduceEqDiff, reduceCtorEq, Int.reduceBEq, Int.reduceBNe, Int.reduceLT, Int.reduceLE, Int.reduceAdd, Int.reduceSub, Int.reduceMul, Int.reduceNeg, Int.reduceEq, Int.reduceToNat, Tryz.f17, loopOf] at hB
          subst hB
          rw [RL_eq]
          simp -implicitDefEqProofs only [↓reduceIte, go_sem, Nat.reduceAdd, Nat.reduceSub, Nat.reduceMul, Nat.reduceBEq, Nat.reduceLeDiff, Nat.reduceLT, Nat.reduceEqDiff, reduceCtorEq, Int.reduceBEq, Int.reduceBNe, Int.reduceLT, Int.reduceLE, Int.reduceAdd, Int.reduceSub, Int.reduceMul, Int.reduceNeg, Int.reduceEq, Int.reduceToNat, h1, hg, hg2, rowV, hk, hsh, hq2, hw, Int.toNat_natCast, List.length_map, bne]
          repeat' ((first | refine split_cond (fun hc => ?_) (fun hc => ?_) | refine split_yes (fun hc => ?_) (fun hc => ?_) | refine split_no (fun hc => ?_) (fun hc => ?_)) <;> simp -implicitDefEqProofs only [hc, ↓reduceIte, go_sem, Nat.reduceAdd, Nat.reduceSub, Nat.reduceMul, Nat.reduceBEq, Nat.reduceLeDiff, Nat.reduceLT, Nat.reduceEqDiff, reduceCtorEq, Int.reduceBEq, Int.reduceBNe, Int.reduceLT, Int.reduceLE, Int.reduceAdd, Int.reduceSub, Int.reduceMul, Int.reduceNeg, Int.reduceEq, Int.reduceToNat, h1, hg, hg2, rowV, hk, hsh, hq2, hw, Int.toNat_natCast, List.length_map, bne])
          rw [ih]
          simp only [List.find?_cons, hq]
          cases List.find? (fitS w kind) (List.drop (i + 1) rows) <;> rfl
        · unfold Loop at hB
          simp -implicitDefEqProofs only [↓reduceIte, go_sem, Nat.reduceAdd, Nat.reduceSub, Nat.reduceMul, Nat.reduceBEq, Nat.reduceLeDiff, Nat.reduceLT, Nat.reduceEqDiff, reduceCtorEq, Int.reduceBEq, Int.reduceBNe, Int.reduceLT, Int.reduceLE, Int.reduceAdd, Int.reduceSub, Int.reduceMul, Int.reduceNeg, Int.reduceEq, Int.reduceToNat, Tryz.f17, loopOf] at hB
          subst hB
          rw [RL_eq]
          simp -implicitDefEqProofs only [↓reduceIte, go_sem, Nat.reduceAdd, Nat.reduceSub, Nat.reduceMul, Nat.reduceBEq, Nat.reduceLeDiff, Nat.reduceLT, Nat.reduceEqDiff, reduceCtorEq, Int.reduceBEq, Int.reduceBNe, Int.reduceLT, Int.reduceLE, Int.reduceAdd, Int.reduceSub, Int.reduceMul, Int.reduceNeg, Int.reduceEq, Int.reduceToNat, h1, hg, hg2, rowV, hk, hsh, hq2, hw, Int.toNat_natCast, List.length_map, bne]
          repeat' ((first | refine split_cond (fun hc => ?_) (fun hc => ?_) | refine split_yes (fun hc => ?_) (fun hc => ?_) | refine split_no (fun hc => ?_) (fun hc => ?_)) <;> simp -implicitDefEqProofs only [hc, ↓reduceIte, go_sem, Nat.reduceAdd, Nat.reduceSub, Nat.reduceMul, Nat.reduceBEq, Nat.reduceLeDiff, Nat.reduceLT, Nat.reduceEqDiff, reduceCtorEq, Int.reduceBEq, Int.reduceBNe, Int.reduceLT, Int.reduceLE, Int.reduceAdd, Int.reduceSub, Int.reduceMul, Int.reduceNeg, Int.reduceEq, Int.reduceToNat, h1, hg, hg2, rowV, hk, hsh, hq2, hw, Int.toNat_natCast, List.length_map, bne])
          rw [ih]
          simp only [List.find?_cons, hq]
          cases List.find? (fitS w kind) (List.drop (i + 1) rows) <;> rfl
        · unfold Loop at hB
          simp -implicitDefEqProofs only [↓reduceIte, go_sem, Nat.reduceAdd, Nat.reduceSub, Nat.reduceMul, Nat.reduceBEq, Nat.reduceLeDiff, Nat.reduceLT, Nat.reduceEqDiff, reduceCtorEq, Int.reduceBEq, Int.reduceBNe, Int.reduceLT, Int.reduceLE, Int.reduceAdd, Int.reduceSub, Int.reduceMul, Int.reduceNeg, Int.reduceEq, Int.reduceToNat, Tryz.f17, loopOf] at hB
          subst hB
          rw [RL_eq]
          simp -implicitDefEqProofs only [↓reduceIte, go_sem, Nat.reduceAdd, Nat.reduceSub, Nat.reduceMul, Nat.reduceBEq, Nat.reduceLeDiff, Nat.reduceLT, Nat.reduceEqDiff, reduceCtorEq, Int.reduceBEq, Int.reduceBNe, Int.reduceLT, Int.reduceLE, Int.reduceAdd, Int.reduceSub, Int.reduceMul, Int.reduceNeg, Int.reduceEq, Int.reduceToNat, h1, hg, hg2, rowV, hk, hsh, hq2, hw, Int.toNat_natCast, List.length_map, bne]
          repeat' ((first | refine split_cond (fun hc => ?_) (fun hc => ?_) | refine split_yes (fun hc => ?_) (fun hc => ?_) | refine split_no (fun hc => ?_) (fun hc => ?_)) <;> simp -implicitDefEqProofs only [hc, ↓reduceIte, go_sem, Nat.reduceAdd, Nat.reduceSub, Nat.reduceMul, Nat.reduceBEq, Nat.reduceLeDiff, Nat.reduceLT, Nat.reduceEqDiff, reduceCtorEq, Int.reduceBEq, Int.reduceBNe, Int.reduceLT, Int.reduceLE, Int.reduceAdd, Int.reduceSub, Int.reduceMul, Int.reduceNeg, Int.reduceEq, Int.reduceToNat, h1, hg, hg2, rowV, hk, hsh, hq2, hw, Int.toNat_natCast, List.length_map, bne])
          rw [ih]
          simp only [List.find?_cons, hq]
          cases List.find? (fitS w kind) (List.drop (i + 1) rows) <;> rfl
theorem allLen_map : ∀ l : List Val, allLen 3 (l.map rowV) = true
  | [] => rfl
  | v :: r => by simp only [List.map_cons, allLen, allLen_map r, rowV, List.length_cons, List.length_nil]; rfl
theorem r_Casted (k n : Int) (s : List UInt8) (kind : Int) : R K (.call 17 [V k n s, I kind] []) = some (enc (castedS ⟨k, n, s⟩ kind), []) := by
  have hp := r_right k n s
  generalize hv : (⟨k, n, s⟩ : Val) = a
  rw [hv] at hp
  have hpr := plain_right a
  unfold castedS
  by_cases h0 : (plainV a).k = 0
  · rw [if_pos (.inl h0)]
    have b0 : ((plainV a).k == 0) = true := by simp [h0]
    rw [call_17]
    simp -implicitDefEqProofs only [↓reduceIte, go_sem, Nat.reduceAdd, Nat.reduceSub, Nat.reduceMul, Nat.reduceBEq, Nat.reduceLeDiff, Nat.reduceLT, Nat.reduceEqDiff, reduceCtorEq, Int.reduceBEq, Int.reduceBNe, Int.reduceLT, Int.reduceLE, Int.reduceAdd, Int.reduceSub, Int.reduceMul, Int.reduceNeg, Int.reduceEq, Int.reduceToNat, Tryz.f17, hp, b0]
    repeat' ((first | refine split_cond (fun hc => ?_) (fun hc => ?_) | refine split_yes (fun hc => ?_) (fun hc => ?_) | refine split_no (fun hc => ?_) (fun hc => ?_)) <;> simp -implicitDefEqProofs only [hc, ↓reduceIte, go_sem, Nat.reduceAdd, Nat.reduceSub, Nat.reduceMul, Nat.reduceBEq, Nat.reduceLeDiff, Nat.reduceLT, Nat.reduceEqDiff, reduceCtorEq, Int.reduceBEq, Int.reduceBNe, Int.reduceLT, Int.reduceLE, Int.reduceAdd, Int.reduceSub, Int.reduceMul, Int.reduceNeg, Int.reduceEq, Int.reduceToNat, hp, b0])
    all_goals rfl
  have b0 : ((plainV a).k == 0) = false := by simpa using h0
  have hcan := r_CanCast (plainV a).k kind
  cases hc : canS (plainV a).k kind with
  | false =>
    rw [hc] at hcan
    rw [if_pos (.inr rfl)]
    rw [call_17]
    simp -implicitDefEqProofs only [↓reduceIte, go_sem, Nat.reduceAdd, Nat.reduceSub, Nat.reduceMul, Nat.reduceBEq, Nat.reduceLeDiff, Nat.reduceLT, Nat.reduceEqDiff, reduceCtorEq, Int.reduceBEq, Int.reduceBNe, Int.reduceLT, Int.reduceLE, Int.reduceAdd, Int.reduceSub, Int.reduceMul, Int.reduceNeg, Int.reduceEq, Int.reduceToNat, Tryz.f17, hp, b0, hcan]
    repeat' ((first | refine split_cond (fun hc => ?_) (fun hc => ?_) | refine split_yes (fun hc => ?_) (fun hc => ?_) | refine split_no (fun hc => ?_) (fun hc => ?_)) <;> simp -implicitDefEqProofs only [hc, ↓reduceIte, go_sem, Nat.reduceAdd, Nat.reduceSub, Nat.reduceMul, Nat.reduceBEq, Nat.reduceLeDiff, Nat.reduceLT, Nat.reduceEqDiff, reduceCtorEq, Int.reduceBEq, Int.reduceBNe, Int.reduceLT, Int.reduceLE, Int.reduceAdd, Int.reduceSub, Int.reduceMul, Int.reduceNeg, Int.reduceEq, Int.reduceToNat, hp, b0, hcan])
    all_goals rfl
  | true =>
    rw [hc] at hcan
    rw [if_neg (by simp [h0])]
    by_cases hk : (plainV a).k = kind
    · have bk : ((plainV a).k == kind) = true := by simp [hk]
      rw [if_pos hk]
      rw [call_17]
      simp -implicitDefEqProofs only [↓reduceIte, go_sem, Nat.reduceAdd, Nat.reduceSub, Nat.reduceMul, Nat.reduceBEq, Nat.reduceLeDiff, Nat.reduceLT, Nat.reduceEqDiff, reduceCtorEq, Int.reduceBEq, Int.reduceBNe, Int.reduceLT, Int.reduceLE, Int.reduceAdd, Int.reduceSub, Int.reduceMul, Int.reduceNeg, Int.reduceEq, Int.reduceToNat, Tryz.f17, hp, b0, hcan, bk]
      repeat' ((first | refine split_cond (fun hc => ?_) (fun hc => ?_) | refine split_yes (fun hc => ?_) (fun hc => ?_) | refine split_no (fun hc => ?_) (fun hc => ?_)) <;> simp -implicitDefEqProofs only [hc, ↓reduceIte, go_sem, Nat.reduceAdd, Nat.reduceSub, Nat.reduceMul, Nat.reduceBEq, Nat.reduceLeDiff, Nat.reduceLT, Nat.reduceEqDiff, reduceCtorEq, Int.reduceBEq, Int.reduceBNe, Int.reduceLT, Int.reduceLE, Int.reduceAdd, Int.reduceSub, Int.reduceMul, Int.reduceNeg, Int.reduceEq, Int.reduceToNat, hp, b0, hcan, bk])
      all_goals rfl
    have bk : ((plainV a).k == kind) = false := by simpa using hk
    rw [if_neg hk]
    by_cases h3 : kind = 3
    · subst h3
      rw [if_pos rfl]
      have hsh := r_castText (plainV a)
      rw [call_17]
      simp -implicitDefEqProofs only [↓reduceIte, go_sem, Nat.reduceAdd, Nat.reduceSub, Nat.reduceMul, Nat.reduceBEq, Nat.reduceLeDiff, Nat.reduceLT, Nat.reduceEqDiff, reduceCtorEq, Int.reduceBEq, Int.reduceBNe, Int.reduceLT, Int.reduceLE, Int.reduceAdd, Int.reduceSub, Int.reduceMul, Int.reduceNeg, Int.reduceEq, Int.reduceToNat, Tryz.f17, hp, b0, hcan, bk, hsh]
      repeat' ((first | refine split_cond (fun hc => ?_) (fun hc => ?_) | refine split_yes (fun hc => ?_) (fun hc => ?_) | refine split_no (fun hc => ?_) (fun hc => ?_)) <;> simp -implicitDefEqProofs only [hc, ↓reduceIte, go_sem, Nat.reduceAdd, Nat.reduceSub, Nat.reduceMul, Nat.reduceBEq, Nat.reduceLeDiff, Nat.reduceLT, Nat.reduceEqDiff, reduceCtorEq, Int.reduceBEq, Int.reduceBNe, Int.reduceLT, Int.reduceLE, Int.reduceAdd, Int.reduceSub, Int.reduceMul, Int.reduceNeg, Int.reduceEq, Int.reduceToNat, hp, b0, hcan, bk, hsh])
    have b3 : (kind == 3) = false := by simpa using h3
    rw [if_neg h3]
    by_cases h4 : (plainV a).k = 3
    · rw [if_pos h4]
      have bt : ((plainV a).k == 3) = true := by simp [h4]
      have hl3 := (plain3 a h4).1
      obtain ⟨r1, hr1, hf1⟩ := r_candidates (plainV a).s (by omega)
      obtain ⟨r2, hr2, hf2⟩ := r_candidates (64 :: (plainV a).s) (by simp; omega)
      have hl1 := cands_len (plainV a).s
      have hl2 := cands_len (64 :: (plainV a).s)
      have g1 : (1 + (plainV a).s.length ≤ strMax) = True := eq_true (by unfold strMax; omega)
      have hne : 3 ≤ (candsS (64 :: (plainV a).s)).length := by unfold candsS; simp only [List.length_append, List.length_cons, List.length_nil]; omega
      rw [show [64] ++ (plainV a).s = 64 :: (plainV a).s from rfl]
      generalize candsS (plainV a).s = c1 at hf1 hl1 ⊢
      generalize candsS (64 :: (plainV a).s) = c2 at hf2 hl2 hne ⊢
      have hm1 : (c1.map rowV).length = c1.length := List.length_map _
      have hm2 : (c2.map rowV).length = c2.length := List.length_map _
      have a1 : allLen 3 (c1.map rowV) = true := allLen_map c1
      have a2 : allLen 3 (c2.map rowV) = true := allLen_map c2
      have g2 : (0 < c2.length) = True := eq_true (by omega)
      have g3 : ∀ x : Nat, ((c1.length + c2.length) * (x + 1) ≤ roomMax) = ((c1.length + c2.length) * (x + 1) ≤ roomMax) := fun _ => rfl
      have g4 : ((c1.length + c2.length) * 33 ≤ roomMax) = True := eq_true (by unfold roomMax; omega)
      have e : (c1 ++ c2).map rowV = c1.map rowV ++ c2.map rowV := List.map_append
      have el : (c1 ++ c2).length = c1.length + c2.length := List.length_append
      have hn : ((c1.length : Int) + (c2.length : Int)) = (((c1 ++ c2).length : Nat) : Int) := by rw [el]; omega
      rcases hf1 with rfl | rfl <;> rcases hf2 with rfl | rfl
      · try simp only [hm1, hm2] at hr1 hr2
        rw [call_17]
        simp -implicitDefEqProofs only [↓reduceIte, go_sem, Nat.reduceAdd, Nat.reduceSub, Nat.reduceMul, Nat.reduceBEq, Nat.reduceLeDiff, Nat.reduceLT, Nat.reduceEqDiff, reduceCtorEq, Int.reduceBEq, Int.reduceBNe, Int.reduceLT, Int.reduceLE, Int.reduceAdd, Int.reduceSub, Int.reduceMul, Int.reduceNeg, Int.reduceEq, Int.reduceToNat, Tryz.f17, hp, b0, hcan, bk, b3, bt, hr1, hr2, g1, g2, g4, hm1, hm2, a1, a2]
        repeat' ((first | refine split_cond (fun hc => ?_) (fun hc => ?_) | refine split_yes (fun hc => ?_) (fun hc => ?_) | refine split_no (fun hc => ?_) (fun hc => ?_)) <;> simp -implicitDefEqProofs only [hc, ↓reduceIte, go_sem, Nat.reduceAdd, Nat.reduceSub, Nat.reduceMul, Nat.reduceBEq, Nat.reduceLeDiff, Nat.reduceLT, Nat.reduceEqDiff, reduceCtorEq, Int.reduceBEq, Int.reduceBNe, Int.reduceLT, Int.reduceLE, Int.reduceAdd, Int.reduceSub, Int.reduceMul, Int.reduceNeg, Int.reduceEq, Int.reduceToNat, hp, b0, hcan, bk, b3, bt, hr1, hr2, g1, g2, g4, hm1, hm2, a1, a2])
        rw [← el, l_Casted (plainV a) kind (c1 ++ c2) c2 (by omega) 2 _ 3 (.inl ⟨rfl, by rw [e], rfl⟩) _ (c1 ++ c2).length 0 0 _ ?_ rfl (by omega), List.drop_zero]
        · cases (c1 ++ c2).find? (fitS (plainV a) kind) with
          | some v => rfl
          | none =>
            simp only [List.take_succ_cons, List.take_zero, List.take_nil]
            simp -implicitDefEqProofs only [↓reduceIte, go_sem, Nat.reduceAdd, Nat.reduceSub, Nat.reduceMul, Nat.reduceBEq, Nat.reduceLeDiff, Nat.reduceLT, Nat.reduceEqDiff, reduceCtorEq, Int.reduceBEq, Int.reduceBNe, Int.reduceLT, Int.reduceLE, Int.reduceAdd, Int.reduceSub, Int.reduceMul, Int.reduceNeg, Int.reduceEq, Int.reduceToNat]
            repeat' ((first | refine split_cond (fun hc => ?_) (fun hc => ?_) | refine split_yes (fun hc => ?_) (fun hc => ?_) | refine split_no (fun hc => ?_) (fun hc => ?_)) <;> simp -implicitDefEqProofs only [hc, ↓reduceIte, go_sem, Nat.reduceAdd, Nat.reduceSub, Nat.reduceMul, Nat.reduceBEq, Nat.reduceLeDiff, Nat.reduceLT, Nat.reduceEqDiff, reduceCtorEq, Int.reduceBEq, Int.reduceBNe, Int.reduceLT, Int.reduceLE, Int.reduceAdd, Int.reduceSub, Int.reduceMul, Int.reduceNeg, Int.reduceEq, Int.reduceToNat])
            all_goals rfl
        · rfl
      · try simp only [hm1, hm2] at hr1 hr2
        rw [call_17]
        simp -implicitDefEqProofs only [↓reduceIte, go_sem, Nat.reduceAdd, Nat.reduceSub, Nat.reduceMul, Nat.reduceBEq, Nat.reduceLeDiff, Nat.reduceLT, Nat.reduceEqDiff, reduceCtorEq, Int.reduceBEq, Int.reduceBNe, Int.reduceLT, Int.reduceLE, Int.reduceAdd, Int.reduceSub, Int.reduceMul, Int.reduceNeg, Int.reduceEq, Int.reduceToNat, Tryz.f17, hp, b0, hcan, bk, b3, bt, hr1, hr2, g1, g2, g4, hm1, hm2, a1, a2]
        repeat' ((first | refine split_cond (fun hc => ?_) (fun hc => ?_) | refine split_yes (fun hc => ?_) (fun hc => ?_) | refine split_no (fun hc => ?_) (fun hc => ?_)) <;> simp -implicitDefEqProofs only [hc, ↓reduceIte, go_sem, Nat.reduceAdd, Nat.reduceSub, Nat.reduceMul, Nat.reduceBEq, Nat.reduceLeDiff, Nat.reduceLT, Nat.reduceEqDiff, reduceCtorEq, Int.reduceBEq, Int.reduceBNe, Int.reduceLT, Int.reduceLE, Int.reduceAdd, Int.reduceSub, Int.reduceMul, Int.reduceNeg, Int.reduceEq, Int.reduceToNat, hp, b0, hcan, bk, b3, bt, hr1, hr2, g1, g2, g4, hm1, hm2, a1, a2])
        rw [← el, l_Casted (plainV a) kind (c1 ++ c2) c2 (by omega) 3 _ 4 (.inr (.inl ⟨rfl, by rw [e], rfl⟩)) _ (c1 ++ c2).length 0 0 _ ?_ rfl (by omega), List.drop_zero]
        · cases (c1 ++ c2).find? (fitS (plainV a) kind) with
          | some v => rfl
          | none =>
            simp only [List.take_succ_cons, List.take_zero, List.take_nil]
            simp -implicitDefEqProofs only [↓reduceIte, go_sem, Nat.reduceAdd, Nat.reduceSub, Nat.reduceMul, Nat.reduceBEq, Nat.reduceLeDiff, Nat.reduceLT, Nat.reduceEqDiff, reduceCtorEq, Int.reduceBEq, Int.reduceBNe, Int.reduceLT, Int.reduceLE, Int.reduceAdd, Int.reduceSub, Int.reduceMul, Int.reduceNeg, Int.reduceEq, Int.reduceToNat]
            repeat' ((first | refine split_cond (fun hc => ?_) (fun hc => ?_) | refine split_yes (fun hc => ?_) (fun hc => ?_) | refine split_no (fun hc => ?_) (fun hc => ?_)) <;> simp -implicitDefEqProofs only [hc, ↓reduceIte, go_sem, Nat.reduceAdd, Nat.reduceSub, Nat.reduceMul, Nat.reduceBEq, Nat.reduceLeDiff, Nat.reduceLT, Nat.reduceEqDiff, reduceCtorEq, Int.reduceBEq, Int.reduceBNe, Int.reduceLT, Int.reduceLE, Int.reduceAdd, Int.reduceSub, Int.reduceMul, Int.reduceNeg, Int.reduceEq, Int.reduceToNat])
            all_goals rfl
        · rfl
      · try simp only [hm1, hm2] at hr1 hr2
        rw [call_17]
        simp -implicitDefEqProofs only [↓reduceIte, go_sem, Nat.reduceAdd, Nat.reduceSub, Nat.reduceMul, Nat.reduceBEq, Nat.reduceLeDiff, Nat.reduceLT, Nat.reduceEqDiff, reduceCtorEq, Int.reduceBEq, Int.reduceBNe, Int.reduceLT, Int.reduceLE, Int.reduceAdd, Int.reduceSub, Int.reduceMul, Int.reduceNeg, Int.reduceEq, Int.reduceToNat, Tryz.f17, hp, b0, hcan, bk, b3, bt, hr1, hr2, g1, g2, g4, hm1, hm2, a1, a2]
        repeat' ((first | refine split_cond (fun hc => ?_) (fun hc => ?_) | refine split_yes (fun hc => ?_) (fun hc => ?_) | refine split_no (fun hc => ?_) (fun hc => ?_)) <;> simp -implicitDefEqProofs only [hc, ↓reduceIte, go_sem, Nat.reduceAdd, Nat.reduceSub, Nat.reduceMul, Nat.reduceBEq, Nat.reduceLeDiff, Nat.reduceLT, Nat.reduceEqDiff, reduceCtorEq, Int.reduceBEq, Int.reduceBNe, Int.reduceLT, Int.reduceLE, Int.reduceAdd, Int.reduceSub, Int.reduceMul, Int.reduceNeg, Int.reduceEq, Int.reduceToNat, hp, b0, hcan, bk, b3, bt, hr1, hr2, g1, g2, g4, hm1, hm2, a1, a2])
        rw [← el, l_Casted (plainV a) kind (c1 ++ c2) c2 (by omega) 2 _ 3 (.inl ⟨rfl, by rw [e], rfl⟩) _ (c1 ++ c2).length 0 0 _ ?_ rfl (by omega), List.drop_zero]
        · cases (c1 ++ c2).find? (fitS (plainV a) kind) with
          | some v => rfl
          | none =>
            simp only [List.take_succ_cons, List.take_zero, List.take_nil]
            simp -implicitDefEqProofs only [↓reduceIte, go_sem, Nat.reduceAdd, Nat.reduceSub, Nat.reduceMul, Nat.reduceBEq, Nat.reduceLeDiff, Nat.reduceLT, Nat.reduceEqDiff, reduceCtorEq, Int.reduceBEq, Int.reduceBNe, Int.reduceLT, Int.reduceLE, Int.reduceAdd, Int.reduceSub, Int.reduceMul, Int.reduceNeg, Int.reduceEq, Int.reduceToNat]
            repeat' ((first | refine split_cond (fun hc => ?_) (fun hc => ?_) | refine split_yes (fun hc => ?_) (fun hc => ?_) | refine split_no (fun hc => ?_) (fun hc => ?_)) <;> simp -implicitDefEqProofs only [hc, ↓reduceIte, go_sem, Nat.reduceAdd, Nat.reduceSub, Nat.reduceMul, Nat.reduceBEq, Nat.reduceLeDiff, Nat.reduceLT, Nat.reduceEqDiff, reduceCtorEq, Int.reduceBEq, Int.reduceBNe, Int.reduceLT, Int.reduceLE, Int.reduceAdd, Int.reduceSub, Int.reduceMul, Int.reduceNeg, Int.reduceEq, Int.reduceToNat])
            all_goals rfl
        · rfl
      · try simp only [hm1, hm2] at hr1 hr2
        rw [call_17]
        simp -implicitDefEqProofs only [↓reduceIte, go_sem, Nat.reduceAdd, Nat.reduceSub, Nat.reduceMul, Nat.reduceBEq, Nat.reduceLeDiff, Nat.reduceLT, Nat.reduceEqDiff, reduceCtorEq, Int.reduceBEq, Int.reduceBNe, Int.reduceLT, Int.reduceLE, Int.reduceAdd, Int.reduceSub, Int.reduceMul, Int.reduceNeg, Int.reduceEq, Int.reduceToNat, Tryz.f17, hp, b0, hcan, bk, b3, bt, hr1, hr2, g1, g2, g4, hm1, hm2, a1, a2]
        repeat' ((first | refine split_cond (fun hc => ?_) (fun hc => ?_) | refine split_yes (fun hc => ?_) (fun hc => ?_) | refine split_no (fun hc => ?_) (fun hc => ?_)) <;> simp -implicitDefEqProofs only [hc, ↓reduceIte, go_sem, Nat.reduceAdd, Nat.reduceSub, Nat.reduceMul, Nat.reduceBEq, Nat.reduceLeDiff, Nat.reduceLT, Nat.reduceEqDiff, reduceCtorEq, Int.reduceBEq, Int.reduceBNe, Int.reduceLT, Int.reduceLE, Int.reduceAdd, Int.reduceSub, Int.reduceMul, Int.reduceNeg, Int.reduceEq, Int.reduceToNat, hp, b0, hcan, bk, b3, bt, hr1, hr2, g1, g2, g4, hm1, hm2, a1, a2])
        rw [← el, l_Casted (plainV a) kind (c1 ++ c2) c2 (by omega) 2 _ 4 (.inr (.inr ⟨rfl, by rw [e], rfl⟩)) _ (c1 ++ c2).length 0 0 _ ?_ rfl (by omega), List.drop_zero]
        · cases (c1 ++ c2).find? (fitS (plainV a) kind) with
          | some v => rfl
          | none =>
            simp only [List.take_succ_cons, List.take_zero, List.take_nil]
            simp -implicitDefEqProofs only [↓reduceIte, go_sem, Nat.reduceAdd, Nat.reduceSub, Nat.reduceMul, Nat.reduceBEq, Nat.reduceLeDiff, Nat.reduceLT, Nat.reduceEqDiff, reduceCtorEq, Int.reduceBEq, Int.reduceBNe, Int.reduceLT, Int.reduceLE, Int.reduceAdd, Int.reduceSub, Int.reduceMul, Int.reduceNeg, Int.reduceEq, Int.reduceToNat]
            repeat' ((first | refine split_cond (fun hc => ?_) (fun hc => ?_) | refine split_yes (fun hc => ?_) (fun hc => ?_) | refine split_no (fun hc => ?_) (fun hc => ?_)) <;> simp -implicitDefEqProofs only [hc, ↓reduceIte, go_sem, Nat.reduceAdd, Nat.reduceSub, Nat.reduceMul, Nat.reduceBEq, Nat.reduceLeDiff, Nat.reduceLT, Nat.reduceEqDiff, reduceCtorEq, Int.reduceBEq, Int.reduceBNe, Int.reduceLT, Int.reduceLE, Int.reduceAdd, Int.reduceSub, Int.reduceMul, Int.reduceNeg, Int.reduceEq, Int.reduceToNat])
            all_goals rfl
        · rfl
    have bt : ((plainV a).k == 3) = false := by simpa using h4
    rw [if_neg h4]
    by_cases h5 : kind = 1
    · subst h5
      rw [if_pos rfl]
      rw [call_17]
      simp -implicitDefEqProofs only [↓reduceIte, go_sem, Nat.reduceAdd, Nat.reduceSub, Nat.reduceMul, Nat.reduceBEq, Nat.reduceLeDiff, Nat.reduceLT, Nat.reduceEqDiff, reduceCtorEq, Int.reduceBEq, Int.reduceBNe, Int.reduceLT, Int.reduceLE, Int.reduceAdd, Int.reduceSub, Int.reduceMul, Int.reduceNeg, Int.reduceEq, Int.reduceToNat, Tryz.f17, hp, b0, hcan, bk, bt, r_Truth]
      repeat' ((first | refine split_cond (fun hc => ?_) (fun hc => ?_) | refine split_yes (fun hc => ?_) (fun hc => ?_) | refine split_no (fun hc => ?_) (fun hc => ?_)) <;> simp -implicitDefEqProofs only [hc, ↓reduceIte, go_sem, Nat.reduceAdd, Nat.reduceSub, Nat.reduceMul, Nat.reduceBEq, Nat.reduceLeDiff, Nat.reduceLT, Nat.reduceEqDiff, reduceCtorEq, Int.reduceBEq, Int.reduceBNe, Int.reduceLT, Int.reduceLE, Int.reduceAdd, Int.reduceSub, Int.reduceMul, Int.reduceNeg, Int.reduceEq, Int.reduceToNat, hp, b0, hcan, bk, bt, r_Truth])
      all_goals rfl
    have b5 : (kind == 1) = false := by simpa using h5
    rw [if_neg h5]
    by_cases h6 : kind = 4
    · subst h6
      rw [if_pos rfl]
      rw [call_17]
      simp -implicitDefEqProofs only [↓reduceIte, go_sem, Nat.reduceAdd, Nat.reduceSub, Nat.reduceMul, Nat.reduceBEq, Nat.reduceLeDiff, Nat.reduceLT, Nat.reduceEqDiff, reduceCtorEq, Int.reduceBEq, Int.reduceBNe, Int.reduceLT, Int.reduceLE, Int.reduceAdd, Int.reduceSub, Int.reduceMul, Int.reduceNeg, Int.reduceEq, Int.reduceToNat, Tryz.f17, hp, b0, hcan, bk, bt, r_moment]
      repeat' ((first | refine split_cond (fun hc => ?_) (fun hc => ?_) | refine split_yes (fun hc => ?_) (fun hc => ?_) | refine split_no (fun hc => ?_) (fun hc => ?_)) <;> simp -implicitDefEqProofs only [hc, ↓reduceIte, go_sem, Nat.reduceAdd, Nat.reduceSub, Nat.reduceMul, Nat.reduceBEq, Nat.reduceLeDiff, Nat.reduceLT, Nat.reduceEqDiff, reduceCtorEq, Int.reduceBEq, Int.reduceBNe, Int.reduceLT, Int.reduceLE, Int.reduceAdd, Int.reduceSub, Int.reduceMul, Int.reduceNeg, Int.reduceEq, Int.reduceToNat, hp, b0, hcan, bk, bt, r_moment])
    have b6 : (kind == 4) = false := by simpa using h6
    rw [if_neg h6]
    rw [call_17]
    simp -implicitDefEqProofs only [↓reduceIte, go_sem, Nat.reduceAdd, Nat.reduceSub, Nat.reduceMul, Nat.reduceBEq, Nat.reduceLeDiff, Nat.reduceLT, Nat.reduceEqDiff, reduceCtorEq, Int.reduceBEq, Int.reduceBNe, Int.reduceLT, Int.reduceLE, Int.reduceAdd, Int.reduceSub, Int.reduceMul, Int.reduceNeg, Int.reduceEq, Int.reduceToNat, Tryz.f17, hp, b0, hcan, bk, b3, bt, b5, b6, r_Number]
    repeat' ((first | refine split_cond (fun hc => ?_) (fun hc => ?_) | refine split_yes (fun hc => ?_) (fun hc => ?_) | refine split_no (fun hc => ?_) (fun hc => ?_)) <;> simp -implicitDefEqProofs only [hc, ↓reduceIte, go_sem, Nat.reduceAdd, Nat.reduceSub, Nat.reduceMul, Nat.reduceBEq, Nat.reduceLeDiff, Nat.reduceLT, Nat.reduceEqDiff, reduceCtorEq, Int.reduceBEq, Int.reduceBNe, Int.reduceLT, Int.reduceLE, Int.reduceAdd, Int.reduceSub, Int.reduceMul, Int.reduceNeg, Int.reduceEq, Int.reduceToNat, hp, b0, hcan, bk, b3, bt, b5, b6, r_Number])
theorem l_casts (k n : Int) (s : List UInt8) (kind : Int) (x : Int → Val) (y : Int → Int → Bool)
   (h1 : ∀ j, R K (.call 16 [V k n s, I j] []) = some (enc (x j), [])) (h2 : ∀ j, R K (.call 17 [V k n s, I j] []) = some (enc (x j), []))
   (h3 : ∀ i j, R K (.call 18 [I i, I j] []) = some (.bool (y i j), [])) (h4 : ∀ i j, R K (.call 19 [I i, I j] []) = some (.bool (y i j), [])) (ks : List It) :
   ∀ (m : Nat) (i : Int) (B : Code), Loop Tryz.f4 0 B → i + m = 7 → -1 ≤ i →
   RL K (.run 4 0 (.code B :: .lp B (some ([1, 2, 5], [])) 1 :: .blk 0 1 :: ks) [(1, I kind), (2, .ptr 0 0), (5, I i)] [.cells [I k, I n, .str s]]) =
   R K (.run 4 0 ks [(1, I kind), (2, .ptr 0 0)] [.cells [I k, I n, .str s]])
  | 0, i, B, hB, hm, hi => by
    have d1 : decide (i < 7) = false := by simp; omega
    unfold Loop at hB
    simp -implicitDefEqProofs only [↓reduceIte, go_sem, Nat.reduceAdd, Nat.reduceSub, Nat.reduceMul, Nat.reduceBEq, Nat.reduceLeDiff, Nat.reduceLT, Nat.reduceEqDiff, reduceCtorEq, Int.reduceBEq, Int.reduceBNe, Int.reduceLT, Int.reduceLE, Int.reduceAdd, Int.reduceSub, Int.reduceMul, Int.reduceNeg, Int.reduceEq, Int.reduceToNat, Tryz.f4, loopOf] at hB
    subst hB
    rw [RL_eq]
    simp -implicitDefEqProofs only [↓reduceIte, go_sem, Nat.reduceAdd, Nat.reduceSub, Nat.reduceMul, Nat.reduceBEq, Nat.reduceLeDiff, Nat.reduceLT, Nat.reduceEqDiff, reduceCtorEq, Int.reduceBEq, Int.reduceBNe, Int.reduceLT, Int.reduceLE, Int.reduceAdd, Int.reduceSub, Int.reduceMul, Int.reduceNeg, Int.reduceEq, Int.reduceToNat, d1]
    repeat' ((first | refine split_cond (fun hc => ?_) (fun hc => ?_) | refine split_yes (fun hc => ?_) (fun hc => ?_) | refine split_no (fun hc => ?_) (fun hc => ?_)) <;> simp -implicitDefEqProofs only [hc, ↓reduceIte, go_sem, Nat.reduceAdd, Nat.reduceSub, Nat.reduceMul, Nat.reduceBEq, Nat.reduceLeDiff, Nat.reduceLT, Nat.reduceEqDiff, reduceCtorEq, Int.reduceBEq, Int.reduceBNe, Int.reduceLT, Int.reduceLE, Int.reduceAdd, Int.reduceSub, Int.reduceMul, Int.reduceNeg, Int.reduceEq, Int.reduceToNat, d1])
  | m + 1, i, B, hB, hm, hi => by
    have hB' := hB
    have d1 : decide (i < 7) = true := by rw [decide_eq_true_eq]; omega
    have w1 : wrapI .i64 (i + 1) = i + 1 := wrap_id (by omega) (by omega)
    have ih := l_casts k n s kind x y h1 h2 h3 h4 ks m (i + 1) B hB' (by omega) (by omega)
    unfold Loop at hB
    simp -implicitDefEqProofs only [↓reduceIte, go_sem, Nat.reduceAdd, Nat.reduceSub, Nat.reduceMul, Nat.reduceBEq, Nat.reduceLeDiff, Nat.reduceLT, Nat.reduceEqDiff, reduceCtorEq, Int.reduceBEq, Int.reduceBNe, Int.reduceLT, Int.reduceLE, Int.reduceAdd, Int.reduceSub, Int.reduceMul, Int.reduceNeg, Int.reduceEq, Int.reduceToNat, Tryz.f4, loopOf] at hB
    subst hB
    rw [RL_eq]
    simp -implicitDefEqProofs only [↓reduceIte, go_sem, Nat.reduceAdd, Nat.reduceSub, Nat.reduceMul, Nat.reduceBEq, Nat.reduceLeDiff, Nat.reduceLT, Nat.reduceEqDiff, reduceCtorEq, Int.reduceBEq, Int.reduceBNe, Int.reduceLT, Int.reduceLE, Int.reduceAdd, Int.reduceSub, Int.reduceMul, Int.reduceNeg, Int.reduceEq, Int.reduceToNat, d1, h1, h2, h3, h4, w1, bne, beq_self_eq_true, ih]
    repeat' ((first | refine split_cond (fun hc => ?_) (fun hc => ?_) | refine split_yes (fun hc => ?_) (fun hc => ?_) | refine split_no (fun hc => ?_) (fun hc => ?_)) <;> simp -implicitDefEqProofs only [hc, ↓reduceIte, go_sem, Nat.reduceAdd, Nat.reduceSub, Nat.reduceMul, Nat.reduceBEq, Nat.reduceLeDiff, Nat.reduceLT, Nat.reduceEqDiff, reduceCtorEq, Int.reduceBEq, Int.reduceBNe, Int.reduceLT, Int.reduceLE, Int.reduceAdd, Int.reduceSub, Int.reduceMul, Int.reduceNeg, Int.reduceEq, Int.reduceToNat, d1, h1, h2, h3, h4, w1, bne, beq_self_eq_true, ih])
theorem casts_of (k n : Int) (s : List UInt8) (kind : Int) (x : Int → Val) (y : Int → Int → Bool)
   (h1 : ∀ j, R K (.call 16 [V k n s, I j] []) = some (enc (x j), [])) (h2 : ∀ j, R K (.call 17 [V k n s, I j] []) = some (enc (x j), []))
   (h3 : ∀ i j, R K (.call 18 [I i, I j] []) = some (.bool (y i j), [])) (h4 : ∀ i j, R K (.call 19 [I i, I j] []) = some (.bool (y i j), [])) :
   R K (.call 4 [V k n s, I kind] []) = some (.bool true, []) := by
  rw [call_4]
  simp -implicitDefEqProofs only [↓reduceIte, go_sem, Nat.reduceAdd, Nat.reduceSub, Nat.reduceMul, Nat.reduceBEq, Nat.reduceLeDiff, Nat.reduceLT, Nat.reduceEqDiff, reduceCtorEq, Int.reduceBEq, Int.reduceBNe, Int.reduceLT, Int.reduceLE, Int.reduceAdd, Int.reduceSub, Int.reduceMul, Int.reduceNeg, Int.reduceEq, Int.reduceToNat, Tryz.f4]
  repeat' ((first | refine split_cond (fun hc => ?_) (fun hc => ?_) | refine split_yes (fun hc => ?_) (fun hc => ?_) | refine split_no (fun hc => ?_) (fun hc => ?_)) <;> simp -implicitDefEqProofs only [hc, ↓reduceIte, go_sem, Nat.reduceAdd, Nat.reduceSub, Nat.reduceMul, Nat.reduceBEq, Nat.reduceLeDiff, Nat.reduceLT, Nat.reduceEqDiff, reduceCtorEq, Int.reduceBEq, Int.reduceBNe, Int.reduceLT, Int.reduceLE, Int.reduceAdd, Int.reduceSub, Int.reduceMul, Int.reduceNeg, Int.reduceEq, Int.reduceToNat])
  rw [l_casts k n s kind x y h1 h2 h3 h4 _ 8 (-1) _ ?_ (by omega) (by omega)]
  · simp -implicitDefEqProofs only [↓reduceIte, go_sem, Nat.reduceAdd, Nat.reduceSub, Nat.reduceMul, Nat.reduceBEq, Nat.reduceLeDiff, Nat.reduceLT, Nat.reduceEqDiff, reduceCtorEq, Int.reduceBEq, Int.reduceBNe, Int.reduceLT, Int.reduceLE, Int.reduceAdd, Int.reduceSub, Int.reduceMul, Int.reduceNeg, Int.reduceEq, Int.reduceToNat, h1, h2, r_values, beq_self_eq_true]
    repeat' ((first | refine split_cond (fun hc => ?_) (fun hc => ?_) | refine split_yes (fun hc => ?_) (fun hc => ?_) | refine split_no (fun hc => ?_) (fun hc => ?_)) <;> simp -implicitDefEqProofs only [hc, ↓reduceIte, go_sem, Nat.reduceAdd, Nat.reduceSub, Nat.reduceMul, Nat.reduceBEq, Nat.reduceLeDiff, Nat.reduceLT, Nat.reduceEqDiff, reduceCtorEq, Int.reduceBEq, Int.reduceBNe, Int.reduceLT, Int.reduceLE, Int.reduceAdd, Int.reduceSub, Int.reduceMul, Int.reduceNeg, Int.reduceEq, Int.reduceToNat, h1, h2, r_values, beq_self_eq_true])
  · rfl
theorem law_casts (k n : Int) (s : List UInt8) (kind : Int) : R K (.call 4 [V k n s, I kind] []) = some (.bool true, []) :=
  casts_of k n s kind (fun j => castS ⟨k, n, s⟩ j) canS (fun j => c_Cast k n s j) (fun j => by rw [r_Casted, cast_law]) c_Can r_CanCast
end Go.Ab
