/- What is proved: contracts of the program's and the reference's functions in the evaluator, and plain laws on them. Conditions: as each states. -/
import Derived.Test.YtnckdofnpjaibaaGreatDoorMQ1
set_option linter.unusedSimpArgs false
set_option linter.unusedVariables false
set_option maxRecDepth 100000
namespace Go.Ab
open Go Go.Proofs
theorem r_momentFrom (s : List UInt8) : ∃ w b, R K (.call 122 [.str s] []) = some (.tup [enc w, .bool b], []) ∧ b = decide ((dreadS s).k = 4) ∧ (b = true → w = dreadS s) := by
  by_cases hs : s.length = 19
  rotate_left
  · have e : dreadS s = null := if_neg hs
    have hb : (((s.length : Nat) : Int) != 19) = true := by simpa using (fun h => hs (by omega) : ¬ ((s.length : Nat) : Int) = 19)
    refine ⟨null, false, ?_, by rw [e]; rfl, fun h => by simp at h⟩
    rw [call_122]
    simp -implicitDefEqProofs only [↓reduceIte, go_sem, Nat.reduceAdd, Nat.reduceSub, Nat.reduceMul, Nat.reduceBEq, Nat.reduceLeDiff, Nat.reduceLT, Nat.reduceEqDiff, reduceCtorEq, Int.reduceBEq, Int.reduceBNe, Int.reduceLT, Int.reduceLE, Int.reduceAdd, Int.reduceSub, Int.reduceMul, Int.reduceNeg, Int.reduceEq, Int.reduceToNat, Tryz.f122, hb]
    repeat' ((first | refine split_cond (fun hc => ?_) (fun hc => ?_) | refine split_yes (fun hc => ?_) (fun hc => ?_) | refine split_no (fun hc => ?_) (fun hc => ?_)) <;> simp -implicitDefEqProofs only [hc, ↓reduceIte, go_sem, Nat.reduceAdd, Nat.reduceSub, Nat.reduceMul, Nat.reduceBEq, Nat.reduceLeDiff, Nat.reduceLT, Nat.reduceEqDiff, reduceCtorEq, Int.reduceBEq, Int.reduceBNe, Int.reduceLT, Int.reduceLE, Int.reduceAdd, Int.reduceSub, Int.reduceMul, Int.reduceNeg, Int.reduceEq, Int.reduceToNat, hb])
    rfl
  have hsI : ((s.length : Nat) : Int) = 19 := by omega
  have lt : ∀ (k : Nat) (l : List UInt8), (List.take k l).length ≤ 281474976710656 ∨ 281474976710656 < k := fun k l => by
    rcases Nat.lt_or_ge 281474976710656 k with h | h
    · exact .inr h
    · exact .inl (Nat.le_trans (List.length_take_le _ _) h)
  cases h0 : atoiN (List.take 4 s) with
  | none =>
    have e := six_no (s := s) (.inl h0)
    obtain ⟨z, a0⟩ := p_Atoi_no (List.take 4 s) ((lt _ _).resolve_right (by omega)) h0
    refine ⟨null, false, ?_, by rw [e]; rfl, fun h => by simp at h⟩
    rw [call_122]
    simp -implicitDefEqProofs only [↓reduceIte, go_sem, Nat.reduceAdd, Nat.reduceSub, Nat.reduceMul, Nat.reduceBEq, Nat.reduceLeDiff, Nat.reduceLT, Nat.reduceEqDiff, reduceCtorEq, Int.reduceBEq, Int.reduceBNe, Int.reduceLT, Int.reduceLE, Int.reduceAdd, Int.reduceSub, Int.reduceMul, Int.reduceNeg, Int.reduceEq, Int.reduceToNat, Tryz.f122, hs, hsI]
    repeat' ((first | refine split_cond (fun hc => ?_) (fun hc => ?_) | refine split_yes (fun hc => ?_) (fun hc => ?_) | refine split_no (fun hc => ?_) (fun hc => ?_)) <;> simp -implicitDefEqProofs only [hc, ↓reduceIte, go_sem, Nat.reduceAdd, Nat.reduceSub, Nat.reduceMul, Nat.reduceBEq, Nat.reduceLeDiff, Nat.reduceLT, Nat.reduceEqDiff, reduceCtorEq, Int.reduceBEq, Int.reduceBNe, Int.reduceLT, Int.reduceLE, Int.reduceAdd, Int.reduceSub, Int.reduceMul, Int.reduceNeg, Int.reduceEq, Int.reduceToNat, hs, hsI])
    rw [RL_eq]
    simp -implicitDefEqProofs only [↓reduceIte, go_sem, Nat.reduceAdd, Nat.reduceSub, Nat.reduceMul, Nat.reduceBEq, Nat.reduceLeDiff, Nat.reduceLT, Nat.reduceEqDiff, reduceCtorEq, Int.reduceBEq, Int.reduceBNe, Int.reduceLT, Int.reduceLE, Int.reduceAdd, Int.reduceSub, Int.reduceMul, Int.reduceNeg, Int.reduceEq, Int.reduceToNat, hs, hsI, at?, small_room, a0]
    repeat' ((first | refine split_cond (fun hc => ?_) (fun hc => ?_) | refine split_yes (fun hc => ?_) (fun hc => ?_) | refine split_no (fun hc => ?_) (fun hc => ?_)) <;> simp -implicitDefEqProofs only [hc, ↓reduceIte, go_sem, Nat.reduceAdd, Nat.reduceSub, Nat.reduceMul, Nat.reduceBEq, Nat.reduceLeDiff, Nat.reduceLT, Nat.reduceEqDiff, reduceCtorEq, Int.reduceBEq, Int.reduceBNe, Int.reduceLT, Int.reduceLE, Int.reduceAdd, Int.reduceSub, Int.reduceMul, Int.reduceNeg, Int.reduceEq, Int.reduceToNat, hs, hsI, at?, small_room, a0])
    rfl
  | some n0 =>
    have a0 := p_Atoi_ok (List.take 4 s) n0 ((lt _ _).resolve_right (by omega)) h0
    cases h1 : atoiN (List.take 2 (List.drop 5 s)) with
    | none =>
      have e := six_no (s := s) (.inr (.inl h1))
      obtain ⟨z, a1⟩ := p_Atoi_no (List.take 2 (List.drop 5 s)) ((lt _ _).resolve_right (by omega)) h1
      refine ⟨null, false, ?_, by rw [e]; rfl, fun h => by simp at h⟩
      rw [call_122]
      simp -implicitDefEqProofs only [↓reduceIte, go_sem, Nat.reduceAdd, Nat.reduceSub, Nat.reduceMul, Nat.reduceBEq, Nat.reduceLeDiff, Nat.reduceLT, Nat.reduceEqDiff, reduceCtorEq, Int.reduceBEq, Int.reduceBNe, Int.reduceLT, Int.reduceLE, Int.reduceAdd, Int.reduceSub, Int.reduceMul, Int.reduceNeg, Int.reduceEq, Int.reduceToNat, Tryz.f122, hs, hsI]
      repeat' ((first | refine split_cond (fun hc => ?_) (fun hc => ?_) | refine split_yes (fun hc => ?_) (fun hc => ?_) | refine split_no (fun hc => ?_) (fun hc => ?_)) <;> simp -implicitDefEqProofs only [hc, ↓reduceIte, go_sem, Nat.reduceAdd, Nat.reduceSub, Nat.reduceMul, Nat.reduceBEq, Nat.reduceLeDiff, Nat.reduceLT, Nat.reduceEqDiff, reduceCtorEq, Int.reduceBEq, Int.reduceBNe, Int.reduceLT, Int.reduceLE, Int.reduceAdd, Int.reduceSub, Int.reduceMul, Int.reduceNeg, Int.reduceEq, Int.reduceToNat, hs, hsI])
      rw [RL_eq]
      simp -implicitDefEqProofs only [↓reduceIte, go_sem, Nat.reduceAdd, Nat.reduceSub, Nat.reduceMul, Nat.reduceBEq, Nat.reduceLeDiff, Nat.reduceLT, Nat.reduceEqDiff, reduceCtorEq, Int.reduceBEq, Int.reduceBNe, Int.reduceLT, Int.reduceLE, Int.reduceAdd, Int.reduceSub, Int.reduceMul, Int.reduceNeg, Int.reduceEq, Int.reduceToNat, hs, hsI, at?, small_room, a0, a1]
      repeat' ((first | refine split_cond (fun hc => ?_) (fun hc => ?_) | refine split_yes (fun hc => ?_) (fun hc => ?_) | refine split_no (fun hc => ?_) (fun hc => ?_)) <;> simp -implicitDefEqProofs only [hc, ↓reduceIte, go_sem, Nat.reduceAdd, Nat.reduceSub, Nat.reduceMul, Nat.reduceBEq, Nat.reduceLeDiff, Nat.reduceLT, Nat.reduceEqDiff, reduceCtorEq, Int.reduceBEq, Int.reduceBNe, Int.reduceLT, Int.reduceLE, Int.reduceAdd, Int.reduceSub, Int.reduceMul, Int.reduceNeg, Int.reduceEq, Int.reduceToNat, hs, hsI, at?, small_room, a0, a1])
      rw [RL_eq]
      simp -implicitDefEqProofs only [↓reduceIte, go_sem, Nat.reduceAdd, Nat.reduceSub, Nat.reduceMul, Nat.reduceBEq, Nat.reduceLeDiff, Nat.reduceLT, Nat.reduceEqDiff, reduceCtorEq, Int.reduceBEq, Int.reduceBNe, Int.reduceLT, Int.reduceLE, Int.reduceAdd, Int.reduceSub, Int.reduceMul, Int.reduceNeg, Int.reduceEq, Int.reduceToNat, hs, hsI, at?, small_room, a0, a1]
      repeat' ((first | refine split_cond (fun hc => ?_) (fun hc => ?_) | refine split_yes (fun hc => ?_) (fun hc => ?_) | refine split_no (fun hc => ?_) (fun hc => ?_)) <;> simp -implicitDefEqProofs only [hc, ↓reduceIte, go_sem, Nat.reduceAdd, Nat.reduceSub, Nat.reduceMul, Nat.reduceBEq, Nat.reduceLeDiff, Nat.reduceLT, Nat.reduceEqDiff, reduceCtorEq, Int.reduceBEq, Int.reduceBNe, Int.reduceLT, Int.reduceLE, Int.reduceAdd, Int.reduceSub, Int.reduceMul, Int.reduceNeg, Int.reduceEq, Int.reduceToNat, hs, hsI, at?, small_room, a0, a1])
      rfl
    | some n1 =>
      have a1 := p_Atoi_ok (List.take 2 (List.drop 5 s)) n1 ((lt _ _).resolve_right (by omega)) h1
      cases h2 : atoiN (List.take 2 (List.drop 8 s)) with
      | none =>
        have e := six_no (s := s) (.inr (.inr (.inl h2)))
        obtain ⟨z, a2⟩ := p_Atoi_no (List.take 2 (List.drop 8 s)) ((lt _ _).resolve_right (by omega)) h2
        refine ⟨null, false, ?_, by rw [e]; rfl, fun h => by simp at h⟩
        rw [call_122]
        simp -implicitDefEqProofs only [↓reduceIte, go_sem, Nat.reduceAdd, Nat.reduceSub, Nat.reduceMul, Nat.reduceBEq, Nat.reduceLeDiff, Nat.reduceLT, Nat.reduceEqDiff, reduceCtorEq, Int.reduceBEq, Int.reduceBNe, Int.reduceLT, Int.reduceLE, Int.reduceAdd, Int.reduceSub, Int.reduceMul, Int.reduceNeg, Int.reduceEq, Int.reduceToNat, Tryz.f122, hs, hsI]
        repeat' ((first | refine split_cond (fun hc => ?_) (fun hc => ?_) | refine split_yes (fun hc => ?_) (fun hc => ?_) | refine split_no (fun hc => ?_) (fun hc => ?_)) <;> simp -implicitDefEqProofs only [hc, ↓reduceIte, go_sem, Nat.reduceAdd, Nat.reduceSub, Nat.reduceMul, Nat.reduceBEq, Nat.reduceLeDiff, Nat.reduceLT, Nat.reduceEqDiff, reduceCtorEq, Int.reduceBEq, Int.reduceBNe, Int.reduceLT, Int.reduceLE, Int.reduceAdd, Int.reduceSub, Int.reduceMul, Int.reduceNeg, Int.reduceEq, Int.reduceToNat, hs, hsI])
        rw [RL_eq]
        simp -implicitDefEqProofs only [↓reduceIte, go_sem, Nat.reduceAdd, Nat.reduceSub, Nat.reduceMul, Nat.reduceBEq, Nat.reduceLeDiff, Nat.reduceLT, Nat.reduceEqDiff, reduceCtorEq, Int.reduceBEq, Int.reduceBNe, Int.reduceLT, Int.reduceLE, Int.reduceAdd, Int.reduceSub, Int.reduceMul, Int.reduceNeg, Int.reduceEq, Int.reduceToNat, hs, hsI, at?, small_room, a0, a1, a2]
        repeat' ((first | refine split_cond (fun hc => ?_) (fun hc => ?_) | refine split_yes (fun hc => ?_) (fun hc => ?_) | refine split_no (fun hc => ?_) (fun hc => ?_)) <;> simp -implicitDefEqProofs only [hc, ↓reduceIte, go_sem, Nat.reduceAdd, Nat.reduceSub, Nat.reduceMul, Nat.reduceBEq, Nat.reduceLeDiff, Nat.reduceLT, Nat.reduceEqDiff, reduceCtorEq, Int.reduceBEq, Int.reduceBNe, Int.reduceLT, Int.reduceLE, Int.reduceAdd, Int.reduceSub, Int.reduceMul, Int.reduceNeg, Int.reduceEq, Int.reduceToNat, hs, hsI, at?, small_room, a0, a1, a2])
        rw [RL_eq]
        simp -implicitDefEqProofs only [↓reduceIte, go_sem, Nat.reduceAdd, Nat.reduceSub, Nat.reduceMul, Nat.reduceBEq, Nat.reduceLeDiff, Nat.reduceLT, Nat.reduceEqDiff, reduceCtorEq, Int.reduceBEq, Int.reduceBNe, Int.reduceLT, Int.reduceLE, Int.reduceAdd, Int.reduceSub, Int.reduceMul, Int.reduceNeg, Int.reduceEq, Int.reduceToNat, hs, hsI, at?, small_room, a0, a1, a2]
        repeat' ((first | refine split_cond (fun hc => ?_) (fun hc => ?_) | refine split_yes (fun hc => ?_) (fun hc => ?_) | refine split_no (fun hc => ?_) (fun hc => ?_)) <;> simp -implicitDefEqProofs only [hc, ↓reduceIte, go_sem, Nat.reduceAdd, Nat.reduceSub, Nat.reduceMul, Nat.reduceBEq, Nat.reduceLeDiff, Nat.reduceLT, Nat.reduceEqDiff, reduceCtorEq, Int.reduceBEq, Int.reduceBNe, Int.reduceLT, Int.reduceLE, Int.reduceAdd, Int.reduceSub, Int.reduceMul, Int.reduceNeg, Int.reduceEq, Int.reduceToNat, hs, hsI, at?, small_room, a0, a1, a2])
        rw [RL_eq]
        simp -implicitDefEqProofs only [↓reduceIte, go_sem, Nat.reduceAdd, Nat.reduceSub, Nat.reduceMul, Nat.reduceBEq, Nat.reduceLeDiff, Nat.reduceLT, Nat.reduceEqDiff, reduceCtorEq, Int.reduceBEq, Int.reduceBNe, Int.reduceLT, Int.reduceLE, Int.reduceAdd, Int.reduceSub, Int.reduceMul, Int.reduceNeg, Int.reduceEq, Int.reduceToNat, hs, hsI, at?, small_room, a0, a1, a2]
        repeat' ((first | refine split_cond (fun hc => ?_) (fun hc => ?_) | refine split_yes (fun hc => ?_) (fun hc => ?_) | refine split_no (fun hc => ?_) (fun hc => ?_)) <;> simp -implicitDefEqProofs only [hc, ↓reduceIte, go_sem, Nat.reduceAdd, Nat.reduceSub, Nat.reduceMul, Nat.reduceBEq, Nat.reduceLeDiff, Nat.reduceLT, Nat.reduceEqDiff, reduceCtorEq, Int.reduceBEq, Int.reduceBNe, Int.reduceLT, Int.reduceLE, Int.reduceAdd, Int.reduceSub, Int.reduceMul, Int.reduceNeg, Int.reduceEq, Int.reduceToNat, hs, hsI, at?, small_room, a0, a1, a2])
        rfl
      | some n2 =>
        have a2 := p_Atoi_ok (List.take 2 (List.drop 8 s)) n2 ((lt _ _).resolve_right (by omega)) h2
        cases h3 : atoiN (List.take 2 (List.drop 11 s)) with
        | none =>
          have e := six_no (s := s) (.inr (.inr (.inr (.inl h3))))
          obtain ⟨z, a3⟩ := p_Atoi_no (List.take 2 (List.drop 11 s)) ((lt _ _).resolve_right (by omega)) h3
          refine ⟨null, false, ?_, by rw [e]; rfl, fun h => by simp at h⟩
          rw [call_122]
          simp -implicitDefEqProofs only [↓reduceIte, go_sem, Nat.reduceAdd, Nat.reduceSub, Nat.reduceMul, Nat.reduceBEq, Nat.reduceLeDiff, Nat.reduceLT, Nat.reduceEqDiff, reduceCtorEq, Int.reduceBEq, Int.reduceBNe, Int.reduceLT, Int.reduceLE, Int.reduceAdd, Int.reduceSub, Int.reduceMul, Int.reduceNeg, Int.reduceEq, Int.reduceToNat, Tryz.f122, hs, hsI]
          repeat' ((first | refine split_cond (fun hc => ?_) (fun hc => ?_) | refine split_yes (fun hc => ?_) (fun hc => ?_) | refine split_no (fun hc => ?_) (fun hc => ?_)) <;> simp -implicitDefEqProofs only [hc, ↓reduceIte, go_sem, Nat.reduceAdd, Nat.reduceSub, Nat.reduceMul, Nat.reduceBEq, Nat.reduceLeDiff, Nat.reduceLT, Nat.reduceEqDiff, reduceCtorEq, Int.reduceBEq, Int.reduceBNe, Int.reduceLT, Int.reduceLE, Int.reduceAdd, Int.reduceSub, Int.reduceMul, Int.reduceNeg, Int.reduceEq, Int.reduceToNat, hs, hsI])
          rw [RL_eq]
          simp -implicitDefEqProofs only [↓reduceIte, go_sem, Nat.reduceAdd, Nat.reduceSub, Nat.reduceMul, Nat.reduceBEq, Nat.reduceLeDiff, Nat.reduceLT, Nat.reduceEqDiff, reduceCtorEq, Int.reduceBEq, Int.reduceBNe, Int.reduceLT, Int.reduceLE, Int.reduceAdd, Int.reduceSub, Int.reduceMul, Int.reduceNeg, Int.reduceEq, Int.reduceToNat, hs, hsI, at?, small_room, a0, a1, a2, a3]
          repeat' ((first | refine split_cond (fun hc => ?_) (fun hc => ?_) | refine split_yes (fun hc => ?_) (fun hc => ?_) | refine split_no (fun hc => ?_) (fun hc => ?_)) <;> simp -implicitDefEqProofs only [hc, ↓reduceIte, go_sem, Nat.reduceAdd, Nat.reduceSub, Nat.reduceMul, Nat.reduceBEq, Nat.reduceLeDiff, Nat.reduceLT, Nat.reduceEqDiff, reduceCtorEq, Int.reduceBEq, Int.reduceBNe, Int.reduceLT, Int.reduceLE, Int.reduceAdd, Int.reduceSub, Int.reduceMul, Int.reduceNeg, Int.reduceEq, Int.reduceToNat, hs, hsI, at?, small_room, a0, a1, a2, a3])
          rw [RL_eq]
          simp -implicitDefEqProofs only [↓reduceIte, go_sem, Nat.reduceAdd, Nat.reduceSub, Nat.reduceMul, Nat.reduceBEq, Nat.reduceLeDiff, Nat.reduceLT, Nat.reduceEqDiff, reduceCtorEq, Int.reduceBEq, Int.reduceBNe, Int.reduceLT, Int.reduceLE, Int.reduceAdd, Int.reduceSub, Int.reduceMul, Int.reduceNeg, Int.reduceEq, Int.reduceToNat, hs, hsI, at?, small_room, a0, a1, a2, a3]
          repeat' ((first | refine split_cond (fun hc => ?_) (fun hc => ?_) | refine split_yes (fun hc => ?_) (fun hc => ?_) | refine split_no (fun hc => ?_) (fun hc => ?_)) <;> simp -implicitDefEqProofs only [hc, ↓reduceIte, go_sem, Nat.reduceAdd, Nat.reduceSub, Nat.reduceMul, Nat.reduceBEq, Nat.reduceLeDiff, Nat.reduceLT, Nat.reduceEqDiff, reduceCtorEq, Int.reduceBEq, Int.reduceBNe, Int.reduceLT, Int.reduceLE, Int.reduceAdd, Int.reduceSub, Int.reduceMul, Int.reduceNeg, Int.reduceEq, Int.reduceToNat, hs, hsI, at?, small_room, a0, a1, a2, a3])
          rw [RL_eq]
          simp -implicitDefEqProofs only [↓reduceIte, go_sem, Nat.reduceAdd, Nat.reduceSub, Nat.reduceMul, Nat.reduceBEq, Nat.reduceLeDiff, Nat.reduceLT, Nat.reduceEqDiff, reduceCtorEq, Int.reduceBEq, Int.reduceBNe, Int.reduceLT, Int.reduceLE, Int.reduceAdd, Int.reduceSub, Int.reduceMul, Int.reduceNeg, Int.reduceEq, Int.reduceToNat, hs, hsI, at?, small_room, a0, a1, a2, a3]
          repeat' ((first | refine split_cond (fun hc => ?_) (fun hc => ?_) | refine split_yes (fun hc => ?_) (fun hc => ?_) | refine split_no (fun hc => ?_) (fun hc => ?_)) <;> simp -implicitDefEqProofs only [hc, ↓reduceIte, go_sem, Nat.reduceAdd, Nat.reduceSub, Nat.reduceMul, Nat.reduceBEq, Nat.reduceLeDiff, Nat.reduceLT, Nat.reduceEqDiff, reduceCtorEq, Int.reduceBEq, Int.reduceBNe, Int.reduceLT, Int.reduceLE, Int.reduceAdd, Int.reduceSub, Int.reduceMul, Int.reduceNeg, Int.reduceEq, Int.reduceToNat, hs, hsI, at?, small_room, a0, a1, a2, a3])
          rw [RL_eq]
          simp -implicitDefEqProofs only [↓reduceIte, go_sem, Nat.reduceAdd, Nat.reduceSub, Nat.reduceMul, Nat.reduceBEq, Nat.reduceLeDiff, Nat.reduceLT, Nat.reduceEqDiff, reduceCtorEq, Int.reduceBEq, Int.reduceBNe, Int.reduceLT, Int.reduceLE, Int.reduceAdd, Int.reduceSub, Int.reduceMul, Int.reduceNeg, Int.reduceEq, Int.reduceToNat, hs, hsI, at?, small_room, a0, a1, a2, a3]
          repeat' ((first | refine split_cond (fun hc => ?_) (fun hc => ?_) | refine split_yes (fun hc => ?_) (fun hc => ?_) | refine split_no (fun hc => ?_) (fun hc => ?_)) <;> simp -implicitDefEqProofs only [hc, ↓reduceIte, go_sem, Nat.reduceAdd, Nat.reduceSub, Nat.reduceMul, Nat.reduceBEq, Nat.reduceLeDiff, Nat.reduceLT, Nat.reduceEqDiff, reduceCtorEq, Int.reduceBEq, Int.reduceBNe, Int.reduceLT, Int.reduceLE, Int.reduceAdd, Int.reduceSub, Int.reduceMul, Int.reduceNeg, Int.reduceEq, Int.reduceToNat, hs, hsI, at?, small_room, a0, a1, a2, a3])
          rfl
        | some n3 =>
          have a3 := p_Atoi_ok (List.take 2 (List.drop 11 s)) n3 ((lt _ _).resolve_right (by omega)) h3
          cases h4 : atoiN (List.take 2 (List.drop 14 s)) with
          | none =>
            have e := six_no (s := s) (.inr (.inr (.inr (.inr (.inl h4)))))
            obtain ⟨z, a4⟩ := p_Atoi_no (List.take 2 (List.drop 14 s)) ((lt _ _).resolve_right (by omega)) h4
            refine ⟨null, false, ?_, by rw [e]; rfl, fun h => by simp at h⟩
            rw [call_122]
            simp -implicitDefEqProofs only [↓reduceIte, go_sem, Nat.reduceAdd, Nat.reduceSub, Nat.reduceMul, Nat.reduceBEq, Nat.reduceLeDiff, Nat.reduceLT, Nat.reduceEqDiff, reduceCtorEq, Int.reduceBEq, Int.reduceBNe, Int.reduceLT, Int.reduceLE, Int.reduceAdd, Int.reduceSub, Int.reduceMul, Int.reduceNeg, Int.reduceEq, Int.reduceToNat, Tryz.f122, hs, hsI]
            repeat' ((first | refine split_cond (fun hc => ?_) (fun hc => ?_) | refine split_yes (fun hc => ?_) (fun hc => ?_) | refine split_no (fun hc => ?_) (fun hc => ?_)) <;> simp -implicitDefEqProofs only [hc, ↓reduceIte, go_sem, Nat.reduceAdd, Nat.reduceSub, Nat.reduceMul, Nat.reduceBEq, Nat.reduceLeDiff, Nat.reduceLT, Nat.reduceEqDiff, reduceCtorEq, Int.reduceBEq, Int.reduceBNe, Int.reduceLT, Int.reduceLE, Int.reduceAdd, Int.reduceSub, Int.reduceMul, Int.reduceNeg, Int.reduceEq, Int.reduceToNat, hs, hsI])
            rw [RL_eq]
            simp -implicitDefEqProofs only [↓reduceIte, go_sem, Nat.reduceAdd, Nat.reduceSub, Nat.reduceMul, Nat.reduceBEq, Nat.reduceLeDiff, Nat.reduceLT, Nat.reduceEqDiff, reduceCtorEq, Int.reduceBEq, Int.reduceBNe, Int.reduceLT, Int.reduceLE, Int.reduceAdd, Int.reduceSub, Int.reduceMul, Int.reduceNeg, Int.reduceEq, Int.reduceToNat, hs, hsI, at?, small_room, a0, a1, a2, a3, a4]
            repeat' ((first | refine split_cond (fun hc => ?_) (fun hc => ?_) | refine split_yes (fun hc => ?_) (fun hc => ?_) | refine split_no (fun hc => ?_) (fun hc => ?_)) <;> simp -implicitDefEqProofs only [hc, ↓reduceIte, go_sem, Nat.reduceAdd, Nat.reduceSub, Nat.reduceMul, Nat.reduceBEq, Nat.reduceLeDiff, Nat.reduceLT, Nat.reduceEqDiff, reduceCtorEq, Int.reduceBEq, Int.reduceBNe, Int.reduceLT, Int.reduceLE, Int.reduceAdd, Int.reduceSub, Int.reduceMul, Int.reduceNeg, Int.reduceEq, Int.reduceToNat, hs, hsI, at?, small_room, a0, a1, a2, a3, a4])
            rw [RL_eq]
            simp -implicitDefEqProofs only [↓reduceIte, go_sem, Nat.reduceAdd, Nat.reduceSub, Nat.reduceMul, Nat.reduceBEq, Nat.reduceLeDiff, Nat.reduceLT, Nat.reduceEqDiff, reduceCtorEq, Int.reduceBEq, Int.reduceBNe, Int.reduceLT, Int.reduceLE, Int.reduceAdd, Int.reduceSub, Int.reduceMul, Int.reduceNeg, Int.reduceEq, Int.reduceToNat, hs, hsI, at?, small_room, a0, a1, a2, a3, a4]
            repeat' ((first | refine split_cond (fun hc => ?_) (fun hc => ?_) | refine split_yes (fun hc => ?_) (fun hc => ?_) | refine split_no (fun hc => ?_) (fun hc => ?_)) <;> simp -implicitDefEqProofs only [hc, ↓reduceIte, go_sem, Nat.reduceAdd, Nat.reduceSub, Nat.reduceMul, Nat.reduceBEq, Nat.reduceLeDiff, Nat.reduceLT, Nat.reduceEqDiff, reduceCtorEq, Int.reduceBEq, Int.reduceBNe, Int.reduceLT, Int.reduceLE, Int.reduceAdd, Int.reduceSub, Int.reduceMul, Int.reduceNeg, Int.reduceEq, Int.reduceToNat, hs, hsI, at?, small_room, a0, a1, a2, a3, a4])
            rw [RL_eq]
            simp -implicitDefEqProofs only [↓reduceIte, go_sem, Nat.reduceAdd, Nat.reduceSub, Nat.reduceMul, Nat.reduceBEq, Nat.reduceLeDiff, Nat.reduceLT, Nat.reduceEqDiff, reduceCtorEq, Int.reduceBEq, Int.reduceBNe, Int.reduceLT, Int.reduceLE, Int.reduceAdd, Int.reduceSub, Int.reduceMul, Int.reduceNeg, Int.reduceEq, Int.reduceToNat, hs, hsI, at?, small_room, a0, a1, a2, a3, a4]
            repeat' ((first | refine split_cond (fun hc => ?_) (fun hc => ?_) | refine split_yes (fun hc => ?_) (fun hc => ?_) | refine split_no (fun hc => ?_) (fun hc => ?_)) <;> simp -implicitDefEqProofs only [hc, ↓reduceIte, go_sem, Nat.reduceAdd, Nat.reduceSub, Nat.reduceMul, Nat.reduceBEq, Nat.reduceLeDiff, Nat.reduceLT, Nat.reduceEqDiff, reduceCtorEq, Int.reduceBEq, Int.reduceBNe, Int.reduceLT, Int.reduceLE, Int.reduceAdd, Int.reduceSub, Int.reduceMul, Int.reduceNeg, Int.reduceEq, Int.reduceToNat, hs, hsI, at?, small_room, a0, a1, a2, a3, a4])
            rw [RL_eq]
            simp -implicitDefEqProofs only [↓reduceIte, go_sem, Nat.reduceAdd, Nat.reduceSub, Nat.reduceMul, Nat.reduceBEq, Nat.reduceLeDiff, Nat.reduceLT, Nat.reduceEqDiff, reduceCtorEq, Int.reduceBEq, Int.reduceBNe, Int.reduceLT, Int.reduceLE, Int.reduceAdd, Int.reduceSub, Int.reduceMul, Int.reduceNeg, Int.reduceEq, Int.reduceToNat, hs, hsI, at?, small_room, a0, a1, a2, a3, a4]
            repeat' ((first | refine split_cond (fun hc => ?_) (fun hc => ?_) | refine split_yes (fun hc => ?_) (fun hc => ?_) | refine split_no (fun hc => ?_) (fun hc => ?_)) <;> simp -implicitDefEqProofs only [hc, ↓reduceIte, go_sem, Nat.reduceAdd, Nat.reduceSub, Nat.reduceMul, Nat.reduceBEq, Nat.reduceLeDiff, Nat.reduceLT, Nat.reduceEqDiff, reduceCtorEq, Int.reduceBEq, Int.reduceBNe, Int.reduceLT, Int.reduceLE, Int.reduceAdd, Int.reduceSub, Int.reduceMul, Int.reduceNeg, Int.reduceEq, Int.reduceToNat, hs, hsI, at?, small_room, a0, a1, a2, a3, a4])
            rw [RL_eq]
            simp -implicitDefEqProofs only [↓reduceIte, go_sem, Nat.reduceAdd, Nat.reduceSub, Nat.reduceMul, Nat.reduceBEq, Nat.reduceLeDiff, Nat.reduceLT, Nat.reduceEqDiff, reduceCtorEq, Int.reduceBEq, Int.reduceBNe, Int.reduceLT, Int.reduceLE, Int.reduceAdd, Int.reduceSub, Int.reduceMul, Int.reduceNeg, Int.reduceEq, Int.reduceToNat, hs, hsI, at?, small_room, a0, a1, a2, a3, a4]
            repeat' ((first | refine split_cond (fun hc => ?_) (fun hc => ?_) | refine split_yes (fun hc => ?_) (fun hc => ?_) | refine split_no (fun hc => ?_) (fun hc => ?_)) <;> simp -implicitDefEqProofs only [hc, ↓reduceIte, go_sem, Nat.reduceAdd, Nat.reduceSub, Nat.reduceMul, Nat.reduceBEq, Nat.reduceLeDiff, Nat.reduceLT, Nat.reduceEqDiff, reduceCtorEq, Int.reduceBEq, Int.reduceBNe, Int.reduceLT, Int.reduceLE, Int.reduceAdd, Int.reduceSub, Int.reduceMul, Int.reduceNeg, Int.reduceEq, Int.reduceToNat, hs, hsI, at?, small_room, a0, a1, a2, a3, a4])
            rfl
          | some n4 =>
            have a4 := p_Atoi_ok (List.take 2 (List.drop 14 s)) n4 ((lt _ _).resolve_right (by omega)) h4
            cases h5 : atoiN (List.take 2 (List.drop 17 s)) with
            | none =>
              have e := six_no (s := s) (.inr (.inr (.inr (.inr (.inr h5)))))
              obtain ⟨z, a5⟩ := p_Atoi_no (List.take 2 (List.drop 17 s)) ((lt _ _).resolve_right (by omega)) h5
              refine ⟨null, false, ?_, by rw [e]; rfl, fun h => by simp at h⟩
              rw [call_122]
              simp -implicitDefEqProofs only [↓reduceIte, go_sem, Nat.reduceAdd, Nat.reduceSub, Nat.reduceMul, Nat.reduceBEq, Nat.reduceLeDiff, Nat.reduceLT, Nat.reduceEqDiff, reduceCtorEq, Int.reduceBEq, Int.reduceBNe, Int.reduceLT, Int.reduceLE, Int.reduceAdd, Int.reduceSub, Int.reduceMul, Int.reduceNeg, Int.reduceEq, Int.reduceToNat, Tryz.f122, hs, hsI]
              repeat' ((first | refine split_cond (fun hc => ?_) (fun hc => ?_) | refine split_yes (fun hc => ?_) (fun hc => ?_) | refine split_no (fun hc => ?_) (fun hc => ?_)) <;> simp -implicitDefEqProofs only [hc, ↓reduceIte, go_sem, Nat.reduceAdd, Nat.reduceSub, Nat.reduceMul, Nat.reduceBEq, Nat.reduceLeDiff, Nat.reduceLT, Nat.reduceEqDiff, reduceCtorEq, Int.reduceBEq, Int.reduceBNe, Int.reduceLT, Int.reduceLE, Int.reduceAdd, Int.reduceSub, Int.reduceMul, Int.reduceNeg, Int.reduceEq, Int.reduceToNat, hs, hsI])
              rw [RL_eq]
              simp -implicitDefEqProofs only [↓reduceIte, go_sem, Nat.reduceAdd, Nat.reduceSub, Nat.reduceMul, Nat.reduceBEq, Nat.reduceLeDiff, Nat.reduceLT, Nat.reduceEqDiff, reduceCtorEq, Int.reduceBEq, Int.reduceBNe, Int.reduceLT, Int.reduceLE, Int.reduceAdd, Int.reduceSub, Int.reduceMul, Int.reduceNeg, Int.reduceEq, Int.reduceToNat, hs, hsI, at?, small_room, a0, a1, a2, a3, a4, a5]
              repeat' ((first | refine split_cond (fun hc => ?_) (fun hc => ?_) | refine split_yes (fun hc => ?_) (fun hc => ?_) | refine split_no (fun hc => ?_) (fun hc => ?_)) <;> simp -implicitDefEqProofs only [hc, ↓reduceIte, go_sem, Nat.reduceAdd, Nat.reduceSub, Nat.reduceMul, Nat.reduceBEq, Nat.reduceLeDiff, Nat.reduceLT, Nat.reduceEqDiff, reduceCtorEq, Int.reduceBEq, Int.reduceBNe, Int.reduceLT, Int.reduceLE, Int.reduceAdd, Int.reduceSub, Int.reduceMul, Int.reduceNeg, Int.reduceEq, Int.reduceToNat, hs, hsI, at?, small_room, a0, a1, a2, a3, a4, a5])
              rw [RL_eq]
              simp -implicitDefEqProofs only [↓reduceIte, go_sem, Nat.reduceAdd, Nat.reduceSub, Nat.reduceMul, Nat.reduceBEq, Nat.reduceLeDiff, Nat.reduceLT, Nat.reduceEqDiff, reduceCtorEq, Int.reduceBEq, Int.reduceBNe, Int.reduceLT, Int.reduceLE, Int.reduceAdd, Int.reduceSub, Int.reduceMul, Int.reduceNeg, Int.reduceEq, Int.reduceToNat, hs, hsI, at?, small_room, a0, a1, a2, a3, a4, a5]
              repeat' ((first | refine split_cond (fun hc => ?_) (fun hc => ?_) | refine split_yes (fun hc => ?_) (fun hc => ?_) | refine split_no (fun hc => ?_) (fun hc => ?_)) <;> simp -implicitDefEqProofs only [hc, ↓reduceIte, go_sem, Nat.reduceAdd, Nat.reduceSub, Nat.reduceMul, Nat.reduceBEq, Nat.reduceLeDiff, Nat.reduceLT, Nat.reduceEqDiff, reduceCtorEq, Int.reduceBEq, Int.reduceBNe, Int.reduceLT, Int.reduceLE, Int.reduceAdd, Int.reduceSub, Int.reduceMul, Int.reduceNeg, Int.reduceEq, Int.reduceToNat, hs, hsI, at?, small_room, a0, a1, a2, a3, a4, a5])
              rw [RL_eq]
              simp -implicitDefEqProofs only [↓reduceIte, go_sem, Nat.reduceAdd, Nat.reduceSub, Nat.reduceMul, Nat.reduceBEq, Nat.reduceLeDiff, Nat.reduceLT, Nat.reduceEqDiff, reduceCtorEq, Int.reduceBEq, Int.reduceBNe, Int.reduceLT, Int.reduceLE, Int.reduceAdd, Int.reduceSub, Int.reduceMul, Int.reduceNeg, Int.reduceEq, Int.reduceToNat, hs, hsI, at?, small_room, a0, a1, a2, a3, a4, a5]
              repeat' ((first | refine split_cond (fun hc => ?_) (fun hc => ?_) | refine split_yes (fun hc => ?_) (fun hc => ?_) | refine split_no (fun hc => ?_) (fun hc => ?_)) <;> simp -implicitDefEqProofs only [hc, ↓reduceIte, go_sem, Nat.reduceAdd, Nat.reduceSub, Nat.reduceMul, Nat.reduceBEq, Nat.reduceLeDiff, Nat.reduceLT, Nat.reduceEqDiff, reduceCtorEq, Int.reduceBEq, Int.reduceBNe, Int.reduceLT, Int.reduceLE, Int.reduceAdd, Int.reduceSub, Int.reduceMul, Int.reduceNeg, Int.reduceEq, Int.reduceToNat, hs, hsI, at?, small_room, a0, a1, a2, a3, a4, a5])
              rw [RL_eq]
              simp -implicitDefEqProofs only [↓reduceIte, go_sem, Nat.reduceAdd, Nat.reduceSub, Nat.reduceMul, Nat.reduceBEq, Nat.reduceLeDiff, Nat.reduceLT, Nat.reduceEqDiff, reduceCtorEq, Int.reduceBEq, Int.reduceBNe, Int.reduceLT, Int.reduceLE, Int.reduceAdd, Int.reduceSub, Int.reduceMul, Int.reduceNeg, Int.reduceEq, Int.reduceToNat, hs, hsI, at?, small_room, a0, a1, a2, a3, a4, a5]
              repeat' ((first | refine split_cond (fun hc => ?_) (fun hc => ?_) | refine split_yes (fun hc => ?_) (fun hc => ?_) | refine split_no (fun hc => ?_) (fun hc => ?_)) <;> simp -implicitDefEqProofs only [hc, ↓reduceIte, go_sem, Nat.reduceAdd, Nat.reduceSub, Nat.reduceMul, Nat.reduceBEq, Nat.reduceLeDiff, Nat.reduceLT, Nat.reduceEqDiff, reduceCtorEq, Int.reduceBEq, Int.reduceBNe, Int.reduceLT, Int.reduceLE, Int.reduceAdd, Int.reduceSub, Int.reduceMul, Int.reduceNeg, Int.reduceEq, Int.reduceToNat, hs, hsI, at?, small_room, a0, a1, a2, a3, a4, a5])
              rw [RL_eq]
              simp -implicitDefEqProofs only [↓reduceIte, go_sem, Nat.reduceAdd, Nat.reduceSub, Nat.reduceMul, Nat.reduceBEq, Nat.reduceLeDiff, Nat.reduceLT, Nat.reduceEqDiff, reduceCtorEq, Int.reduceBEq, Int.reduceBNe, Int.reduceLT, Int.reduceLE, Int.reduceAdd, Int.reduceSub, Int.reduceMul, Int.reduceNeg, Int.reduceEq, Int.reduceToNat, hs, hsI, at?, small_room, a0, a1, a2, a3, a4, a5]
              repeat' ((first | refine split_cond (fun hc => ?_) (fun hc => ?_) | refine split_yes (fun hc => ?_) (fun hc => ?_) | refine split_no (fun hc => ?_) (fun hc => ?_)) <;> simp -implicitDefEqProofs only [hc, ↓reduceIte, go_sem, Nat.reduceAdd, Nat.reduceSub, Nat.reduceMul, Nat.reduceBEq, Nat.reduceLeDiff, Nat.reduceLT, Nat.reduceEqDiff, reduceCtorEq, Int.reduceBEq, Int.reduceBNe, Int.reduceLT, Int.reduceLE, Int.reduceAdd, Int.reduceSub, Int.reduceMul, Int.reduceNeg, Int.reduceEq, Int.reduceToNat, hs, hsI, at?, small_room, a0, a1, a2, a3, a4, a5])
              rw [RL_eq]
              simp -implicitDefEqProofs only [↓reduceIte, go_sem, Nat.reduceAdd, Nat.reduceSub, Nat.reduceMul, Nat.reduceBEq, Nat.reduceLeDiff, Nat.reduceLT, Nat.reduceEqDiff, reduceCtorEq, Int.reduceBEq, Int.reduceBNe, Int.reduceLT, Int.reduceLE, Int.reduceAdd, Int.reduceSub, Int.reduceMul, Int.reduceNeg, Int.reduceEq, Int.reduceToNat, hs, hsI, at?, small_room, a0, a1, a2, a3, a4, a5]
              repeat' ((first | refine split_cond (fun hc => ?_) (fun hc => ?_) | refine split_yes (fun hc => ?_) (fun hc => ?_) | refine split_no (fun hc => ?_) (fun hc => ?_)) <;> simp -implicitDefEqProofs only [hc, ↓reduceIte, go_sem, Nat.reduceAdd, Nat.reduceSub, Nat.reduceMul, Nat.reduceBEq, Nat.reduceLeDiff, Nat.reduceLT, Nat.reduceEqDiff, reduceCtorEq, Int.reduceBEq, Int.reduceBNe, Int.reduceLT, Int.reduceLE, Int.reduceAdd, Int.reduceSub, Int.reduceMul, Int.reduceNeg, Int.reduceEq, Int.reduceToNat, hs, hsI, at?, small_room, a0, a1, a2, a3, a4, a5])
              rfl
            | some n5 =>
              have a5 := p_Atoi_ok (List.take 2 (List.drop 17 s)) n5 ((lt _ _).resolve_right (by omega)) h5
              have hsix := six_yes h0 h1 h2 h3 h4 h5
              have hv : dreadS s = if (dateV n0 n1 n2 n3 n4 n5).k = 0 ∨ dtextS (dateV n0 n1 n2 n3 n4 n5).n ≠ s then null else dateV n0 n1 n2 n3 n4 n5 := by unfold dreadS; rw [if_pos hs, hsix]
              have hd := r_Dated n0 n1 n2 n3 n4 n5
              rcases date_cases n0 n1 n2 n3 n4 n5 with hc | ⟨hk, hss, hr⟩
              · rw [hc] at hv hd
                have hv : dreadS s = null := by rw [hv]; rfl
                refine ⟨null, false, ?_, by rw [hv]; rfl, fun h => by simp at h⟩
                have kn : null.k = 0 := rfl
                rw [call_122]
                simp -implicitDefEqProofs only [↓reduceIte, go_sem, Nat.reduceAdd, Nat.reduceSub, Nat.reduceMul, Nat.reduceBEq, Nat.reduceLeDiff, Nat.reduceLT, Nat.reduceEqDiff, reduceCtorEq, Int.reduceBEq, Int.reduceBNe, Int.reduceLT, Int.reduceLE, Int.reduceAdd, Int.reduceSub, Int.reduceMul, Int.reduceNeg, Int.reduceEq, Int.reduceToNat, Tryz.f122, hs, hsI]
                repeat' ((first | refine split_cond (fun hc => ?_) (fun hc => ?_) | refine split_yes (fun hc => ?_) (fun hc => ?_) | refine split_no (fun hc => ?_) (fun hc => ?_)) <;> simp -implicitDefEqProofs only [hc, ↓reduceIte, go_sem, Nat.reduceAdd, Nat.reduceSub, Nat.reduceMul, Nat.reduceBEq, Nat.reduceLeDiff, Nat.reduceLT, Nat.reduceEqDiff, reduceCtorEq, Int.reduceBEq, Int.reduceBNe, Int.reduceLT, Int.reduceLE, Int.reduceAdd, Int.reduceSub, Int.reduceMul, Int.reduceNeg, Int.reduceEq, Int.reduceToNat, hs, hsI])
                rw [RL_eq]
                simp -implicitDefEqProofs only [↓reduceIte, go_sem, Nat.reduceAdd, Nat.reduceSub, Nat.reduceMul, Nat.reduceBEq, Nat.reduceLeDiff, Nat.reduceLT, Nat.reduceEqDiff, reduceCtorEq, Int.reduceBEq, Int.reduceBNe, Int.reduceLT, Int.reduceLE, Int.reduceAdd, Int.reduceSub, Int.reduceMul, Int.reduceNeg, Int.reduceEq, Int.reduceToNat, hs, hsI, at?, small_room, a0, a1, a2, a3, a4, a5]
                repeat' ((first | refine split_cond (fun hc => ?_) (fun hc => ?_) | refine split_yes (fun hc => ?_) (fun hc => ?_) | refine split_no (fun hc => ?_) (fun hc => ?_)) <;> simp -implicitDefEqProofs only [hc, ↓reduceIte, go_sem, Nat.reduceAdd, Nat.reduceSub, Nat.reduceMul, Nat.reduceBEq, Nat.reduceLeDiff, Nat.reduceLT, Nat.reduceEqDiff, reduceCtorEq, Int.reduceBEq, Int.reduceBNe, Int.reduceLT, Int.reduceLE, Int.reduceAdd, Int.reduceSub, Int.reduceMul, Int.reduceNeg, Int.reduceEq, Int.reduceToNat, hs, hsI, at?, small_room, a0, a1, a2, a3, a4, a5])
                rw [RL_eq]
                simp -implicitDefEqProofs only [↓reduceIte, go_sem, Nat.reduceAdd, Nat.reduceSub, Nat.reduceMul, Nat.reduceBEq, Nat.reduceLeDiff, Nat.reduceLT, Nat.reduceEqDiff, reduceCtorEq, Int.reduceBEq, Int.reduceBNe, Int.reduceLT, Int.reduceLE, Int.reduceAdd, Int.reduceSub, Int.reduceMul, Int.reduceNeg, Int.reduceEq, Int.reduceToNat, hs, hsI, at?, small_room, a0, a1, a2, a3, a4, a5]
                repeat' ((first | refine split_cond (fun hc => ?_) (fun hc => ?_) | refine split_yes (fun hc => ?_) (fun hc => ?_) | refine split_no (fun hc => ?_) (fun hc => ?_)) <;> simp -implicitDefEqProofs only [hc, ↓reduceIte, go_sem, Nat.reduceAdd, Nat.reduceSub, Nat.reduceMul, Nat.reduceBEq, Nat.reduceLeDiff, Nat.reduceLT, Nat.reduceEqDiff, reduceCtorEq, Int.reduceBEq, Int.reduceBNe, Int.reduceLT, Int.reduceLE, Int.reduceAdd, Int.reduceSub, Int.reduceMul, Int.reduceNeg, Int.reduceEq, Int.reduceToNat, hs, hsI, at?, small_room, a0, a1, a2, a3, a4, a5])
                rw [RL_eq]
                simp -implicitDefEqProofs only [↓reduceIte, go_sem, Nat.reduceAdd, Nat.reduceSub, Nat.reduceMul, Nat.reduceBEq, Nat.reduceLeDiff, Nat.reduceLT, Nat.reduceEqDiff, reduceCtorEq, Int.reduceBEq, Int.reduceBNe, Int.reduceLT, Int.reduceLE, Int.reduceAdd, Int.reduceSub, Int.reduceMul, Int.reduceNeg, Int.reduceEq, Int.reduceToNat, hs, hsI, at?, small_room, a0, a1, a2, a3, a4, a5]
                repeat' ((first | refine split_cond (fun hc => ?_) (fun hc => ?_) | refine split_yes (fun hc => ?_) (fun hc => ?_) | refine split_no (fun hc => ?_) (fun hc => ?_)) <;> simp -implicitDefEqProofs only [hc, ↓reduceIte, go_sem, Nat.reduceAdd, Nat.reduceSub, Nat.reduceMul, Nat.reduceBEq, Nat.reduceLeDiff, Nat.reduceLT, Nat.reduceEqDiff, reduceCtorEq, Int.reduceBEq, Int.reduceBNe, Int.reduceLT, Int.reduceLE, Int.reduceAdd, Int.reduceSub, Int.reduceMul, Int.reduceNeg, Int.reduceEq, Int.reduceToNat, hs, hsI, at?, small_room, a0, a1, a2, a3, a4, a5])
                rw [RL_eq]
                simp -implicitDefEqProofs only [↓reduceIte, go_sem, Nat.reduceAdd, Nat.reduceSub, Nat.reduceMul, Nat.reduceBEq, Nat.reduceLeDiff, Nat.reduceLT, Nat.reduceEqDiff, reduceCtorEq, Int.reduceBEq, Int.reduceBNe, Int.reduceLT, Int.reduceLE, Int.reduceAdd, Int.reduceSub, Int.reduceMul, Int.reduceNeg, Int.reduceEq, Int.reduceToNat, hs, hsI, at?, small_room, a0, a1, a2, a3, a4, a5]
                repeat' ((first | refine split_cond (fun hc => ?_) (fun hc => ?_) | refine split_yes (fun hc => ?_) (fun hc => ?_) | refine split_no (fun hc => ?_) (fun hc => ?_)) <;> simp -implicitDefEqProofs only [hc, ↓reduceIte, go_sem, Nat.reduceAdd, Nat.reduceSub, Nat.reduceMul, Nat.reduceBEq, Nat.reduceLeDiff, Nat.reduceLT, Nat.reduceEqDiff, reduceCtorEq, Int.reduceBEq, Int.reduceBNe, Int.reduceLT, Int.reduceLE, Int.reduceAdd, Int.reduceSub, Int.reduceMul, Int.reduceNeg, Int.reduceEq, Int.reduceToNat, hs, hsI, at?, small_room, a0, a1, a2, a3, a4, a5])
                rw [RL_eq]
                simp -implicitDefEqProofs only [↓reduceIte, go_sem, Nat.reduceAdd, Nat.reduceSub, Nat.reduceMul, Nat.reduceBEq, Nat.reduceLeDiff, Nat.reduceLT, Nat.reduceEqDiff, reduceCtorEq, Int.reduceBEq, Int.reduceBNe, Int.reduceLT, Int.reduceLE, Int.reduceAdd, Int.reduceSub, Int.reduceMul, Int.reduceNeg, Int.reduceEq, Int.reduceToNat, hs, hsI, at?, small_room, a0, a1, a2, a3, a4, a5]
                repeat' ((first | refine split_cond (fun hc => ?_) (fun hc => ?_) | refine split_yes (fun hc => ?_) (fun hc => ?_) | refine split_no (fun hc => ?_) (fun hc => ?_)) <;> simp -implicitDefEqProofs only [hc, ↓reduceIte, go_sem, Nat.reduceAdd, Nat.reduceSub, Nat.reduceMul, Nat.reduceBEq, Nat.reduceLeDiff, Nat.reduceLT, Nat.reduceEqDiff, reduceCtorEq, Int.reduceBEq, Int.reduceBNe, Int.reduceLT, Int.reduceLE, Int.reduceAdd, Int.reduceSub, Int.reduceMul, Int.reduceNeg, Int.reduceEq, Int.reduceToNat, hs, hsI, at?, small_room, a0, a1, a2, a3, a4, a5])
                rw [RL_eq]
                simp -implicitDefEqProofs only [↓reduceIte, go_sem, Nat.reduceAdd, Nat.reduceSub, Nat.reduceMul, Nat.reduceBEq, Nat.reduceLeDiff, Nat.reduceLT, Nat.reduceEqDiff, reduceCtorEq, Int.reduceBEq, Int.reduceBNe, Int.reduceLT, Int.reduceLE, Int.reduceAdd, Int.reduceSub, Int.reduceMul, Int.reduceNeg, Int.reduceEq, Int.reduceToNat, hs, hsI, at?, small_room, a0, a1, a2, a3, a4, a5]
                repeat' ((first | refine split_cond (fun hc => ?_) (fun hc => ?_) | refine split_yes (fun hc => ?_) (fun hc => ?_) | refine split_no (fun hc => ?_) (fun hc => ?_)) <;> simp -implicitDefEqProofs only [hc, ↓reduceIte, go_sem, Nat.reduceAdd, Nat.reduceSub, Nat.reduceMul, Nat.reduceBEq, Nat.reduceLeDiff, Nat.reduceLT, Nat.reduceEqDiff, reduceCtorEq, Int.reduceBEq, Int.reduceBNe, Int.reduceLT, Int.reduceLE, Int.reduceAdd, Int.reduceSub, Int.reduceMul, Int.reduceNeg, Int.reduceEq, Int.reduceToNat, hs, hsI, at?, small_room, a0, a1, a2, a3, a4, a5])
                rw [RL_eq]
                simp -implicitDefEqProofs only [↓reduceIte, go_sem, Nat.reduceAdd, Nat.reduceSub, Nat.reduceMul, Nat.reduceBEq, Nat.reduceLeDiff, Nat.reduceLT, Nat.reduceEqDiff, reduceCtorEq, Int.reduceBEq, Int.reduceBNe, Int.reduceLT, Int.reduceLE, Int.reduceAdd, Int.reduceSub, Int.reduceMul, Int.reduceNeg, Int.reduceEq, Int.reduceToNat, hs, hsI, at?, small_room, a0, a1, a2, a3, a4, a5, hd, kn]
                repeat' ((first | refine split_cond (fun hc => ?_) (fun hc => ?_) | refine split_yes (fun hc => ?_) (fun hc => ?_) | refine split_no (fun hc => ?_) (fun hc => ?_)) <;> simp -implicitDefEqProofs only [hc, ↓reduceIte, go_sem, Nat.reduceAdd, Nat.reduceSub, Nat.reduceMul, Nat.reduceBEq, Nat.reduceLeDiff, Nat.reduceLT, Nat.reduceEqDiff, reduceCtorEq, Int.reduceBEq, Int.reduceBNe, Int.reduceLT, Int.reduceLE, Int.reduceAdd, Int.reduceSub, Int.reduceMul, Int.reduceNeg, Int.reduceEq, Int.reduceToNat, hs, hsI, at?, small_room, a0, a1, a2, a3, a4, a5, hd, kn])
                all_goals rfl
              · have hb := right_moment hk hr
                have ht := r_MomentText (dateV n0 n1 n2 n3 n4 n5).n hb.1 hb.2
                by_cases hq : dtextS (dateV n0 n1 n2 n3 n4 n5).n = s
                · have hv : dreadS s = dateV n0 n1 n2 n3 n4 n5 := by rw [hv, if_neg (fun h => h.elim (fun h => by rw [hk] at h; simp at h) (fun h => h hq))]
                  have hq2 : (dtextS (dateV n0 n1 n2 n3 n4 n5).n == s) = true := by simp [hq]
                  refine ⟨dateV n0 n1 n2 n3 n4 n5, true, ?_, by rw [hv, hk]; rfl, fun _ => hv.symm⟩
                  rw [call_122]
                  simp -implicitDefEqProofs only [↓reduceIte, go_sem, Nat.reduceAdd, Nat.reduceSub, Nat.reduceMul, Nat.reduceBEq, Nat.reduceLeDiff, Nat.reduceLT, Nat.reduceEqDiff, reduceCtorEq, Int.reduceBEq, Int.reduceBNe, Int.reduceLT, Int.reduceLE, Int.reduceAdd, Int.reduceSub, Int.reduceMul, Int.reduceNeg, Int.reduceEq, Int.reduceToNat, Tryz.f122, hs, hsI]
                  repeat' ((first | refine split_cond (fun hc => ?_) (fun hc => ?_) | refine split_yes (fun hc => ?_) (fun hc => ?_) | refine split_no (fun hc => ?_) (fun hc => ?_)) <;> simp -implicitDefEqProofs only [hc, ↓reduceIte, go_sem, Nat.reduceAdd, Nat.reduceSub, Nat.reduceMul, Nat.reduceBEq, Nat.reduceLeDiff, Nat.reduceLT, Nat.reduceEqDiff, reduceCtorEq, Int.reduceBEq, Int.reduceBNe, Int.reduceLT, Int.reduceLE, Int.reduceAdd, Int.reduceSub, Int.reduceMul, Int.reduceNeg, Int.reduceEq, Int.reduceToNat, hs, hsI])
                  rw [RL_eq]
                  simp -implicitDefEqProofs only [↓reduceIte, go_sem, Nat.reduceAdd, Nat.reduceSub, Nat.reduceMul, Nat.reduceBEq, Nat.reduceLeDiff, Nat.reduceLT, Nat.reduceEqDiff, reduceCtorEq, Int.reduceBEq, Int.reduceBNe, Int.reduceLT, Int.reduceLE, Int.reduceAdd, Int.reduceSub, Int.reduceMul, Int.reduceNeg, Int.reduceEq, Int.reduceToNat, hs, hsI, at?, small_room, a0, a1, a2, a3, a4, a5]
                  repeat' ((first | refine split_cond (fun hc => ?_) (fun hc => ?_) | refine split_yes (fun hc => ?_) (fun hc => ?_) | refine split_no (fun hc => ?_) (fun hc => ?_)) <;> simp -implicitDefEqProofs only [hc, ↓reduceIte, go_sem, Nat.reduceAdd, Nat.reduceSub, Nat.reduceMul, Nat.reduceBEq, Nat.reduceLeDiff, Nat.reduceLT, Nat.reduceEqDiff, reduceCtorEq, Int.reduceBEq, Int.reduceBNe, Int.reduceLT, Int.reduceLE, Int.reduceAdd, Int.reduceSub, Int.reduceMul, Int.reduceNeg, Int.reduceEq, Int.reduceToNat, hs, hsI, at?, small_room, a0, a1, a2, a3, a4, a5])
                  rw [RL_eq]
                  simp -implicitDefEqProofs only [↓reduceIte, go_sem, Nat.reduceAdd, Nat.reduceSub, Nat.reduceMul, Nat.reduceBEq, Nat.reduceLeDiff, Nat.reduceLT, Nat.reduceEqDiff, reduceCtorEq, Int.reduceBEq, Int.reduceBNe, Int.reduceLT, Int.reduceLE, Int.reduceAdd, Int.reduceSub, Int.reduceMul, Int.reduceNeg, Int.reduceEq, Int.reduceToNat, hs, hsI, at?, small_room, a0, a1, a2, a3, a4, a5]
                  repeat' ((first | refine split_cond (fun hc => ?_) (fun hc => ?_) | refine split_yes (fun hc => ?_) (fun hc => ?_) | refine split_no (fun hc => ?_) (fun hc => ?_)) <;> simp -implicitDefEqProofs only [hc, ↓reduceIte, go_sem, Nat.reduceAdd, Nat.reduceSub, Nat.reduceMul, Nat.reduceBEq, Nat.reduceLeDiff, Nat.reduceLT, Nat.reduceEqDiff, reduceCtorEq, Int.reduceBEq, Int.reduceBNe, Int.reduceLT, Int.reduceLE, Int.reduceAdd, Int.reduceSub, Int.reduceMul, Int.reduceNeg, Int.reduceEq, Int.reduceToNat, hs, hsI, at?, small_room, a0, a1, a2, a3, a4, a5])
                  rw [RL_eq]
                  simp -implicitDefEqProofs only [↓reduceIte, go_sem, Nat.reduceAdd, Nat.reduceSub, Nat.reduceMul, Nat.reduceBEq, Nat.reduceLeDiff, Nat.reduceLT, Nat.reduceEqDiff, reduceCtorEq, Int.reduceBEq, Int.reduceBNe, Int.reduceLT, Int.reduceLE, Int.reduceAdd, Int.reduceSub, Int.reduceMul, Int.reduceNeg, Int.reduceEq, Int.reduceToNat, hs, hsI, at?, small_room, a0, a1, a2, a3, a4, a5]
                  repeat' ((first | refine split_cond (fun hc => ?_) (fun hc => ?_) | refine split_yes (fun hc => ?_) (fun hc => ?_) | refine split_no (fun hc => ?_) (fun hc => ?_)) <;> simp -implicitDefEqProofs only [hc, ↓reduceIte, go_sem, Nat.reduceAdd, Nat.reduceSub, Nat.reduceMul, Nat.reduceBEq, Nat.reduceLeDiff, Nat.reduceLT, Nat.reduceEqDiff, reduceCtorEq, Int.reduceBEq, Int.reduceBNe, Int.reduceLT, Int.reduceLE, Int.reduceAdd, Int.reduceSub, Int.reduceMul, Int.reduceNeg, Int.reduceEq, Int.reduceToNat, hs, hsI, at?, small_room, a0, a1, a2, a3, a4, a5])
                  rw [RL_eq]
                  simp -implicitDefEqProofs only [↓reduceIte, go_sem, Nat.reduceAdd, Nat.reduceSub, Nat.reduceMul, Nat.reduceBEq, Nat.reduceLeDiff, Nat.reduceLT, Nat.reduceEqDiff, reduceCtorEq, Int.reduceBEq, Int.reduceBNe, Int.reduceLT, Int.reduceLE, Int.reduceAdd, Int.reduceSub, Int.reduceMul, Int.reduceNeg, Int.reduceEq, Int.reduceToNat, hs, hsI, at?, small_room, a0, a1, a2, a3, a4, a5]
                  repeat' ((first | refine split_cond (fun hc => ?_) (fun hc => ?_) | refine split_yes (fun hc => ?_) (fun hc => ?_) | refine split_no (fun hc => ?_) (fun hc => ?_)) <;> simp -implicitDefEqProofs only [hc, ↓reduceIte, go_sem, Nat.reduceAdd, Nat.reduceSub, Nat.reduceMul, Nat.reduceBEq, Nat.reduceLeDiff, Nat.reduceLT, Nat.reduceEqDiff, reduceCtorEq, Int.reduceBEq, Int.reduceBNe, Int.reduceLT, Int.reduceLE, Int.reduceAdd, Int.reduceSub, Int.reduceMul, Int.reduceNeg, Int.reduceEq, Int.reduceToNat, hs, hsI, at?, small_room, a0, a1, a2, a3, a4, a5])
                  rw [RL_eq]
                  simp -implicitDefEqProofs only [↓reduceIte, go_sem, Nat.reduceAdd, Nat.reduceSub, Nat.reduceMul, Nat.reduceBEq, Nat.reduceLeDiff, Nat.reduceLT, Nat.reduceEqDiff, reduceCtorEq, Int.reduceBEq, Int.reduceBNe, Int.reduceLT, Int.reduceLE, Int.reduceAdd, Int.reduceSub, Int.reduceMul, Int.reduceNeg, Int.reduceEq, Int.reduceToNat, hs, hsI, at?, small_room, a0, a1, a2, a3, a4, a5]
                  repeat' ((first | refine split_cond (fun hc => ?_) (fun hc => ?_) | refine split_yes (fun hc => ?_) (fun hc => ?_) | refine split_no (fun hc => ?_) (fun hc => ?_)) <;> simp -implicitDefEqProofs only [hc, ↓reduceIte, go_sem, Nat.reduceAdd, Nat.reduceSub, Nat.reduceMul, Nat.reduceBEq, Nat.reduceLeDiff, Nat.reduceLT, Nat.reduceEqDiff, reduceCtorEq, Int.reduceBEq, Int.reduceBNe, Int.reduceLT, Int.reduceLE, Int.reduceAdd, Int.reduceSub, Int.reduceMul, Int.reduceNeg, Int.reduceEq, Int.reduceToNat, hs, hsI, at?, small_room, a0, a1, a2, a3, a4, a5])
                  rw [RL_eq]
                  simp -implicitDefEqProofs only [↓reduceIte, go_sem, Nat.reduceAdd, Nat.reduceSub, Nat.reduceMul, Nat.reduceBEq, Nat.reduceLeDiff, Nat.reduceLT, Nat.reduceEqDiff, reduceCtorEq, Int.reduceBEq, Int.reduceBNe, Int.reduceLT, Int.reduceLE, Int.reduceAdd, Int.reduceSub, Int.reduceMul, Int.reduceNeg, Int.reduceEq, Int.reduceToNat, hs, hsI, at?, small_room, a0, a1, a2, a3, a4, a5]
                  repeat' ((first | refine split_cond (fun hc => ?_) (fun hc => ?_) | refine split_yes (fun hc => ?_) (fun hc => ?_) | refine split_no (fun hc => ?_) (fun hc => ?_)) <;> simp -implicitDefEqProofs only [hc, ↓reduceIte, go_sem, Nat.reduceAdd, Nat.reduceSub, Nat.reduceMul, Nat.reduceBEq, Nat.reduceLeDiff, Nat.reduceLT, Nat.reduceEqDiff, reduceCtorEq, Int.reduceBEq, Int.reduceBNe, Int.reduceLT, Int.reduceLE, Int.reduceAdd, Int.reduceSub, Int.reduceMul, Int.reduceNeg, Int.reduceEq, Int.reduceToNat, hs, hsI, at?, small_room, a0, a1, a2, a3, a4, a5])
                  rw [RL_eq]
                  simp -implicitDefEqProofs only [↓reduceIte, go_sem, Nat.reduceAdd, Nat.reduceSub, Nat.reduceMul, Nat.reduceBEq, Nat.reduceLeDiff, Nat.reduceLT, Nat.reduceEqDiff, reduceCtorEq, Int.reduceBEq, Int.reduceBNe, Int.reduceLT, Int.reduceLE, Int.reduceAdd, Int.reduceSub, Int.reduceMul, Int.reduceNeg, Int.reduceEq, Int.reduceToNat, hs, hsI, at?, small_room, a0, a1, a2, a3, a4, a5, hd, hk, ht, hq2]
                  repeat' ((first | refine split_cond (fun hc => ?_) (fun hc => ?_) | refine split_yes (fun hc => ?_) (fun hc => ?_) | refine split_no (fun hc => ?_) (fun hc => ?_)) <;> simp -implicitDefEqProofs only [hc, ↓reduceIte, go_sem, Nat.reduceAdd, Nat.reduceSub, Nat.reduceMul, Nat.reduceBEq, Nat.reduceLeDiff, Nat.reduceLT, Nat.reduceEqDiff, reduceCtorEq, Int.reduceBEq, Int.reduceBNe, Int.reduceLT, Int.reduceLE, Int.reduceAdd, Int.reduceSub, Int.reduceMul, Int.reduceNeg, Int.reduceEq, Int.reduceToNat, hs, hsI, at?, small_room, a0, a1, a2, a3, a4, a5, hd, hk, ht, hq2])
                · have hv : dreadS s = null := by rw [hv, if_pos (.inr hq)]
                  have hq2 : (dtextS (dateV n0 n1 n2 n3 n4 n5).n == s) = false := by simpa using hq
                  refine ⟨dateV n0 n1 n2 n3 n4 n5, false, ?_, by rw [hv]; rfl, fun h => by simp at h⟩
                  rw [call_122]
                  simp -implicitDefEqProofs only [↓reduceIte, go_sem, Nat.reduceAdd, Nat.reduceSub, Nat.reduceMul, Nat.reduceBEq, Nat.reduceLeDiff, Nat.reduceLT, Nat.reduceEqDiff, reduceCtorEq, Int.reduceBEq, Int.reduceBNe, Int.reduceLT, Int.reduceLE, Int.reduceAdd, Int.reduceSub, Int.reduceMul, Int.reduceNeg, Int.reduceEq, Int.reduceToNat, Tryz.f122, hs, hsI]
                  repeat' ((first | refine split_cond (fun hc => ?_) (fun hc => ?_) | refine split_yes (fun hc => ?_) (fun hc => ?_) | refine split_no (fun hc => ?_) (fun hc => ?_)) <;> simp -implicitDefEqProofs only [hc, ↓reduceIte, go_sem, Nat.reduceAdd, Nat.reduceSub, Nat.reduceMul, Nat.reduceBEq, Nat.reduceLeDiff, Nat.reduceLT, Nat.reduceEqDiff, reduceCtorEq, Int.reduceBEq, Int.reduceBNe, Int.reduceLT, Int.reduceLE, Int.reduceAdd, Int.reduceSub, Int.reduceMul, Int.reduceNeg, Int.reduceEq, Int.reduceToNat, hs, hsI])
                  rw [RL_eq]
                  simp -implicitDefEqProofs only [↓reduceIte, go_sem, Nat.reduceAdd, Nat.reduceSub, Nat.reduceMul, Nat.reduceBEq, Nat.reduceLeDiff, Nat.reduceLT, Nat.reduceEqDiff, reduceCtorEq, Int.reduceBEq, Int.reduceBNe, Int.reduceLT, Int.reduceLE, Int.reduceAdd, Int.reduceSub, Int.reduceMul, Int.reduceNeg, Int.reduceEq, Int.reduceToNat, hs, hsI, at?, small_room, a0, a1, a2, a3, a4, a5]
                  repeat' ((first | refine split_cond (fun hc => ?_) (fun hc => ?_) | refine split_yes (fun hc => ?_) (fun hc => ?_) | refine split_no (fun hc => ?_) (fun hc => ?_)) <;> simp -implicitDefEqProofs only [hc, ↓reduceIte, go_sem, Nat.reduceAdd, Nat.reduceSub, Nat.reduceMul, Nat.reduceBEq, Nat.reduceLeDiff, Nat.reduceLT, Nat.reduceEqDiff, reduceCtorEq, Int.reduceBEq, Int.reduceBNe, Int.reduceLT, Int.reduceLE, Int.reduceAdd, Int.reduceSub, Int.reduceMul, Int.reduceNeg, Int.reduceEq, Int.reduceToNat, hs, hsI, at?, small_room, a0, a1, a2, a3, a4, a5])
                  rw [RL_eq]
                  simp -implicitDefEqProofs only [↓reduceIte, go_sem, Nat.reduceAdd, Nat.reduceSub, Nat.reduceMul, Nat.reduceBEq, Nat.reduceLeDiff, Nat.reduceLT, Nat.reduceEqDiff, reduceCtorEq, Int.reduceBEq, Int.reduceBNe, Int.reduceLT, Int.reduceLE, Int.reduceAdd, Int.reduceSub, Int.reduceMul, Int.reduceNeg, Int.reduceEq, Int.reduceToNat, hs, hsI, at?, small_room, a0, a1, a2, a3, a4, a5]
                  repeat' ((first | refine split_cond (fun hc => ?_) (fun hc => ?_) | refine split_yes (fun hc => ?_) (fun hc => ?_) | refine split_no (fun hc => ?_) (fun hc => ?_)) <;> simp -implicitDefEqProofs only [hc, ↓reduceIte, go_sem, Nat.reduceAdd, Nat.reduceSub, Nat.reduceMul, Nat.reduceBEq, Nat.reduceLeDiff, Nat.reduceLT, Nat.reduceEqDiff, reduceCtorEq, Int.reduceBEq, Int.reduceBNe, Int.reduceLT, Int.reduceLE, Int.reduceAdd, Int.reduceSub, Int.reduceMul, Int.reduceNeg, Int.reduceEq, Int.reduceToNat, hs, hsI, at?, small_room, a0, a1, a2, a3, a4, a5])
                  rw [RL_eq]
                  simp -implicitDefEqProofs only [↓reduceIte, go_sem, Nat.reduceAdd, Nat.reduceSub, Nat.reduceMul, Nat.reduceBEq, Nat.reduceLeDiff, Nat.reduceLT, Nat.reduceEqDiff, reduceCtorEq, Int.reduceBEq, Int.reduceBNe, Int.reduceLT, Int.reduceLE, Int.reduceAdd, Int.reduceSub, Int.reduceMul, Int.reduceNeg, Int.reduceEq, Int.reduceToNat, hs, hsI, at?, small_room, a0, a1, a2, a3, a4, a5]
                  repeat' ((first | refine split_cond (fun hc => ?_) (fun hc => ?_) | refine split_yes (fun hc => ?_) (fun hc => ?_) | refine split_no (fun hc => ?_) (fun hc => ?_)) <;> simp -implicitDefEqProofs only [hc, ↓reduceIte, go_sem, Nat.reduceAdd, Nat.reduceSub, Nat.reduceMul, Nat.reduceBEq, Nat.reduceLeDiff, Nat.reduceLT, Nat.reduceEqDiff, reduceCtorEq, Int.reduceBEq, Int.reduceBNe, Int.reduceLT, Int.reduceLE, Int.reduceAdd, Int.reduceSub, Int.reduceMul, Int.reduceNeg, Int.reduceEq, Int.reduceToNat, hs, hsI, at?, small_room, a0, a1, a2, a3, a4, a5])
                  rw [RL_eq]
                  simp -implicitDefEqProofs only [↓reduceIte, go_sem, Nat.reduceAdd, Nat.reduceSub, Nat.reduceMul, Nat.reduceBEq, Nat.reduceLeDiff, Nat.reduceLT, Nat.reduceEqDiff, reduceCtorEq, Int.reduceBEq, Int.reduceBNe, Int.reduceLT, Int.reduceLE, Int.reduceAdd, Int.reduceSub, Int.reduceMul, Int.reduceNeg, Int.reduceEq, Int.reduceToNat, hs, hsI, at?, small_room, a0, a1, a2, a3, a4, a5]
                  repeat' ((first | refine split_cond (fun hc => ?_) (fun hc => ?_) | refine split_yes (fun hc => ?_) (fun hc => ?_) | refine split_no (fun hc => ?_) (fun hc => ?_)) <;> simp -implicitDefEqProofs only [hc, ↓reduceIte, go_sem, Nat.reduceAdd, Nat.reduceSub, Nat.reduceMul, Nat.reduceBEq, Nat.reduceLeDiff, Nat.reduceLT, Nat.reduceEqDiff, reduceCtorEq, Int.reduceBEq, Int.reduceBNe, Int.reduceLT, Int.reduceLE, Int.reduceAdd, Int.reduceSub, Int.reduceMul, Int.reduceNeg, Int.reduceEq, Int.reduceToNat, hs, hsI, at?, small_room, a0, a1, a2, a3, a4, a5])
                  rw [RL_eq]
                  simp -implicitDefEqProofs only [↓reduceIte, go_sem, Nat.reduceAdd, Nat.reduceSub, Nat.reduceMul, Nat.reduceBEq, Nat.reduceLeDiff, Nat.reduceLT, Nat.reduceEqDiff, reduceCtorEq, Int.reduceBEq, Int.reduceBNe, Int.reduceLT, Int.reduceLE, Int.reduceAdd, Int.reduceSub, Int.reduceMul, Int.reduceNeg, Int.reduceEq, Int.reduceToNat, hs, hsI, at?, small_room, a0, a1, a2, a3, a4, a5]
                  repeat' ((first | refine split_cond (fun hc => ?_) (fun hc => ?_) | refine split_yes (fun hc => ?_) (fun hc => ?_) | refine split_no (fun hc => ?_) (fun hc => ?_)) <;> simp -implicitDefEqProofs only [hc, ↓reduceIte, go_sem, Nat.reduceAdd, Nat.reduceSub, Nat.reduceMul, Nat.reduceBEq, Nat.reduceLeDiff, Nat.reduceLT, Nat.reduceEqDiff, reduceCtorEq, Int.reduceBEq, Int.reduceBNe, Int.reduceLT, Int.reduceLE, Int.reduceAdd, Int.reduceSub, Int.reduceMul, Int.reduceNeg, Int.reduceEq, Int.reduceToNat, hs, hsI, at?, small_room, a0, a1, a2, a3, a4, a5])
                  rw [RL_eq]
                  simp -implicitDefEqProofs only [↓reduceIte, go_sem, Nat.reduceAdd, Nat.reduceSub, Nat.reduceMul, Nat.reduceBEq, Nat.reduceLeDiff, Nat.reduceLT, Nat.reduceEqDiff, reduceCtorEq, Int.reduceBEq, Int.reduceBNe, Int.reduceLT, Int.reduceLE, Int.reduceAdd, Int.reduceSub, Int.reduceMul, Int.reduceNeg, Int.reduceEq, Int.reduceToNat, hs, hsI, at?, small_room, a0, a1, a2, a3, a4, a5]
                  repeat' ((first | refine split_cond (fun hc => ?_) (fun hc => ?_) | refine split_yes (fun hc => ?_) (fun hc => ?_) | refine split_no (fun hc => ?_) (fun hc => ?_)) <;> simp -implicitDefEqProofs only [hc, ↓reduceIte, go_sem, Nat.reduceAdd, Nat.reduceSub, Nat.reduceMul, Nat.reduceBEq, Nat.reduceLeDiff, Nat.reduceLT, Nat.reduceEqDiff, reduceCtorEq, Int.reduceBEq, Int.reduceBNe, Int.reduceLT, Int.reduceLE, Int.reduceAdd, Int.reduceSub, Int.reduceMul, Int.reduceNeg, Int.reduceEq, Int.reduceToNat, hs, hsI, at?, small_room, a0, a1, a2, a3, a4, a5])
                  rw [RL_eq]
                  simp -implicitDefEqProofs only [↓reduceIte, go_sem, Nat.reduceAdd, Nat.reduceSub, Nat.reduceMul, Nat.reduceBEq, Nat.reduceLeDiff, Nat.reduceLT, Nat.reduceEqDiff, reduceCtorEq, Int.reduceBEq, Int.reduceBNe, Int.reduceLT, Int.reduceLE, Int.reduceAdd, Int.reduceSub, Int.reduceMul, Int.reduceNeg, Int.reduceEq, Int.reduceToNat, hs, hsI, at?, small_room, a0, a1, a2, a3, a4, a5, hd, hk, ht, hq2]
                  repeat' ((first | refine split_cond (fun hc => ?_) (fun hc => ?_) | refine split_yes (fun hc => ?_) (fun hc => ?_) | refine split_no (fun hc => ?_) (fun hc => ?_)) <;> simp -implicitDefEqProofs only [hc, ↓reduceIte, go_sem, Nat.reduceAdd, Nat.reduceSub, Nat.reduceMul, Nat.reduceBEq, Nat.reduceLeDiff, Nat.reduceLT, Nat.reduceEqDiff, reduceCtorEq, Int.reduceBEq, Int.reduceBNe, Int.reduceLT, Int.reduceLE, Int.reduceAdd, Int.reduceSub, Int.reduceMul, Int.reduceNeg, Int.reduceEq, Int.reduceToNat, hs, hsI, at?, small_room, a0, a1, a2, a3, a4, a5, hd, hk, ht, hq2])
theorem p_HasPrefix (s p : List UInt8) : R K (.call 116 [.str s, .str p] []) = some (.bool (Lib.hasPrefix s p), []) := R_prim rfl
theorem p_TrimPrefix (s p : List UInt8) : R K (.call 123 [.str s, .str p] []) = some (.str (Lib.trimPrefix s p), []) := R_prim rfl
theorem u8_39 (c : UInt8) : (((c.toNat : Nat) : Int) == 39) = (c == 39) := u8_lit c 39 (by omega)
theorem c_candidate (s : List UInt8) (hs : s.length ≤ 10000000) : R K (.call 54 [.str s] []) = some (enc (candS s), []) := by
  by_cases h1 : s = bTrue
  · have e : candS s = boolV true := by rw [h1]; exact cand_true
    have hb : (s == bTrue) = true := by simp [h1]
    rw [e]
    rw [call_54]
    simp -implicitDefEqProofs only [↓reduceIte, go_sem, Nat.reduceAdd, Nat.reduceSub, Nat.reduceMul, Nat.reduceBEq, Nat.reduceLeDiff, Nat.reduceLT, Nat.reduceEqDiff, reduceCtorEq, Int.reduceBEq, Int.reduceBNe, Int.reduceLT, Int.reduceLE, Int.reduceAdd, Int.reduceSub, Int.reduceMul, Int.reduceNeg, Int.reduceEq, Int.reduceToNat, Tryz.f54, hb, c_boolean]
    repeat' ((first | refine split_cond (fun hc => ?_) (fun hc => ?_) | refine split_yes (fun hc => ?_) (fun hc => ?_) | refine split_no (fun hc => ?_) (fun hc => ?_)) <;> simp -implicitDefEqProofs only [hc, ↓reduceIte, go_sem, Nat.reduceAdd, Nat.reduceSub, Nat.reduceMul, Nat.reduceBEq, Nat.reduceLeDiff, Nat.reduceLT, Nat.reduceEqDiff, reduceCtorEq, Int.reduceBEq, Int.reduceBNe, Int.reduceLT, Int.reduceLE, Int.reduceAdd, Int.reduceSub, Int.reduceMul, Int.reduceNeg, Int.reduceEq, Int.reduceToNat, hb, c_boolean])
  by_cases h2 : s = bFalse
  · have e : candS s = boolV false := by rw [h2]; exact cand_false
    have hb : (s == bTrue) = false := by simpa using h1
    have hb2 : (s == bFalse) = true := by simp [h2]
    rw [e]
    rw [call_54]
    simp -implicitDefEqProofs only [↓reduceIte, go_sem, Nat.reduceAdd, Nat.reduceSub, Nat.reduceMul, Nat.reduceBEq, Nat.reduceLeDiff, Nat.reduceLT, Nat.reduceEqDiff, reduceCtorEq, Int.reduceBEq, Int.reduceBNe, Int.reduceLT, Int.reduceLE, Int.reduceAdd, Int.reduceSub, Int.reduceMul, Int.reduceNeg, Int.reduceEq, Int.reduceToNat, Tryz.f54, hb, hb2, c_boolean]
    repeat' ((first | refine split_cond (fun hc => ?_) (fun hc => ?_) | refine split_yes (fun hc => ?_) (fun hc => ?_) | refine split_no (fun hc => ?_) (fun hc => ?_)) <;> simp -implicitDefEqProofs only [hc, ↓reduceIte, go_sem, Nat.reduceAdd, Nat.reduceSub, Nat.reduceMul, Nat.reduceBEq, Nat.reduceLeDiff, Nat.reduceLT, Nat.reduceEqDiff, reduceCtorEq, Int.reduceBEq, Int.reduceBNe, Int.reduceLT, Int.reduceLE, Int.reduceAdd, Int.reduceSub, Int.reduceMul, Int.reduceNeg, Int.reduceEq, Int.reduceToNat, hb, hb2, c_boolean])
  have hb : (s == bTrue) = false := by simpa using h1
  have hb2 : (s == bFalse) = false := by simpa using h2
  have hn : ¬ (s = bTrue ∨ s = bFalse) := fun h => h.elim h1 h2
  -- what is behind the quotes
  have tailEq : ¬ (2 ≤ s.length ∧ s[0]? = some 39 ∧ s[s.length - 1]? = some 39) → candS s = (if Lib.hasPrefix s [64] = true then dreadS (s.drop 1) else match atoiN s with
    | some n => ⟨2, n, []⟩
    | none => null) := fun hq => by unfold candS; rw [if_neg hn, if_neg hq]; cases atoiN s <;> rfl
  have hw : 1 ≤ s.length → wrapI .i64 ((s.length : Int) - 1) = ((s.length - 1 : Nat) : Int) := fun h => by rw [wrap_id (by omega) (by omega)]; omega
  -- the end of the road
  have q4 : (s.drop 1).length ≤ s.length := by simp
  by_cases hq : (2 ≤ s.length ∧ s[0]? = some 39 ∧ s[s.length - 1]? = some 39)
  · have e : candS s = ⟨3, 0, Lib.replaceAll (cut s 1 (s.length - 1)) [39, 39] [39]⟩ := by unfold candS; rw [if_neg hn, if_pos hq]
    obtain ⟨l2, c0, cl⟩ := hq
    have hw := hw (by omega)
    have g1 : decide ((2 : Int) ≤ (s.length : Int)) = true := by rw [decide_eq_true_eq]; omega
    have g2 : at? s 0 = some 39 := byte_get c0
    have g3 := byte_get cl
    have g4 : ((0 : Int) ≤ ((s.length - 1 : Nat) : Int)) = True := eq_true (by omega)
    have g5 : (((s.length - 1 : Nat) : Int) ≤ (s.length : Int)) = True := eq_true (by omega)
    have g6 : ((1 : Int) ≤ ((s.length - 1 : Nat) : Int)) = True := eq_true (by omega)
    have g9 : ((1 : Int) ≤ (s.length : Int)) = True := eq_true (by omega)
    have g7 : (1 : Int).toNat = 1 := rfl
    have g8 : ((39 : UInt8).toNat : Int) = 39 := rfl
    have hr := p_Replace (List.take (s.length - 1 - 1) (List.drop 1 s)) [39, 39] [39] (by simp; omega) (by simp) (by simp; omega)
    rw [e]
    rw [call_54]
    simp -implicitDefEqProofs only [↓reduceIte, go_sem, Nat.reduceAdd, Nat.reduceSub, Nat.reduceMul, Nat.reduceBEq, Nat.reduceLeDiff, Nat.reduceLT, Nat.reduceEqDiff, reduceCtorEq, Int.reduceBEq, Int.reduceBNe, Int.reduceLT, Int.reduceLE, Int.reduceAdd, Int.reduceSub, Int.reduceMul, Int.reduceNeg, Int.reduceEq, Int.reduceToNat, Tryz.f54, hb, hb2, g1, g2, g3, g4, g5, g6, g7, g8, g9, hw, Int.toNat_natCast, hr]
    repeat' ((first | refine split_cond (fun hc => ?_) (fun hc => ?_) | refine split_yes (fun hc => ?_) (fun hc => ?_) | refine split_no (fun hc => ?_) (fun hc => ?_)) <;> simp -implicitDefEqProofs only [hc, ↓reduceIte, go_sem, Nat.reduceAdd, Nat.reduceSub, Nat.reduceMul, Nat.reduceBEq, Nat.reduceLeDiff, Nat.reduceLT, Nat.reduceEqDiff, reduceCtorEq, Int.reduceBEq, Int.reduceBNe, Int.reduceLT, Int.reduceLE, Int.reduceAdd, Int.reduceSub, Int.reduceMul, Int.reduceNeg, Int.reduceEq, Int.reduceToNat, hb, hb2, g1, g2, g3, g4, g5, g6, g7, g8, g9, hw, Int.toNat_natCast, hr])
    all_goals rfl
  · rw [tailEq hq]
    -- the three ways not to be in quotes lead on to the same place
    by_cases h3 : Lib.hasPrefix s [64] = true
    · have hs0 : ∃ r, s = 64 :: r := by
        match s, h3 with
        | [], h3 => simp [Lib.hasPrefix] at h3
        | c :: r, h3 =>
          by_cases hc : c = 64
          · exact ⟨r, by rw [hc]⟩
          · rw [pre_no c r hc] at h3; simp at h3
      obtain ⟨r, rfl⟩ := hs0
      rw [if_pos h3]
      have d := c_dateRead r
      have hp := p_HasPrefix (64 :: r) [64]
      rw [h3] at hp
      have g8 : ((64 : UInt8).toNat : Int) = 64 := rfl
      have g9 : ((1 : Int) ≤ ((r.length + 1 : Nat) : Int)) = True := eq_true (by omega)
      have g7 : (1 : Int).toNat = 1 := rfl
      have g10 : ((r.length + 1 : Nat) : Int).toNat = r.length + 1 := rfl
      by_cases h4 : 2 ≤ r.length + 1
      · have g1 : decide ((2 : Int) ≤ ((r.length + 1 : Nat) : Int)) = true := by rw [decide_eq_true_eq]; omega
        rw [call_54]
        simp -implicitDefEqProofs only [↓reduceIte, go_sem, Nat.reduceAdd, Nat.reduceSub, Nat.reduceMul, Nat.reduceBEq, Nat.reduceLeDiff, Nat.reduceLT, Nat.reduceEqDiff, reduceCtorEq, Int.reduceBEq, Int.reduceBNe, Int.reduceLT, Int.reduceLE, Int.reduceAdd, Int.reduceSub, Int.reduceMul, Int.reduceNeg, Int.reduceEq, Int.reduceToNat, Tryz.f54, hb, hb2, g1, at_zero, g8, hp, g9, g7, Nat.add_sub_cancel, List.take_length, d]
        repeat' ((first | refine split_cond (fun hc => ?_) (fun hc => ?_) | refine split_yes (fun hc => ?_) (fun hc => ?_) | refine split_no (fun hc => ?_) (fun hc => ?_)) <;> simp -implicitDefEqProofs only [hc, ↓reduceIte, go_sem, Nat.reduceAdd, Nat.reduceSub, Nat.reduceMul, Nat.reduceBEq, Nat.reduceLeDiff, Nat.reduceLT, Nat.reduceEqDiff, reduceCtorEq, Int.reduceBEq, Int.reduceBNe, Int.reduceLT, Int.reduceLE, Int.reduceAdd, Int.reduceSub, Int.reduceMul, Int.reduceNeg, Int.reduceEq, Int.reduceToNat, hb, hb2, g1, at_zero, g8, hp, g9, g7, Nat.add_sub_cancel, List.take_length, d])
        all_goals rfl
      · have g1 : decide ((2 : Int) ≤ ((r.length + 1 : Nat) : Int)) = false := by simp; omega
        rw [call_54]
        simp -implicitDefEqProofs only [↓reduceIte, go_sem, Nat.reduceAdd, Nat.reduceSub, Nat.reduceMul, Nat.reduceBEq, Nat.reduceLeDiff, Nat.reduceLT, Nat.reduceEqDiff, reduceCtorEq, Int.reduceBEq, Int.reduceBNe, Int.reduceLT, Int.reduceLE, Int.reduceAdd, Int.reduceSub, Int.reduceMul, Int.reduceNeg, Int.reduceEq, Int.reduceToNat, Tryz.f54, hb, hb2, g1, at_zero, g8, hp, g9, g7, Nat.add_sub_cancel, List.take_length, d]
        repeat' ((first | refine split_cond (fun hc => ?_) (fun hc => ?_) | refine split_yes (fun hc => ?_) (fun hc => ?_) | refine split_no (fun hc => ?_) (fun hc => ?_)) <;> simp -implicitDefEqProofs only [hc, ↓reduceIte, go_sem, Nat.reduceAdd, Nat.reduceSub, Nat.reduceMul, Nat.reduceBEq, Nat.reduceLeDiff, Nat.reduceLT, Nat.reduceEqDiff, reduceCtorEq, Int.reduceBEq, Int.reduceBNe, Int.reduceLT, Int.reduceLE, Int.reduceAdd, Int.reduceSub, Int.reduceMul, Int.reduceNeg, Int.reduceEq, Int.reduceToNat, hb, hb2, g1, at_zero, g8, hp, g9, g7, Nat.add_sub_cancel, List.take_length, d])
        all_goals rfl
    · have h3' : Lib.hasPrefix s [64] = false := by simpa using h3
      rw [if_neg h3]
      have hp := p_HasPrefix s [64]
      rw [h3'] at hp
      have fin : ∀ {X : AV}, True := fun {X} => trivial
      cases ha : atoiN s with
      | none =>
        obtain ⟨z, a⟩ := p_Atoi_no s (by omega) ha
        by_cases l2 : 2 ≤ s.length
        · have g1 : decide ((2 : Int) ≤ (s.length : Int)) = true := by rw [decide_eq_true_eq]; omega
          obtain ⟨c, hc⟩ := some_at (l := s) (i := 0) (by omega)
          have g2 : at? s 0 = some c := byte_get hc
          have hw := hw (by omega)
          obtain ⟨d, hd⟩ := some_at (l := s) (i := s.length - 1) (by omega)
          have g3 := byte_get hd
          by_cases hc39 : c = 39
          · have g4 : (c == 39) = true := by simp [hc39]
            have g5 : (d == 39) = false := by
              have : d ≠ 39 := fun e => hq ⟨l2, by rw [hc, hc39], by rw [hd, e]⟩
              simpa using this
            rw [call_54]
            simp -implicitDefEqProofs only [↓reduceIte, go_sem, Nat.reduceAdd, Nat.reduceSub, Nat.reduceMul, Nat.reduceBEq, Nat.reduceLeDiff, Nat.reduceLT, Nat.reduceEqDiff, reduceCtorEq, Int.reduceBEq, Int.reduceBNe, Int.reduceLT, Int.reduceLE, Int.reduceAdd, Int.reduceSub, Int.reduceMul, Int.reduceNeg, Int.reduceEq, Int.reduceToNat, Tryz.f54, hb, hb2, g1, g2, g3, g4, g5, u8_39, hw, hp, a]
            repeat' ((first | refine split_cond (fun hc => ?_) (fun hc => ?_) | refine split_yes (fun hc => ?_) (fun hc => ?_) | refine split_no (fun hc => ?_) (fun hc => ?_)) <;> simp -implicitDefEqProofs only [hc, ↓reduceIte, go_sem, Nat.reduceAdd, Nat.reduceSub, Nat.reduceMul, Nat.reduceBEq, Nat.reduceLeDiff, Nat.reduceLT, Nat.reduceEqDiff, reduceCtorEq, Int.reduceBEq, Int.reduceBNe, Int.reduceLT, Int.reduceLE, Int.reduceAdd, Int.reduceSub, Int.reduceMul, Int.reduceNeg, Int.reduceEq, Int.reduceToNat, hb, hb2, g1, g2, g3, g4, g5, u8_39, hw, hp, a])
            all_goals rfl
          · have g4 : (c == 39) = false := by simpa using hc39
            rw [call_54]
            simp -implicitDefEqProofs only [↓reduceIte, go_sem, Nat.reduceAdd, Nat.reduceSub, Nat.reduceMul, Nat.reduceBEq, Nat.reduceLeDiff, Nat.reduceLT, Nat.reduceEqDiff, reduceCtorEq, Int.reduceBEq, Int.reduceBNe, Int.reduceLT, Int.reduceLE, Int.reduceAdd, Int.reduceSub, Int.reduceMul, Int.reduceNeg, Int.reduceEq, Int.reduceToNat, Tryz.f54, hb, hb2, g1, g2, g4, u8_39, hp, a]
            repeat' ((first | refine split_cond (fun hc => ?_) (fun hc => ?_) | refine split_yes (fun hc => ?_) (fun hc => ?_) | refine split_no (fun hc => ?_) (fun hc => ?_)) <;> simp -implicitDefEqProofs only [hc, ↓reduceIte, go_sem, Nat.reduceAdd, Nat.reduceSub, Nat.reduceMul, Nat.reduceBEq, Nat.reduceLeDiff, Nat.reduceLT, Nat.reduceEqDiff, reduceCtorEq, Int.reduceBEq, Int.reduceBNe, Int.reduceLT, Int.reduceLE, Int.reduceAdd, Int.reduceSub, Int.reduceMul, Int.reduceNeg, Int.reduceEq, Int.reduceToNat, hb, hb2, g1, g2, g4, u8_39, hp, a])
            all_goals rfl
        · have g1 : decide ((2 : Int) ≤ (s.length : Int)) = false := by simp; omega
          rw [call_54]
          simp -implicitDefEqProofs only [↓reduceIte, go_sem, Nat.reduceAdd, Nat.reduceSub, Nat.reduceMul, Nat.reduceBEq, Nat.reduceLeDiff, Nat.reduceLT, Nat.reduceEqDiff, reduceCtorEq, Int.reduceBEq, Int.reduceBNe, Int.reduceLT, Int.reduceLE, Int.reduceAdd, Int.reduceSub, Int.reduceMul, Int.reduceNeg, Int.reduceEq, Int.reduceToNat, Tryz.f54, hb, hb2, g1, hp, a]
          repeat' ((first | refine split_cond (fun hc => ?_) (fun hc => ?_) | refine split_yes (fun hc => ?_) (fun hc => ?_) | refine split_no (fun hc => ?_) (fun hc => ?_)) <;> simp -implicitDefEqProofs only [hc, ↓reduceIte, go_sem, Nat.reduceAdd, Nat.reduceSub, Nat.reduceMul, Nat.reduceBEq, Nat.reduceLeDiff, Nat.reduceLT, Nat.reduceEqDiff, reduceCtorEq, Int.reduceBEq, Int.reduceBNe, Int.reduceLT, Int.reduceLE, Int.reduceAdd, Int.reduceSub, Int.reduceMul, Int.reduceNeg, Int.reduceEq, Int.reduceToNat, hb, hb2, g1, hp, a])
          all_goals rfl
      | some n =>
        have a := p_Atoi_ok s n (by omega) ha
        by_cases l2 : 2 ≤ s.length
        · have g1 : decide ((2 : Int) ≤ (s.length : Int)) = true := by rw [decide_eq_true_eq]; omega
          obtain ⟨c, hc⟩ := some_at (l := s) (i := 0) (by omega)
          have g2 : at? s 0 = some c := byte_get hc
          have hw := hw (by omega)
          obtain ⟨d, hd⟩ := some_at (l := s) (i := s.length - 1) (by omega)
          have g3 := byte_get hd
          by_cases hc39 : c = 39
          · have g4 : (c == 39) = true := by simp [hc39]
            have g5 : (d == 39) = false := by
              have : d ≠ 39 := fun e => hq ⟨l2, by rw [hc, hc39], by rw [hd, e]⟩
              simpa using this
            rw [call_54]
            simp -implicitDefEqProofs only [↓reduceIte, go_sem, Nat.reduceAdd, Nat.reduceSub, Nat.reduceMul, Nat.reduceBEq, Nat.reduceLeDiff, Nat.reduceLT, Nat.reduceEqDiff, reduceCtorEq, Int.reduceBEq, Int.reduceBNe, Int.reduceLT, Int.reduceLE, Int.reduceAdd, Int.reduceSub, Int.reduceMul, Int.reduceNeg, Int.reduceEq, Int.reduceToNat, Tryz.f54, hb, hb2, g1, g2, g3, g4, g5, u8_39, hw, hp, a]
            repeat' ((first | refine split_cond (fun hc => ?_) (fun hc => ?_) | refine split_yes (fun hc => ?_) (fun hc => ?_) | refine split_no (fun hc => ?_) (fun hc => ?_)) <;> simp -implicitDefEqProofs only [hc, ↓reduceIte, go_sem, Nat.reduceAdd, Nat.reduceSub, Nat.reduceMul, Nat.reduceBEq, Nat.reduceLeDiff, Nat.reduceLT, Nat.reduceEqDiff, reduceCtorEq, Int.reduceBEq, Int.reduceBNe, Int.reduceLT, Int.reduceLE, Int.reduceAdd, Int.reduceSub, Int.reduceMul, Int.reduceNeg, Int.reduceEq, Int.reduceToNat, hb, hb2, g1, g2, g3, g4, g5, u8_39, hw, hp, a])
          · have g4 : (c == 39) = false := by simpa using hc39
            rw [call_54]
            simp -implicitDefEqProofs only [↓reduceIte, go_sem, Nat.reduceAdd, Nat.reduceSub, Nat.reduceMul, Nat.reduceBEq, Nat.reduceLeDiff, Nat.reduceLT, Nat.reduceEqDiff, reduceCtorEq, Int.reduceBEq, Int.reduceBNe, Int.reduceLT, Int.reduceLE, Int.reduceAdd, Int.reduceSub, Int.reduceMul, Int.reduceNeg, Int.reduceEq, Int.reduceToNat, Tryz.f54, hb, hb2, g1, g2, g4, u8_39, hp, a]
            repeat' ((first | refine split_cond (fun hc => ?_) (fun hc => ?_) | refine split_yes (fun hc => ?_) (fun hc => ?_) | refine split_no (fun hc => ?_) (fun hc => ?_)) <;> simp -implicitDefEqProofs only [hc, ↓reduceIte, go_sem, Nat.reduceAdd, Nat.reduceSub, Nat.reduceMul, Nat.reduceBEq, Nat.reduceLeDiff, Nat.reduceLT, Nat.reduceEqDiff, reduceCtorEq, Int.reduceBEq, Int.reduceBNe, Int.reduceLT, Int.reduceLE, Int.reduceAdd, Int.reduceSub, Int.reduceMul, Int.reduceNeg, Int.reduceEq, Int.reduceToNat, hb, hb2, g1, g2, g4, u8_39, hp, a])
        · have g1 : decide ((2 : Int) ≤ (s.length : Int)) = false := by simp; omega
          rw [call_54]
          simp -implicitDefEqProofs only [↓reduceIte, go_sem, Nat.reduceAdd, Nat.reduceSub, Nat.reduceMul, Nat.reduceBEq, Nat.reduceLeDiff, Nat.reduceLT, Nat.reduceEqDiff, reduceCtorEq, Int.reduceBEq, Int.reduceBNe, Int.reduceLT, Int.reduceLE, Int.reduceAdd, Int.reduceSub, Int.reduceMul, Int.reduceNeg, Int.reduceEq, Int.reduceToNat, Tryz.f54, hb, hb2, g1, hp, a]
          repeat' ((first | refine split_cond (fun hc => ?_) (fun hc => ?_) | refine split_yes (fun hc => ?_) (fun hc => ?_) | refine split_no (fun hc => ?_) (fun hc => ?_)) <;> simp -implicitDefEqProofs only [hc, ↓reduceIte, go_sem, Nat.reduceAdd, Nat.reduceSub, Nat.reduceMul, Nat.reduceBEq, Nat.reduceLeDiff, Nat.reduceLT, Nat.reduceEqDiff, reduceCtorEq, Int.reduceBEq, Int.reduceBNe, Int.reduceLT, Int.reduceLE, Int.reduceAdd, Int.reduceSub, Int.reduceMul, Int.reduceNeg, Int.reduceEq, Int.reduceToNat, hb, hb2, g1, hp, a])
theorem c_Read (s : List UInt8) (hs : s.length ≤ 10000000) : R K (.call 11 [.str s] []) = some (.tup [enc (readS s).1, I (readS s).2], []) := by
  have h1 := c_candidate s hs
  have h2 := c_right (candS s).k (candS s).n (candS s).s
  have h3 := c_Show (candS s).k (candS s).n (candS s).s
  rw [Val.eta] at h2 h3
  cases hr : rightS (candS s) with
  | false =>
    rw [hr] at h2
    have e : readS s = (null, 14) := by unfold readS; rw [if_neg (by rw [hr]; simp)]
    rw [e]
    rw [call_11]
    simp -implicitDefEqProofs only [↓reduceIte, go_sem, Nat.reduceAdd, Nat.reduceSub, Nat.reduceMul, Nat.reduceBEq, Nat.reduceLeDiff, Nat.reduceLT, Nat.reduceEqDiff, reduceCtorEq, Int.reduceBEq, Int.reduceBNe, Int.reduceLT, Int.reduceLE, Int.reduceAdd, Int.reduceSub, Int.reduceMul, Int.reduceNeg, Int.reduceEq, Int.reduceToNat, Tryz.f11, h1, h2]
    repeat' ((first | refine split_cond (fun hc => ?_) (fun hc => ?_) | refine split_yes (fun hc => ?_) (fun hc => ?_) | refine split_no (fun hc => ?_) (fun hc => ?_)) <;> simp -implicitDefEqProofs only [hc, ↓reduceIte, go_sem, Nat.reduceAdd, Nat.reduceSub, Nat.reduceMul, Nat.reduceBEq, Nat.reduceLeDiff, Nat.reduceLT, Nat.reduceEqDiff, reduceCtorEq, Int.reduceBEq, Int.reduceBNe, Int.reduceLT, Int.reduceLE, Int.reduceAdd, Int.reduceSub, Int.reduceMul, Int.reduceNeg, Int.reduceEq, Int.reduceToNat, h1, h2])
    all_goals rfl
  | true =>
    rw [hr] at h2
    by_cases hq : showS (candS s) = s
    · have e : readS s = (candS s, 0) := by unfold readS; rw [if_pos ⟨hr, hq⟩]
      have hb : (showS (candS s) == s) = true := by simp [hq]
      rw [e]
      rw [call_11]
      simp -implicitDefEqProofs only [↓reduceIte, go_sem, Nat.reduceAdd, Nat.reduceSub, Nat.reduceMul, Nat.reduceBEq, Nat.reduceLeDiff, Nat.reduceLT, Nat.reduceEqDiff, reduceCtorEq, Int.reduceBEq, Int.reduceBNe, Int.reduceLT, Int.reduceLE, Int.reduceAdd, Int.reduceSub, Int.reduceMul, Int.reduceNeg, Int.reduceEq, Int.reduceToNat, Tryz.f11, h1, h2, h3, hb]
      repeat' ((first | refine split_cond (fun hc => ?_) (fun hc => ?_) | refine split_yes (fun hc => ?_) (fun hc => ?_) | refine split_no (fun hc => ?_) (fun hc => ?_)) <;> simp -implicitDefEqProofs only [hc, ↓reduceIte, go_sem, Nat.reduceAdd, Nat.reduceSub, Nat.reduceMul, Nat.reduceBEq, Nat.reduceLeDiff, Nat.reduceLT, Nat.reduceEqDiff, reduceCtorEq, Int.reduceBEq, Int.reduceBNe, Int.reduceLT, Int.reduceLE, Int.reduceAdd, Int.reduceSub, Int.reduceMul, Int.reduceNeg, Int.reduceEq, Int.reduceToNat, h1, h2, h3, hb])
    · have e : readS s = (null, 14) := by unfold readS; rw [if_neg (fun h => hq h.2)]
      have hb : (showS (candS s) == s) = false := by simpa using hq
      rw [e]
      rw [call_11]
      simp -implicitDefEqProofs only [↓reduceIte, go_sem, Nat.reduceAdd, Nat.reduceSub, Nat.reduceMul, Nat.reduceBEq, Nat.reduceLeDiff, Nat.reduceLT, Nat.reduceEqDiff, reduceCtorEq, Int.reduceBEq, Int.reduceBNe, Int.reduceLT, Int.reduceLE, Int.reduceAdd, Int.reduceSub, Int.reduceMul, Int.reduceNeg, Int.reduceEq, Int.reduceToNat, Tryz.f11, h1, h2, h3, hb]
      repeat' ((first | refine split_cond (fun hc => ?_) (fun hc => ?_) | refine split_yes (fun hc => ?_) (fun hc => ?_) | refine split_no (fun hc => ?_) (fun hc => ?_)) <;> simp -implicitDefEqProofs only [hc, ↓reduceIte, go_sem, Nat.reduceAdd, Nat.reduceSub, Nat.reduceMul, Nat.reduceBEq, Nat.reduceLeDiff, Nat.reduceLT, Nat.reduceEqDiff, reduceCtorEq, Int.reduceBEq, Int.reduceBNe, Int.reduceLT, Int.reduceLE, Int.reduceAdd, Int.reduceSub, Int.reduceMul, Int.reduceNeg, Int.reduceEq, Int.reduceToNat, h1, h2, h3, hb])
      all_goals rfl
def Fresh (rows : List (List AV)) (r : AV × Heap) : Prop := r = (.lit rows, []) ∨ r = (.own 0 rows.length, [.rows 3 rows false])
theorem r_candidates (s : List UInt8) (hs : s.length ≤ 10000000) : ∃ r, R K (.call 56 [.str s] []) = some r ∧ Fresh ((candsS s).map rowV) r := by
  obtain ⟨w, b, hm, hb, hw⟩ := r_momentFrom (Lib.trimPrefix s [64])
  have ht := p_TrimPrefix s [64]
  have hd : (if (dreadS (Lib.trimPrefix s [64])).k = 4 then [dreadS (Lib.trimPrefix s [64])] else []) = if b = true then [w] else [] := by
    cases b with
    | true => rw [if_pos (by simpa using hb.symm), if_pos rfl, hw rfl]
    | false => rw [if_neg (by simpa using hb.symm), if_neg (by simp)]
  have key : ∀ (q : Bool), (q = true ↔ (1 < s.length ∧ s[0]? = some 39)) → ∀ (X : List Val), (match atoiN s with | some n => [numberS 2 n] | none => []) = X →
     ∃ r, R K (.call 56 [.str s] []) = some r ∧ Fresh (([null, boolV true, boolV false] ++ X ++ (if q = true then [textS (Lib.replaceAll (cut s 1 (s.length - 1)) [39, 39] [39])] else []) ++ (if b = true then [w] else [])).map rowV) r := by
    intro q hq X hX
    have g7 : (1 : Int).toNat = 1 := rfl
    have hr := p_Replace (List.take (s.length - 1 - 1) (List.drop 1 s)) [39, 39] [39] (by simp; omega) (by simp) (by simp; omega)
    have hwr : 1 < s.length → wrapI .i64 ((s.length : Int) - 1) = ((s.length - 1 : Nat) : Int) := fun h => by rw [wrap_id (by omega) (by omega)]; omega
    cases ha : atoiN s with
    | none =>
      rw [ha] at hX
      subst hX
      obtain ⟨z, a⟩ := p_Atoi_no s (by omega) ha
      by_cases h1 : 1 < s.length
      · have d1 : decide ((1 : Int) < (s.length : Int)) = true := by rw [decide_eq_true_eq]; omega
        obtain ⟨c, hc⟩ := some_at (l := s) (i := 0) (by omega)
        have c0 : at? s 0 = some c := byte_get hc
        by_cases h39 : c = 39
        · have c39 : (c == 39) = true := by simp [h39]
          have hw1 := hwr h1
          have g9 : ((1 : Int) ≤ (s.length : Int)) = True := eq_true (by omega)
          have g4 : ((0 : Int) ≤ ((s.length - 1 : Nat) : Int)) = True := eq_true (by omega)
          have g5 : (((s.length - 1 : Nat) : Int) ≤ (s.length : Int)) = True := eq_true (by omega)
          have g6 : ((1 : Int) ≤ ((s.length - 1 : Nat) : Int)) = True := eq_true (by omega)
          have hqt : q = true := hq.2 ⟨h1, by rw [hc, h39]⟩
          subst hqt
          cases b with
          | true =>
            refine ⟨_, ?_, .inr rfl⟩
            rw [call_56]
            simp -implicitDefEqProofs only [↓reduceIte, go_sem, Nat.reduceAdd, Nat.reduceSub, Nat.reduceMul, Nat.reduceBEq, Nat.reduceLeDiff, Nat.reduceLT, Nat.reduceEqDiff, reduceCtorEq, Int.reduceBEq, Int.reduceBNe, Int.reduceLT, Int.reduceLE, Int.reduceAdd, Int.reduceSub, Int.reduceMul, Int.reduceNeg, Int.reduceEq, Int.reduceToNat, Tryz.f56, small_room, a, d1, c0, u8_39, c39, hw1, g9, g4, g5, g6, g7, Int.toNat_natCast, hr, ht, hm, r_Truth, r_word]
            repeat' ((first | refine split_cond (fun hc => ?_) (fun hc => ?_) | refine split_yes (fun hc => ?_) (fun hc => ?_) | refine split_no (fun hc => ?_) (fun hc => ?_)) <;> simp -implicitDefEqProofs only [hc, ↓reduceIte, go_sem, Nat.reduceAdd, Nat.reduceSub, Nat.reduceMul, Nat.reduceBEq, Nat.reduceLeDiff, Nat.reduceLT, Nat.reduceEqDiff, reduceCtorEq, Int.reduceBEq, Int.reduceBNe, Int.reduceLT, Int.reduceLE, Int.reduceAdd, Int.reduceSub, Int.reduceMul, Int.reduceNeg, Int.reduceEq, Int.reduceToNat, small_room, a, d1, c0, u8_39, c39, hw1, g9, g4, g5, g6, g7, Int.toNat_natCast, hr, ht, hm, r_Truth, r_word])
            all_goals rfl
          | false =>
            refine ⟨_, ?_, .inr rfl⟩
            rw [call_56]
            simp -implicitDefEqProofs only [↓reduceIte, go_sem, Nat.reduceAdd, Nat.reduceSub, Nat.reduceMul, Nat.reduceBEq, Nat.reduceLeDiff, Nat.reduceLT, Nat.reduceEqDiff, reduceCtorEq, Int.reduceBEq, Int.reduceBNe, Int.reduceLT, Int.reduceLE, Int.reduceAdd, Int.reduceSub, Int.reduceMul, Int.reduceNeg, Int.reduceEq, Int.reduceToNat, Tryz.f56, small_room, a, d1, c0, u8_39, c39, hw1, g9, g4, g5, g6, g7, Int.toNat_natCast, hr, ht, hm, r_Truth, r_word]
            repeat' ((first | refine split_cond (fun hc => ?_) (fun hc => ?_) | refine split_yes (fun hc => ?_) (fun hc => ?_) | refine split_no (fun hc => ?_) (fun hc => ?_)) <;> simp -implicitDefEqProofs only [hc, ↓reduceIte, go_sem, Nat.reduceAdd, Nat.reduceSub, Nat.reduceMul, Nat.reduceBEq, Nat.reduceLeDiff, Nat.reduceLT, Nat.reduceEqDiff, reduceCtorEq, Int.reduceBEq, Int.reduceBNe, Int.reduceLT, Int.reduceLE, Int.reduceAdd, Int.reduceSub, Int.reduceMul, Int.reduceNeg, Int.reduceEq, Int.reduceToNat, small_room, a, d1, c0, u8_39, c39, hw1, g9, g4, g5, g6, g7, Int.toNat_natCast, hr, ht, hm, r_Truth, r_word])
            all_goals rfl
        · have c39 : (c == 39) = false := by simpa using h39
          have hqf : q = false := by rw [Bool.eq_false_iff]; intro e; have := (hq.1 e).2; rw [hc] at this; exact h39 (Option.some.inj this)
          subst hqf
          cases b with
          | true =>
            refine ⟨_, ?_, .inr rfl⟩
            rw [call_56]
            simp -implicitDefEqProofs only [↓reduceIte, go_sem, Nat.reduceAdd, Nat.reduceSub, Nat.reduceMul, Nat.reduceBEq, Nat.reduceLeDiff, Nat.reduceLT, Nat.reduceEqDiff, reduceCtorEq, Int.reduceBEq, Int.reduceBNe, Int.reduceLT, Int.reduceLE, Int.reduceAdd, Int.reduceSub, Int.reduceMul, Int.reduceNeg, Int.reduceEq, Int.reduceToNat, Tryz.f56, small_room, a, d1, c0, u8_39, c39, ht, hm, r_Truth, r_word]
            repeat' ((first | refine split_cond (fun hc => ?_) (fun hc => ?_) | refine split_yes (fun hc => ?_) (fun hc => ?_) | refine split_no (fun hc => ?_) (fun hc => ?_)) <;> simp -implicitDefEqProofs only [hc, ↓reduceIte, go_sem, Nat.reduceAdd, Nat.reduceSub, Nat.reduceMul, Nat.reduceBEq, Nat.reduceLeDiff, Nat.reduceLT, Nat.reduceEqDiff, reduceCtorEq, Int.reduceBEq, Int.reduceBNe, Int.reduceLT, Int.reduceLE, Int.reduceAdd, Int.reduceSub, Int.reduceMul, Int.reduceNeg, Int.reduceEq, Int.reduceToNat, small_room, a, d1, c0, u8_39, c39, ht, hm, r_Truth, r_word])
            all_goals rfl
          | false =>
            refine ⟨_, ?_, .inl rfl⟩
            rw [call_56]
            simp -implicitDefEqProofs only [↓reduceIte, go_sem, Nat.reduceAdd, Nat.reduceSub, Nat.reduceMul, Nat.reduceBEq, Nat.reduceLeDiff, Nat.reduceLT, Nat.reduceEqDiff, reduceCtorEq, Int.reduceBEq, Int.reduceBNe, Int.reduceLT, Int.reduceLE, Int.reduceAdd, Int.reduceSub, Int.reduceMul, Int.reduceNeg, Int.reduceEq, Int.reduceToNat, Tryz.f56, small_room, a, d1, c0, u8_39, c39, ht, hm, r_Truth, r_word]
            repeat' ((first | refine split_cond (fun hc => ?_) (fun hc => ?_) | refine split_yes (fun hc => ?_) (fun hc => ?_) | refine split_no (fun hc => ?_) (fun hc => ?_)) <;> simp -implicitDefEqProofs only [hc, ↓reduceIte, go_sem, Nat.reduceAdd, Nat.reduceSub, Nat.reduceMul, Nat.reduceBEq, Nat.reduceLeDiff, Nat.reduceLT, Nat.reduceEqDiff, reduceCtorEq, Int.reduceBEq, Int.reduceBNe, Int.reduceLT, Int.reduceLE, Int.reduceAdd, Int.reduceSub, Int.reduceMul, Int.reduceNeg, Int.reduceEq, Int.reduceToNat, small_room, a, d1, c0, u8_39, c39, ht, hm, r_Truth, r_word])
            all_goals rfl
      · have d1 : decide ((1 : Int) < (s.length : Int)) = false := by simp; omega
        have hqf : q = false := by rw [Bool.eq_false_iff]; intro e; exact h1 (hq.1 e).1
        subst hqf
        cases b with
        | true =>
          refine ⟨_, ?_, .inr rfl⟩
          rw [call_56]
          simp -implicitDefEqProofs only [↓reduceIte, go_sem, Nat.reduceAdd, Nat.reduceSub, Nat.reduceMul, Nat.reduceBEq, Nat.reduceLeDiff, Nat.reduceLT, Nat.reduceEqDiff, reduceCtorEq, Int.reduceBEq, Int.reduceBNe, Int.reduceLT, Int.reduceLE, Int.reduceAdd, Int.reduceSub, Int.reduceMul, Int.reduceNeg, Int.reduceEq, Int.reduceToNat, Tryz.f56, small_room, a, d1, ht, hm, r_Truth, r_word]
          repeat' ((first | refine split_cond (fun hc => ?_) (fun hc => ?_) | refine split_yes (fun hc => ?_) (fun hc => ?_) | refine split_no (fun hc => ?_) (fun hc => ?_)) <;> simp -implicitDefEqProofs only [hc, ↓reduceIte, go_sem, Nat.reduceAdd, Nat.reduceSub, Nat.reduceMul, Nat.reduceBEq, Nat.reduceLeDiff, Nat.reduceLT, Nat.reduceEqDiff, reduceCtorEq, Int.reduceBEq, Int.reduceBNe, Int.reduceLT, Int.reduceLE, Int.reduceAdd, Int.reduceSub, Int.reduceMul, Int.reduceNeg, Int.reduceEq, Int.reduceToNat, small_room, a, d1, ht, hm, r_Truth, r_word])
          all_goals rfl
        | false =>
          refine ⟨_, ?_, .inl rfl⟩
          rw [call_56]
          simp -implicitDefEqProofs only [↓reduceIte, go_sem, Nat.reduceAdd, Nat.reduceSub, Nat.reduceMul, Nat.reduceBEq, Nat.reduceLeDiff, Nat.reduceLT, Nat.reduceEqDiff, reduceCtorEq, Int.reduceBEq, Int.reduceBNe, Int.reduceLT, Int.reduceLE, Int.reduceAdd, Int.reduceSub, Int.reduceMul, Int.reduceNeg, Int.reduceEq, Int.reduceToNat, Tryz.f56, small_room, a, d1, ht, hm, r_Truth, r_word]
          repeat' ((first | refine split_cond (fun hc => ?_) (fun hc => ?_) | refine split_yes (fun hc => ?_) (fun hc => ?_) | refine split_no (fun hc => ?_) (fun hc => ?_)) <;> simp -implicitDefEqProofs only [hc, ↓reduceIte, go_sem, Nat.reduceAdd, Nat.reduceSub, Nat.reduceMul, Nat.reduceBEq, Nat.reduceLeDiff, Nat.reduceLT, Nat.reduceEqDiff, reduceCtorEq, Int.reduceBEq, Int.reduceBNe, Int.reduceLT, Int.reduceLE, Int.reduceAdd, Int.reduceSub, Int.reduceMul, Int.reduceNeg, Int.reduceEq, Int.reduceToNat, small_room, a, d1, ht, hm, r_Truth, r_word])
          all_goals rfl
    | some n =>
      rw [ha] at hX
      subst hX
      have a := p_Atoi_ok s n (by omega) ha
      by_cases h1 : 1 < s.length
      · have d1 : decide ((1 : Int) < (s.length : Int)) = true := by rw [decide_eq_true_eq]; omega
        obtain ⟨c, hc⟩ := some_at (l := s) (i := 0) (by omega)
        have c0 : at? s 0 = some c := byte_get hc
        by_cases h39 : c = 39
        · have c39 : (c == 39) = true := by simp [h39]
          have hw1 := hwr h1
          have g9 : ((1 : Int) ≤ (s.length : Int)) = True := eq_true (by omega)
          have g4 : ((0 : Int) ≤ ((s.length - 1 : Nat) : Int)) = True := eq_true (by omega)
          have g5 : (((s.length - 1 : Nat) : Int) ≤ (s.length : Int)) = True := eq_true (by omega)
          have g6 : ((1 : Int) ≤ ((s.length - 1 : Nat) : Int)) = True := eq_true (by omega)
          have hqt : q = true := hq.2 ⟨h1, by rw [hc, h39]⟩
          subst hqt
          cases b with
          | true =>
            refine ⟨_, ?_, .inr rfl⟩
            rw [call_56]
            simp -implicitDefEqProofs only [↓reduceIte, go_sem, Nat.reduceAdd, Nat.reduceSub, Nat.reduceMul, Nat.reduceBEq, Nat.reduceLeDiff, Nat.reduceLT, Nat.reduceEqDiff, reduceCtorEq, Int.reduceBEq, Int.reduceBNe, Int.reduceLT, Int.reduceLE, Int.reduceAdd, Int.reduceSub, Int.reduceMul, Int.reduceNeg, Int.reduceEq, Int.reduceToNat, Tryz.f56, small_room, a, d1, c0, u8_39, c39, hw1, g9, g4, g5, g6, g7, Int.toNat_natCast, hr, ht, hm, r_Truth, r_word, r_Number]
            repeat' ((first | refine split_cond (fun hc => ?_) (fun hc => ?_) | refine split_yes (fun hc => ?_) (fun hc => ?_) | refine split_no (fun hc => ?_) (fun hc => ?_)) <;> simp -implicitDefEqProofs only [hc, ↓reduceIte, go_sem, Nat.reduceAdd, Nat.reduceSub, Nat.reduceMul, Nat.reduceBEq, Nat.reduceLeDiff, Nat.reduceLT, Nat.reduceEqDiff, reduceCtorEq, Int.reduceBEq, Int.reduceBNe, Int.reduceLT, Int.reduceLE, Int.reduceAdd, Int.reduceSub, Int.reduceMul, Int.reduceNeg, Int.reduceEq, Int.reduceToNat, small_room, a, d1, c0, u8_39, c39, hw1, g9, g4, g5, g6, g7, Int.toNat_natCast, hr, ht, hm, r_Truth, r_word, r_Number])
            all_goals rfl
          | false =>
            refine ⟨_, ?_, .inr rfl⟩
            rw [call_56]
            simp -implicitDefEqProofs only [↓reduceIte, go_sem, Nat.reduceAdd, Nat.reduceSub, Nat.reduceMul, Nat.reduceBEq, Nat.reduceLeDiff, Nat.reduceLT, Nat.reduceEqDiff, reduceCtorEq, Int.reduceBEq, Int.reduceBNe, Int.reduceLT, Int.reduceLE, Int.reduceAdd, Int.reduceSub, Int.reduceMul, Int.reduceNeg, Int.reduceEq, Int.reduceToNat, Tryz.f56, small_room, a, d1, c0, u8_39, c39, hw1, g9, g4, g5, g6, g7, Int.toNat_natCast, hr, ht, hm, r_Truth, r_word, r_Number]
            repeat' ((first | refine split_cond (fun hc => ?_) (fun hc => ?_) | refine split_yes (fun hc => ?_) (fun hc => ?_) | refine split_no (fun hc => ?_) (fun hc => ?_)) <;> simp -implicitDefEqProofs only [hc, ↓reduceIte, go_sem, Nat.reduceAdd, Nat.reduceSub, Nat.reduceMul, Nat.reduceBEq, Nat.reduceLeDiff, Nat.reduceLT, Nat.reduceEqDiff, reduceCtorEq, Int.reduceBEq, Int.reduceBNe, Int.reduceLT, Int.reduceLE, Int.reduceAdd, Int.reduceSub, Int.reduceMul, Int.reduceNeg, Int.reduceEq, Int.reduceToNat, small_room, a, d1, c0, u8_39, c39, hw1, g9, g4, g5, g6, g7, Int.toNat_natCast, hr, ht, hm, r_Truth, r_word, r_Number])
            all_goals rfl
        · have c39 : (c == 39) = false := by simpa using h39
          have hqf : q = false := by rw [Bool.eq_false_iff]; intro e; have := (hq.1 e).2; rw [hc] at this; exact h39 (Option.some.inj this)
          subst hqf
          cases b with
          | true =>
            refine ⟨_, ?_, .inr rfl⟩
            rw [call_56]
            simp -implicitDefEqProofs only [↓reduceIte, go_sem, Nat.reduceAdd, Nat.reduceSub, Nat.reduceMul, Nat.reduceBEq, Nat.reduceLeDiff, Nat.reduceLT, Nat.reduceEqDiff, reduceCtorEq, Int.reduceBEq, Int.reduceBNe, Int.reduceLT, Int.reduceLE, Int.reduceAdd, Int.reduceSub, Int.reduceMul, Int.reduceNeg, Int.reduceEq, Int.reduceToNat, Tryz.f56, small_room, a, d1, c0, u8_39, c39, ht, hm, r_Truth, r_word, r_Number]
            repeat' ((first | refine split_cond (fun hc => ?_) (fun hc => ?_) | refine split_yes (fun hc => ?_) (fun hc => ?_) | refine split_no (fun hc => ?_) (fun hc => ?_)) <;> simp -implicitDefEqProofs only [hc, ↓reduceIte, go_sem, Nat.reduceAdd, Nat.reduceSub, Nat.reduceMul, Nat.reduceBEq, Nat.reduceLeDiff, Nat.reduceLT, Nat.reduceEqDiff, reduceCtorEq, Int.reduceBEq, Int.reduceBNe, Int.reduceLT, Int.reduceLE, Int.reduceAdd, Int.reduceSub, Int.reduceMul, Int.reduceNeg, Int.reduceEq, Int.reduceToNat, small_room, a, d1, c0, u8_39, c39, ht, hm, r_Truth, r_word, r_Number])
            all_goals rfl
          | false =>
            refine ⟨_, ?_, .inr rfl⟩
            rw [call_56]
            simp -implicitDefEqProofs only [↓reduceIte, go_sem, Nat.reduceAdd, Nat.reduceSub, Nat.reduceMul, Nat.reduceBEq, Nat.reduceLeDiff, Nat.reduceLT, Nat.reduceEqDiff, reduceCtorEq, Int.reduceBEq, Int.reduceBNe, Int.reduceLT, Int.reduceLE, Int.reduceAdd, Int.reduceSub, Int.reduceMul, Int.reduceNeg, Int.reduceEq, Int.reduceToNat, Tryz.f56, small_room, a, d1, c0, u8_39, c39, ht, hm, r_Truth, r_word, r_Number]
            repeat' ((first | refine split_cond (fun hc => ?_) (fun hc => ?_) | refine split_yes (fun hc => ?_) (fun hc => ?_) | refine split_no (fun hc => ?_) (fun hc => ?_)) <;> simp -implicitDefEqProofs only [hc, ↓reduceIte, go_sem, Nat.reduceAdd, Nat.reduceSub, Nat.reduceMul, Nat.reduceBEq, Nat.reduceLeDiff, Nat.reduceLT, Nat.reduceEqDiff, reduceCtorEq, Int.reduceBEq, Int.reduceBNe, Int.reduceLT, Int.reduceLE, Int.reduceAdd, Int.reduceSub, Int.reduceMul, Int.reduceNeg, Int.reduceEq, Int.reduceToNat, small_room, a, d1, c0, u8_39, c39, ht, hm, r_Truth, r_word, r_Number])
            all_goals rfl
      · have d1 : decide ((1 : Int) < (s.length : Int)) = false := by simp; omega
        have hqf : q = false := by rw [Bool.eq_false_iff]; intro e; exact h1 (hq.1 e).1
        subst hqf
        cases b with
        | true =>
          refine ⟨_, ?_, .inr rfl⟩
          rw [call_56]
          simp -implicitDefEqProofs only [↓reduceIte, go_sem, Nat.reduceAdd, Nat.reduceSub, Nat.reduceMul, Nat.reduceBEq, Nat.reduceLeDiff, Nat.reduceLT, Nat.reduceEqDiff, reduceCtorEq, Int.reduceBEq, Int.reduceBNe, Int.reduceLT, Int.reduceLE, Int.reduceAdd, Int.reduceSub, Int.reduceMul, Int.reduceNeg, Int.reduceEq, Int.reduceToNat, Tryz.f56, small_room, a, d1, ht, hm, r_Truth, r_word, r_Number]
          repeat' ((first | refine split_cond (fun hc => ?_) (fun hc => ?_) | refine split_yes (fun hc => ?_) (fun hc => ?_) | refine split_no (fun hc => ?_) (fun hc => ?_)) <;> simp -implicitDefEqProofs only [hc, ↓reduceIte, go_sem, Nat.reduceAdd, Nat.reduceSub, Nat.reduceMul, Nat.reduceBEq, Nat.reduceLeDiff, Nat.reduceLT, Nat.reduceEqDiff, reduceCtorEq, Int.reduceBEq, Int.reduceBNe, Int.reduceLT, Int.reduceLE, Int.reduceAdd, Int.reduceSub, Int.reduceMul, Int.reduceNeg, Int.reduceEq, Int.reduceToNat, small_room, a, d1, ht, hm, r_Truth, r_word, r_Number])
          all_goals rfl
        | false =>
          refine ⟨_, ?_, .inr rfl⟩
          rw [call_56]
          simp -implicitDefEqProofs only [↓reduceIte, go_sem, Nat.reduceAdd, Nat.reduceSub, Nat.reduceMul, Nat.reduceBEq, Nat.reduceLeDiff, Nat.reduceLT, Nat.reduceEqDiff, reduceCtorEq, Int.reduceBEq, Int.reduceBNe, Int.reduceLT, Int.reduceLE, Int.reduceAdd, Int.reduceSub, Int.reduceMul, Int.reduceNeg, Int.reduceEq, Int.reduceToNat, Tryz.f56, small_room, a, d1, ht, hm, r_Truth, r_word, r_Number]
          repeat' ((first | refine split_cond (fun hc => ?_) (fun hc => ?_) | refine split_yes (fun hc => ?_) (fun hc => ?_) | refine split_no (fun hc => ?_) (fun hc => ?_)) <;> simp -implicitDefEqProofs only [hc, ↓reduceIte, go_sem, Nat.reduceAdd, Nat.reduceSub, Nat.reduceMul, Nat.reduceBEq, Nat.reduceLeDiff, Nat.reduceLT, Nat.reduceEqDiff, reduceCtorEq, Int.reduceBEq, Int.reduceBNe, Int.reduceLT, Int.reduceLE, Int.reduceAdd, Int.reduceSub, Int.reduceMul, Int.reduceNeg, Int.reduceEq, Int.reduceToNat, small_room, a, d1, ht, hm, r_Truth, r_word, r_Number])
          all_goals rfl
  have e : candsS s = [null, boolV true, boolV false] ++ (match atoiN s with | some n => [numberS 2 n] | none => []) ++ (if decide (1 < s.length ∧ s[0]? = some 39) = true then [textS (Lib.replaceAll (cut s 1 (s.length - 1)) [39, 39] [39])] else []) ++ (if b = true then [w] else []) := by
    unfold candsS
    rw [hd]
    simp only [decide_eq_true_eq]
    cases atoiN s <;> rfl
  rw [e]
  exact key _ (by rw [decide_eq_true_eq]) _ rfl
theorem l_Read (s : List UInt8) (rows : List Val) (hl : rows.length ≤ 1000) (X : AV) (H : Heap) (b : Nat)
   (hX : (X = .lit (rows.map rowV) ∧ H = [.cells [I 0, I 0, .str []]] ∧ b = 1) ∨ (X = .own 1 rows.length ∧ H = [.cells [I 0, I 0, .str []], .rows 3 (rows.map rowV) false] ∧ b = 2)) (ks : List It) : ∀ (m i : Nat) (j : Int) (B : Code), Loop Tryz.f12 0 B → j = (i : Int) → rows.length = i + m →
   RL K (.run 12 0 (.code B :: .lp B (some ([0, 2, 7, 8, 9], [])) b :: .blk 0 b :: ks) [(0, .str s), (2, .ptr 0 0), (7, X), (8, I (rows.length : Int)), (9, I j)] H) =
   match (rows.drop i).find? (fun v => showS v == s) with
   | some v => some (.tup [enc v, I 0], [])
   | none => R K (.run 12 0 ks [(2, .ptr 0 0)] (H.take b))
  | 0, i, j, B, hB, hj, hm => by
    subst hj
    have h1 : decide ((i : Int) < (rows.length : Int)) = false := by simp; omega
    rw [List.drop_of_length_le (by omega)]
    rcases hX with ⟨rfl, rfl, rfl⟩ | ⟨rfl, rfl, rfl⟩
    · unfold Loop at hB
      simp -implicitDefEqProofs only [↓reduceIte, go_sem, Nat.reduceAdd, Nat.reduceSub, Nat.reduceMul, Nat.reduceBEq, Nat.reduceLeDiff, Nat.reduceLT, Nat.reduceEqDiff, reduceCtorEq, Int.reduceBEq, Int.reduceBNe, Int.reduceLT, Int.reduceLE, Int.reduceAdd, Int.reduceSub, Int.reduceMul, Int.reduceNeg, Int.reduceEq, Int.reduceToNat, Tryz.f12, loopOf] at hB
      subst hB
      rw [RL_eq]
      simp -implicitDefEqProofs only [↓reduceIte, go_sem, Nat.reduceAdd, Nat.reduceSub, Nat.reduceMul, Nat.reduceBEq, Nat.reduceLeDiff, Nat.reduceLT, Nat.reduceEqDiff, reduceCtorEq, Int.reduceBEq, Int.reduceBNe, Int.reduceLT, Int.reduceLE, Int.reduceAdd, Int.reduceSub, Int.reduceMul, Int.reduceNeg, Int.reduceEq, Int.reduceToNat, h1]
      repeat' ((first | refine split_cond (fun hc => ?_) (fun hc => ?_) | refine split_yes (fun hc => ?_) (fun hc => ?_) | refine split_no (fun hc => ?_) (fun hc => ?_)) <;> simp -implicitDefEqProofs only [hc, ↓reduceIte, go_sem, Nat.reduceAdd, Nat.reduceSub, Nat.reduceMul, Nat.reduceBEq, Nat.reduceLeDiff, Nat.reduceLT, Nat.reduceEqDiff, reduceCtorEq, Int.reduceBEq, Int.reduceBNe, Int.reduceLT, Int.reduceLE, Int.reduceAdd, Int.reduceSub, Int.reduceMul, Int.reduceNeg, Int.reduceEq, Int.reduceToNat, h1])
      all_goals rfl
    · unfold Loop at hB
      simp -implicitDefEqProofs only [↓reduceIte, go_sem, Nat.reduceAdd, Nat.reduceSub, Nat.reduceMul, Nat.reduceBEq, Nat.reduceLeDiff, Nat.reduceLT, Nat.reduceEqDiff, reduceCtorEq, Int.reduceBEq, Int.reduceBNe, Int.reduceLT, Int.reduceLE, Int.reduceAdd, Int.reduceSub, Int.reduceMul, Int.reduceNeg, Int.reduceEq, Int.reduceToNat, Tryz.f12, loopOf] at hB
      subst hB
      rw [RL_eq]
      simp -implicitDefEqProofs only [↓reduceIte, go_sem, Nat.reduceAdd, Nat.reduceSub, Nat.reduceMul, Nat.reduceBEq, Nat.reduceLeDiff, Nat.reduceLT, Nat.reduceEqDiff, reduceCtorEq, Int.reduceBEq, Int.reduceBNe, Int.reduceLT, Int.reduceLE, Int.reduceAdd, Int.reduceSub, Int.reduceMul, Int.reduceNeg, Int.reduceEq, Int.reduceToNat, h1]
      repeat' ((first | refine split_cond (fun hc => ?_) (fun hc => ?_) | refine split_yes (fun hc => ?_) (fun hc => ?_) | refine split_no (fun hc => ?_) (fun hc => ?_)) <;> simp -implicitDefEqProofs only [hc, ↓reduceIte, go_sem, Nat.reduceAdd, Nat.reduceSub, Nat.reduceMul, Nat.reduceBEq, Nat.reduceLeDiff, Nat.reduceLT, Nat.reduceEqDiff, reduceCtorEq, Int.reduceBEq, Int.reduceBNe, Int.reduceLT, Int.reduceLE, Int.reduceAdd, Int.reduceSub, Int.reduceMul, Int.reduceNeg, Int.reduceEq, Int.reduceToNat, h1])
      all_goals rfl
  | m + 1, i, j, B, hB, hj, hm => by
    subst hj
    have hB' := hB
    have h1 : decide ((i : Int) < (rows.length : Int)) = true := by rw [decide_eq_true_eq]; omega
    obtain ⟨v, hv⟩ := some_at (l := rows) (i := i) (by omega)
    have hg := row_get hv
    have hg2 : (rows.map rowV)[i]? = some (rowV v) := by simp [hv]
    have hw := next_id (i := i) (n := rows.length) (by omega) (by omega)
    have hsh := r_Shown v.k v.n v.s
    rw [Val.eta] at hsh
    rw [drop_get hv]
    have ih := l_Read s rows hl X H b hX ks m (i + 1) _ B hB' rfl (by omega)
    cases hq : showS v == s with
    | true =>
      rcases hX with ⟨rfl, rfl, rfl⟩ | ⟨rfl, rfl, rfl⟩
      · unfold Loop at hB
        simp -implicitDefEqProofs only [↓reduceIte, go_sem, Nat.reduceAdd, Nat.reduceSub, Nat.reduceMul, Nat.reduceBEq, Nat.reduceLeDiff, Nat.reduceLT, Nat.reduceEqDiff, reduceCtorEq, Int.reduceBEq, Int.reduceBNe, Int.reduceLT, Int.reduceLE, Int.reduceAdd, Int.reduceSub, Int.reduceMul, Int.reduceNeg, Int.reduceEq, Int.reduceToNat, Tryz.f12, loopOf] at hB
        subst hB
        rw [RL_eq]
        simp -implicitDefEqProofs only [↓reduceIte, go_sem, Nat.reduceAdd, Nat.reduceSub, Nat.reduceMul, Nat.reduceBEq, Nat.reduceLeDiff, Nat.reduceLT, Nat.reduceEqDiff, reduceCtorEq, Int.reduceBEq, Int.reduceBNe, Int.reduceLT, Int.reduceLE, Int.reduceAdd, Int.reduceSub, Int.reduceMul, Int.reduceNeg, Int.reduceEq, Int.reduceToNat, h1, hg, hg2, rowV, hsh, hq, Int.toNat_natCast]
        repeat' ((first | refine split_cond (fun hc => ?_) (fun hc => ?_) | refine split_yes (fun hc => ?_) (fun hc => ?_) | refine split_no (fun hc => ?_) (fun hc => ?_)) <;> simp -implicitDefEqProofs only [hc, ↓reduceIte, go_sem, Nat.reduceAdd, Nat.reduceSub, Nat.reduceMul, Nat.reduceBEq, Nat.reduceLeDiff, Nat.reduceLT, Nat.reduceEqDiff, reduceCtorEq, Int.reduceBEq, Int.reduceBNe, Int.reduceLT, Int.reduceLE, Int.reduceAdd, Int.reduceSub, Int.reduceMul, Int.reduceNeg, Int.reduceEq, Int.reduceToNat, h1, hg, hg2, rowV, hsh, hq, Int.toNat_natCast])
        simp only [List.find?_cons, hq]
        all_goals rfl
      · unfold Loop at hB
        simp -implicitDefEqProofs only [↓reduceIte, go_sem, Nat.reduceAdd, Nat.reduceSub, Nat.reduceMul, Nat.reduceBEq, Nat.reduceLeDiff, Nat.reduceLT, Nat.reduceEqDiff, reduceCtorEq, Int.reduceBEq, Int.reduceBNe, Int.reduceLT, Int.reduceLE, Int.reduceAdd, Int.reduceSub, Int.reduceMul, Int.reduceNeg, Int.reduceEq, Int.reduceToNat, Tryz.f12, loopOf] at hB
        subst hB
        rw [RL_eq]
        simp -implicitDefEqProofs only [↓reduceIte, go_sem, Nat.reduceAdd, Nat.reduceSub, Nat.reduceMul, Nat.reduceBEq, Nat.reduceLeDiff, Nat.reduceLT, Nat.reduceEqDiff, reduceCtorEq, Int.reduceBEq, Int.reduceBNe, Int.reduceLT, Int.reduceLE, Int.reduceAdd, Int.reduceSub, Int.reduceMul, Int.reduceNeg, Int.reduceEq, Int.reduceToNat, h1, hg, hg2, rowV, hsh, hq, Int.toNat_natCast]
        repeat' ((first | refine split_cond (fun hc => ?_) (fun hc => ?_) | refine split_yes (fun hc => ?_) (fun hc => ?_) | refine split_no (fun hc => ?_) (fun hc => ?_)) <;> simp -implicitDefEqProofs only [hc, ↓reduceIte, go_sem, Nat.reduceAdd, Nat.reduceSub, Nat.reduceMul, Nat.reduceBEq, Nat.reduceLeDiff, Nat.reduceLT, Nat.reduceEqDiff, reduceCtorEq, Int.reduceBEq, Int.reduceBNe, Int.reduceLT, Int.reduceLE, Int.reduceAdd, Int.reduceSub, Int.reduceMul, Int.reduceNeg, Int.reduceEq, Int.reduceToNat, h1, hg, hg2, rowV, hsh, hq, Int.toNat_natCast])
        simp only [List.find?_cons, hq]
        all_goals rfl
    | false =>
      rcases hX with ⟨rfl, rfl, rfl⟩ | ⟨rfl, rfl, rfl⟩
      · unfold Loop at hB
        simp -implicitDefEqProofs only [↓reduceIte, go_sem, Nat.reduceAdd, Nat.reduceSub, Nat.reduceMul, Nat.reduceBEq, Nat.reduceLeDiff, Nat.reduceLT, Nat.reduceEqDiff, reduceCtorEq, Int.reduceBEq, Int.reduceBNe, Int.reduceLT, Int.reduceLE, Int.reduceAdd, Int.reduceSub, Int.reduceMul, Int.reduceNeg, Int.reduceEq, Int.reduceToNat, Tryz.f12, loopOf] at hB
        subst hB
        rw [RL_eq]
        simp -implicitDefEqProofs only [↓reduceIte, go_sem, Nat.reduceAdd, Nat.reduceSub, Nat.reduceMul, Nat.reduceBEq, Nat.reduceLeDiff, Nat.reduceLT, Nat.reduceEqDiff, reduceCtorEq, Int.reduceBEq, Int.reduceBNe, Int.reduceLT, Int.reduceLE, Int.reduceAdd, Int.reduceSub, Int.reduceMul, Int.reduceNeg, Int.reduceEq, Int.reduceToNat, h1, hg, hg2, rowV, hsh, hq, hw, Int.toNat_natCast]
        repeat' ((first | refine split_cond (fun hc => ?_) (fun hc => ?_) | refine split_yes (fun hc => ?_) (fun hc => ?_) | refine split_no (fun hc => ?_) (fun hc => ?_)) <;> simp -implicitDefEqProofs only [hc, ↓reduceIte, go_sem, Nat.reduceAdd, Nat.reduceSub, Nat.reduceMul, Nat.reduceBEq, Nat.reduceLeDiff, Nat.reduceLT, Nat.reduceEqDiff, reduceCtorEq, Int.reduceBEq, Int.reduceBNe, Int.reduceLT, Int.reduceLE, Int.reduceAdd, Int.reduceSub, Int.reduceMul, Int.reduceNeg, Int.reduceEq, Int.reduceToNat, h1, hg, hg2, rowV, hsh, hq, hw, Int.toNat_natCast])
        rw [ih]
        simp only [List.find?_cons, hq]
        cases List.find? (fun v => showS v == s) (List.drop (i + 1) rows) <;> rfl
      · unfold Loop at hB
        simp -implicitDefEqProofs only [↓reduceIte, go_sem, Nat.reduceAdd, Nat.reduceSub, Nat.reduceMul, Nat.reduceBEq, Nat.reduceLeDiff, Nat.reduceLT, Nat.reduceEqDiff, reduceCtorEq, Int.reduceBEq, Int.reduceBNe, Int.reduceLT, Int.reduceLE, Int.reduceAdd, Int.reduceSub, Int.reduceMul, Int.reduceNeg, Int.reduceEq, Int.reduceToNat, Tryz.f12, loopOf] at hB
        subst hB
        rw [RL_eq]
        simp -implicitDefEqProofs only [↓reduceIte, go_sem, Nat.reduceAdd, Nat.reduceSub, Nat.reduceMul, Nat.reduceBEq, Nat.reduceLeDiff, Nat.reduceLT, Nat.reduceEqDiff, reduceCtorEq, Int.reduceBEq, Int.reduceBNe, Int.reduceLT, Int.reduceLE, Int.reduceAdd, Int.reduceSub, Int.reduceMul, Int.reduceNeg, Int.reduceEq, Int.reduceToNat, h1, hg, hg2, rowV, hsh, hq, hw, Int.toNat_natCast]
        repeat' ((first | refine split_cond (fun hc => ?_) (fun hc => ?_) | refine split_yes (fun hc => ?_) (fun hc => ?_) | refine split_no (fun hc => ?_) (fun hc => ?_)) <;> simp -implicitDefEqProofs only [hc, ↓reduceIte, go_sem, Nat.reduceAdd, Nat.reduceSub, Nat.reduceMul, Nat.reduceBEq, Nat.reduceLeDiff, Nat.reduceLT, Nat.reduceEqDiff, reduceCtorEq, Int.reduceBEq, Int.reduceBNe, Int.reduceLT, Int.reduceLE, Int.reduceAdd, Int.reduceSub, Int.reduceMul, Int.reduceNeg, Int.reduceEq, Int.reduceToNat, h1, hg, hg2, rowV, hsh, hq, hw, Int.toNat_natCast])
        rw [ih]
        simp only [List.find?_cons, hq]
        cases List.find? (fun v => showS v == s) (List.drop (i + 1) rows) <;> rfl
theorem opt_len {α : Type} (p : Prop) [Decidable p] (x : α) : (if p then [x] else []).length ≤ 1 := by split <;> simp
theorem cands_len (s : List UInt8) : (candsS s).length ≤ 6 := by
  unfold candsS
  simp only [List.length_append, List.length_cons, List.length_nil]
  have h2 := opt_len (1 < s.length ∧ s[0]? = some 39) (textS (Lib.replaceAll (cut s 1 (s.length - 1)) [39, 39] [39]))
  have h3 := opt_len ((dreadS (Lib.trimPrefix s [64])).k = 4) (dreadS (Lib.trimPrefix s [64]))
  cases atoiN s with
  | none => simp only [List.length_nil]; omega
  | some n => simp only [List.length_cons, List.length_nil]; omega
theorem r_ReadValue (s : List UInt8) (hs : s.length ≤ 10000000) : R K (.call 12 [.str s] []) = some (.tup [enc (readRS s).1, I (readRS s).2], []) := by
  obtain ⟨r, hr, hf⟩ := r_candidates s hs
  have hl := cands_len s
  generalize hrows : candsS s = rows at hf hl
  have fin : readRS s = match rows.find? fun v => showS v == s with
    | some v => (v, 0)
    | none => (null, 14) := by
    unfold readRS
    rw [hrows]
    cases List.find? (fun v => showS v == s) rows <;> rfl
  rw [fin]
  rcases hf with rfl | rfl
  · rw [call_12]
    simp -implicitDefEqProofs only [↓reduceIte, go_sem, Nat.reduceAdd, Nat.reduceSub, Nat.reduceMul, Nat.reduceBEq, Nat.reduceLeDiff, Nat.reduceLT, Nat.reduceEqDiff, reduceCtorEq, Int.reduceBEq, Int.reduceBNe, Int.reduceLT, Int.reduceLE, Int.reduceAdd, Int.reduceSub, Int.reduceMul, Int.reduceNeg, Int.reduceEq, Int.reduceToNat, Tryz.f12, hr]
    repeat' ((first | refine split_cond (fun hc => ?_) (fun hc => ?_) | refine split_yes (fun hc => ?_) (fun hc => ?_) | refine split_no (fun hc => ?_) (fun hc => ?_)) <;> simp -implicitDefEqProofs only [hc, ↓reduceIte, go_sem, Nat.reduceAdd, Nat.reduceSub, Nat.reduceMul, Nat.reduceBEq, Nat.reduceLeDiff, Nat.reduceLT, Nat.reduceEqDiff, reduceCtorEq, Int.reduceBEq, Int.reduceBNe, Int.reduceLT, Int.reduceLE, Int.reduceAdd, Int.reduceSub, Int.reduceMul, Int.reduceNeg, Int.reduceEq, Int.reduceToNat, hr])
    rw [l_Read s rows (by omega) _ _ 1 (.inl ⟨rfl, rfl, rfl⟩) _ rows.length 0 0 _ ?_ rfl (by omega), List.drop_zero]
    · cases rows.find? fun v => showS v == s with
      | some v => rfl
      | none =>
        simp only [List.take_succ_cons, List.take_zero, List.take_nil]
        simp -implicitDefEqProofs only [↓reduceIte, go_sem, Nat.reduceAdd, Nat.reduceSub, Nat.reduceMul, Nat.reduceBEq, Nat.reduceLeDiff, Nat.reduceLT, Nat.reduceEqDiff, reduceCtorEq, Int.reduceBEq, Int.reduceBNe, Int.reduceLT, Int.reduceLE, Int.reduceAdd, Int.reduceSub, Int.reduceMul, Int.reduceNeg, Int.reduceEq, Int.reduceToNat]
        repeat' ((first | refine split_cond (fun hc => ?_) (fun hc => ?_) | refine split_yes (fun hc => ?_) (fun hc => ?_) | refine split_no (fun hc => ?_) (fun hc => ?_)) <;> simp -implicitDefEqProofs only [hc, ↓reduceIte, go_sem, Nat.reduceAdd, Nat.reduceSub, Nat.reduceMul, Nat.reduceBEq, Nat.reduceLeDiff, Nat.reduceLT, Nat.reduceEqDiff, reduceCtorEq, Int.reduceBEq, Int.reduceBNe, Int.reduceLT, Int.reduceLE, Int.reduceAdd, Int.reduceSub, Int.reduceMul, Int.reduceNeg, Int.reduceEq, Int.reduceToNat])
        all_goals rfl
    · rfl
  · rw [List.length_map] at hr
    rw [call_12]
    simp -implicitDefEqProofs only [↓reduceIte, go_sem, Nat.reduceAdd, Nat.reduceSub, Nat.reduceMul, Nat.reduceBEq, Nat.reduceLeDiff, Nat.reduceLT, Nat.reduceEqDiff, reduceCtorEq, Int.reduceBEq, Int.reduceBNe, Int.reduceLT, Int.reduceLE, Int.reduceAdd, Int.reduceSub, Int.reduceMul, Int.reduceNeg, Int.reduceEq, Int.reduceToNat, Tryz.f12, hr]
    repeat' ((first | refine split_cond (fun hc => ?_) (fun hc => ?_) | refine split_yes (fun hc => ?_) (fun hc => ?_) | refine split_no (fun hc => ?_) (fun hc => ?_)) <;> simp -implicitDefEqProofs only [hc, ↓reduceIte, go_sem, Nat.reduceAdd, Nat.reduceSub, Nat.reduceMul, Nat.reduceBEq, Nat.reduceLeDiff, Nat.reduceLT, Nat.reduceEqDiff, reduceCtorEq, Int.reduceBEq, Int.reduceBNe, Int.reduceLT, Int.reduceLE, Int.reduceAdd, Int.reduceSub, Int.reduceMul, Int.reduceNeg, Int.reduceEq, Int.reduceToNat, hr])
    rw [l_Read s rows (by omega) _ _ 2 (.inr ⟨rfl, rfl, rfl⟩) _ rows.length 0 0 _ ?_ rfl (by omega), List.drop_zero]
    · cases rows.find? fun v => showS v == s with
      | some v => rfl
      | none =>
        simp only [List.take_succ_cons, List.take_zero, List.take_nil]
        simp -implicitDefEqProofs only [↓reduceIte, go_sem, Nat.reduceAdd, Nat.reduceSub, Nat.reduceMul, Nat.reduceBEq, Nat.reduceLeDiff, Nat.reduceLT, Nat.reduceEqDiff, reduceCtorEq, Int.reduceBEq, Int.reduceBNe, Int.reduceLT, Int.reduceLE, Int.reduceAdd, Int.reduceSub, Int.reduceMul, Int.reduceNeg, Int.reduceEq, Int.reduceToNat]
        repeat' ((first | refine split_cond (fun hc => ?_) (fun hc => ?_) | refine split_yes (fun hc => ?_) (fun hc => ?_) | refine split_no (fun hc => ?_) (fun hc => ?_)) <;> simp -implicitDefEqProofs only [hc, ↓reduceIte, go_sem, Nat.reduceAdd, Nat.reduceSub, Nat.reduceMul, Nat.reduceBEq, Nat.reduceLeDiff, Nat.reduceLT, Nat.reduceEqDiff, reduceCtorEq, Int.reduceBEq, Int.reduceBNe, Int.reduceLT, Int.reduceLE, Int.reduceAdd, Int.reduceSub, Int.reduceMul, Int.reduceNeg, Int.reduceEq, Int.reduceToNat])
        all_goals rfl
    · rfl
theorem texts_of (k n : Int) (s t u : List UInt8) (x y : Val) (e f : Int)
   (h1 : R K (.call 11 [.str t] []) = some (.tup [enc x, I e], [])) (h2 : R K (.call 12 [.str t] []) = some (.tup [enc x, I e], []))
   (h3 : R K (.call 13 [V k n s] []) = some (.str u, [])) (h4 : R K (.call 14 [V k n s] []) = some (.str u, []))
   (h5 : R K (.call 11 [.str u] []) = some (.tup [enc y, I f], [])) (h6 : R K (.call 12 [.str u] []) = some (.tup [enc y, I f], [])) :
   R K (.call 3 [V k n s, .str t] []) = some (.bool true, []) := by
  rw [call_3]
  simp -implicitDefEqProofs only [↓reduceIte, go_sem, Nat.reduceAdd, Nat.reduceSub, Nat.reduceMul, Nat.reduceBEq, Nat.reduceLeDiff, Nat.reduceLT, Nat.reduceEqDiff, reduceCtorEq, Int.reduceBEq, Int.reduceBNe, Int.reduceLT, Int.reduceLE, Int.reduceAdd, Int.reduceSub, Int.reduceMul, Int.reduceNeg, Int.reduceEq, Int.reduceToNat, Tryz.f3, h1, h2, h3, h4, h5, h6, r_values, beq_self_eq_true]
  repeat' ((first | refine split_cond (fun hc => ?_) (fun hc => ?_) | refine split_yes (fun hc => ?_) (fun hc => ?_) | refine split_no (fun hc => ?_) (fun hc => ?_)) <;> simp -implicitDefEqProofs only [hc, ↓reduceIte, go_sem, Nat.reduceAdd, Nat.reduceSub, Nat.reduceMul, Nat.reduceBEq, Nat.reduceLeDiff, Nat.reduceLT, Nat.reduceEqDiff, reduceCtorEq, Int.reduceBEq, Int.reduceBNe, Int.reduceLT, Int.reduceLE, Int.reduceAdd, Int.reduceSub, Int.reduceMul, Int.reduceNeg, Int.reduceEq, Int.reduceToNat, h1, h2, h3, h4, h5, h6, r_values, beq_self_eq_true])
theorem show_len (v : Val) : (showS v).length ≤ 1000 := by
  rcases plain_kinds v with h | h | h | h | h
  · simp [showS, h]
  · simp only [showS, h, if_true]
    cases (plainV v).n == 1 <;> decide
  · simp only [showS, h]
    have hb := right_bounds v
    have := Lib.itoa_length_le (plainV v).n (by have := hb.2.1; omega) (by have := hb.2.1; omega)
    simp only [if_pos, Int.reduceEq, if_neg, if_false, if_true]; omega
  · simp only [showS, h]
    have hl := (plain3 v h).1
    have hn := replace_len (plainV v).s [39] [39, 39]
    simp only [Int.reduceEq, if_false, if_true, List.length_append, List.length_cons, List.length_nil] at hn ⊢
    omega
  · have hb := plain_moment h
    have hl := dtext_len hb.1 hb.2
    simp only [showS, h, Int.reduceEq, if_false, if_true, List.length_append, List.length_cons, List.length_nil]
    omega
theorem law_texts (k n : Int) (s t : List UInt8) (ht : t.length ≤ 10000000) : R K (.call 3 [V k n s, .str t] []) = some (.bool true, []) := by
  have hl := show_len ⟨k, n, s⟩
  exact texts_of k n s t _ _ _ _ _ (c_Read t ht) (by rw [r_ReadValue t ht, read_law]) (c_Show k n s) (r_Shown k n s) (c_Read _ (by omega)) (by rw [r_ReadValue _ (by omega), read_law])
end Go.Ab
