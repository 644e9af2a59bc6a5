/- What is proved: how values of the program are spelled for the evaluator; lemmas for loops. What is proved: what the small functions of package value compute (right values, three-valued logic, order, numbers). What is proved: what the functions of package value on numbers and texts compute. Conditions: lists that are not too long for an int. What is proved: what the reference's functions on values and truths compute. What is proved: what the reference's functions on values and truths compute. What is proved: what the reference's functions on truths and on the order compute. What is proved: what the reference's operations on truths and on the order compute. What is proved: the laws on truths and on the order, in plain terms; the law ValueLogic of the evaluator. What is proved: the law ValueLogic in the evaluator. Conditions: none. -/
import Derived.Test.YtnckdofnpjaibaaGreatDoorMC
import Derived.IntWalk
import Derived.KernelRfl
set_option linter.unusedSimpArgs false
set_option linter.unusedVariables false
namespace Go.Ab
open Go Go.Proofs

/-- A value: its kind, its number, its text. -/
structure Val where
  k : Int
  n : Int
  s : List UInt8
  deriving DecidableEq
@[go_sem] def enc (v : Val) : AV := .agg [.int .i64 v.k, .int .i64 v.n, .str v.s]
@[go_sem] theorem Val.eta (v : Val) : Val.mk v.k v.n v.s = v := rfl
def null : Val := ⟨0, 0, []⟩

/-- The body of a loop, by its block. -/
def loopOf : Code → Nat → Option Code
  | .seq a b, i => match loopOf a i with
    | some c => some c
    | none => loopOf b i
  | .cond _ a b, i => match loopOf a i with
    | some c => some c
    | none => loopOf b i
  | .block j c, i => if j = i then (match c with
    | .loop b => some b
    | _ => none) else loopOf c i
  | .loop c, i => loopOf c i
  | _, _ => none
def Loop (f : Func) (i : Nat) (B : Code) : Prop := loopOf (f.body.getD .skip) i = some B

@[go_sem] theorem wrap_id {n : Int} (h1 : -9223372036854775808 ≤ n) (h2 : n ≤ 9223372036854775807) : wrapI .i64 n = n := by
  exact IntWalk.i64_in _ ⟨h1, h2⟩
theorem at_get {α : Type} {l : List α} {i : Nat} {x : α} (h : l[i]? = some x) : at? l (i : Int) = some x := by
  simp [at?, h]
theorem byte_get {s : List UInt8} {i : Nat} {b : UInt8} (h : s[i]? = some b) : at? s (i : Int) = some b := at_get h
theorem drop_get {α : Type} {l : List α} {i : Nat} {x : α} (h : l[i]? = some x) : l.drop i = x :: l.drop (i + 1) := by
  obtain ⟨h1, h2⟩ := List.getElem?_eq_some_iff.1 h
  rw [List.drop_eq_getElem_cons h1, h2]
end Go.Ab
namespace Go.Ab
open Go Go.Proofs
set_option maxRecDepth 100000
abbrev V (k n : Int) (s : List UInt8) : AV := .agg [.int .i64 k, .int .i64 n, .str s]
def rowV (v : Val) : List AV := [.int .i64 v.k, .int .i64 v.n, .str v.s]

def within (n a b : Int) : Bool := decide (a ≤ n) && decide (n ≤ b)
theorem c_within (n a b : Int) : R K (.call 74 [.int .i64 n, .int .i64 a, .int .i64 b] []) = some (.bool (within n a b), []) := by
  rw [call_74]
  simp -implicitDefEqProofs only [↓reduceIte, go_sem, Nat.reduceAdd, Nat.reduceSub, Nat.reduceMul, Nat.reduceBEq, Nat.reduceLeDiff, Nat.reduceLT, Nat.reduceEqDiff, reduceCtorEq, Int.reduceBEq, Int.reduceBNe, Int.reduceLT, Int.reduceLE, Int.reduceAdd, Int.reduceSub, Int.reduceMul, Int.reduceNeg, Int.reduceEq, Int.reduceToNat, Tryz.f74]
  repeat' (first | (refine split_cond (fun hc => ?_) (fun hc => ?_) <;> simp -implicitDefEqProofs only [hc, ↓reduceIte, go_sem, Nat.reduceAdd, Nat.reduceSub, Nat.reduceMul, Nat.reduceBEq, Nat.reduceLeDiff, Nat.reduceLT, Nat.reduceEqDiff, reduceCtorEq, Int.reduceBEq, Int.reduceBNe, Int.reduceLT, Int.reduceLE, Int.reduceAdd, Int.reduceSub, Int.reduceMul, Int.reduceNeg, Int.reduceEq, Int.reduceToNat]) | (refine split_yes (fun hc => ?_) (fun hc => ?_) <;> simp -implicitDefEqProofs only [hc, ↓reduceIte, go_sem, Nat.reduceAdd, Nat.reduceSub, Nat.reduceMul, Nat.reduceBEq, Nat.reduceLeDiff, Nat.reduceLT, Nat.reduceEqDiff, reduceCtorEq, Int.reduceBEq, Int.reduceBNe, Int.reduceLT, Int.reduceLE, Int.reduceAdd, Int.reduceSub, Int.reduceMul, Int.reduceNeg, Int.reduceEq, Int.reduceToNat]) | (refine split_no (fun hc => ?_) (fun hc => ?_) <;> simp -implicitDefEqProofs only [hc, ↓reduceIte, go_sem, Nat.reduceAdd, Nat.reduceSub, Nat.reduceMul, Nat.reduceBEq, Nat.reduceLeDiff, Nat.reduceLT, Nat.reduceEqDiff, reduceCtorEq, Int.reduceBEq, Int.reduceBNe, Int.reduceLT, Int.reduceLE, Int.reduceAdd, Int.reduceSub, Int.reduceMul, Int.reduceNeg, Int.reduceEq, Int.reduceToNat]))
  all_goals simp [within, *]
theorem r_within (n a b : Int) : R K (.call 75 [.int .i64 n, .int .i64 a, .int .i64 b] []) = some (.bool (within n a b), []) := by
  rw [call_75]
  simp -implicitDefEqProofs only [↓reduceIte, go_sem, Nat.reduceAdd, Nat.reduceSub, Nat.reduceMul, Nat.reduceBEq, Nat.reduceLeDiff, Nat.reduceLT, Nat.reduceEqDiff, reduceCtorEq, Int.reduceBEq, Int.reduceBNe, Int.reduceLT, Int.reduceLE, Int.reduceAdd, Int.reduceSub, Int.reduceMul, Int.reduceNeg, Int.reduceEq, Int.reduceToNat, Tryz.f75]
  repeat' (first | (refine split_cond (fun hc => ?_) (fun hc => ?_) <;> simp -implicitDefEqProofs only [hc, ↓reduceIte, go_sem, Nat.reduceAdd, Nat.reduceSub, Nat.reduceMul, Nat.reduceBEq, Nat.reduceLeDiff, Nat.reduceLT, Nat.reduceEqDiff, reduceCtorEq, Int.reduceBEq, Int.reduceBNe, Int.reduceLT, Int.reduceLE, Int.reduceAdd, Int.reduceSub, Int.reduceMul, Int.reduceNeg, Int.reduceEq, Int.reduceToNat]) | (refine split_yes (fun hc => ?_) (fun hc => ?_) <;> simp -implicitDefEqProofs only [hc, ↓reduceIte, go_sem, Nat.reduceAdd, Nat.reduceSub, Nat.reduceMul, Nat.reduceBEq, Nat.reduceLeDiff, Nat.reduceLT, Nat.reduceEqDiff, reduceCtorEq, Int.reduceBEq, Int.reduceBNe, Int.reduceLT, Int.reduceLE, Int.reduceAdd, Int.reduceSub, Int.reduceMul, Int.reduceNeg, Int.reduceEq, Int.reduceToNat]) | (refine split_no (fun hc => ?_) (fun hc => ?_) <;> simp -implicitDefEqProofs only [hc, ↓reduceIte, go_sem, Nat.reduceAdd, Nat.reduceSub, Nat.reduceMul, Nat.reduceBEq, Nat.reduceLeDiff, Nat.reduceLT, Nat.reduceEqDiff, reduceCtorEq, Int.reduceBEq, Int.reduceBNe, Int.reduceLT, Int.reduceLE, Int.reduceAdd, Int.reduceSub, Int.reduceMul, Int.reduceNeg, Int.reduceEq, Int.reduceToNat]))
  all_goals simp [within, *]
def formS (v : Val) : Bool := if v.k = 0 then v.n == 0 && v.s == [] else if v.k = 3 then v.n == 0 else within v.k 1 4 && v.s == []
theorem c_form (k n : Int) (s : List UInt8) : R K (.call 119 [V k n s] []) = some (.bool (formS ⟨k, n, s⟩), []) := by
  rw [call_119]
  simp -implicitDefEqProofs only [↓reduceIte, go_sem, Nat.reduceAdd, Nat.reduceSub, Nat.reduceMul, Nat.reduceBEq, Nat.reduceLeDiff, Nat.reduceLT, Nat.reduceEqDiff, reduceCtorEq, Int.reduceBEq, Int.reduceBNe, Int.reduceLT, Int.reduceLE, Int.reduceAdd, Int.reduceSub, Int.reduceMul, Int.reduceNeg, Int.reduceEq, Int.reduceToNat, Tryz.f119, c_within]
  repeat' (first | (refine split_cond (fun hc => ?_) (fun hc => ?_) <;> simp -implicitDefEqProofs only [hc, ↓reduceIte, go_sem, Nat.reduceAdd, Nat.reduceSub, Nat.reduceMul, Nat.reduceBEq, Nat.reduceLeDiff, Nat.reduceLT, Nat.reduceEqDiff, reduceCtorEq, Int.reduceBEq, Int.reduceBNe, Int.reduceLT, Int.reduceLE, Int.reduceAdd, Int.reduceSub, Int.reduceMul, Int.reduceNeg, Int.reduceEq, Int.reduceToNat, c_within]) | (refine split_yes (fun hc => ?_) (fun hc => ?_) <;> simp -implicitDefEqProofs only [hc, ↓reduceIte, go_sem, Nat.reduceAdd, Nat.reduceSub, Nat.reduceMul, Nat.reduceBEq, Nat.reduceLeDiff, Nat.reduceLT, Nat.reduceEqDiff, reduceCtorEq, Int.reduceBEq, Int.reduceBNe, Int.reduceLT, Int.reduceLE, Int.reduceAdd, Int.reduceSub, Int.reduceMul, Int.reduceNeg, Int.reduceEq, Int.reduceToNat, c_within]) | (refine split_no (fun hc => ?_) (fun hc => ?_) <;> simp -implicitDefEqProofs only [hc, ↓reduceIte, go_sem, Nat.reduceAdd, Nat.reduceSub, Nat.reduceMul, Nat.reduceBEq, Nat.reduceLeDiff, Nat.reduceLT, Nat.reduceEqDiff, reduceCtorEq, Int.reduceBEq, Int.reduceBNe, Int.reduceLT, Int.reduceLE, Int.reduceAdd, Int.reduceSub, Int.reduceMul, Int.reduceNeg, Int.reduceEq, Int.reduceToNat, c_within]))
  all_goals simp_all [formS]
def ok7 (s : List UInt8) : Bool := s.all fun c => decide (32 ≤ c.toNat) && decide (c.toNat ≤ 126)
theorem ok7_cons (b : UInt8) (s : List UInt8) : ok7 (b :: s) = (decide (32 ≤ b.toNat) && decide (b.toNat ≤ 126) && ok7 s) := by simp [ok7]
theorem l_range (k n : Int) (s : List UInt8) (hs : s.length ≤ 100) (ks : List It) : ∀ (m i : Nat) (j : Int) (B : Code), Loop Tryz.f120 1 B → j = (i : Int) → s.length = i + m →
   RL K (.run 120 0 (.code B :: .lp B (some ([1, 23, 24], [])) 1 :: .blk 1 1 :: ks) [(1, .ptr 0 0), (23, .int .i64 s.length), (24, .int .i64 j)] [.cells [.int .i64 k, .int .i64 n, .str s]]) =
   if ok7 (s.drop i) = true then R K (.run 120 0 ks [] [.cells [.int .i64 k, .int .i64 n, .str s]]) else some (.bool false, [])
  | 0, i, j, B, hB, hj, hm => by
    subst hj
    have h1 : ¬ ((i : Int) < (s.length : Int)) := by omega
    unfold Loop at hB
    simp -implicitDefEqProofs only [↓reduceIte, go_sem, Nat.reduceAdd, Nat.reduceSub, Nat.reduceMul, Nat.reduceBEq, Nat.reduceLeDiff, Nat.reduceLT, Nat.reduceEqDiff, reduceCtorEq, Int.reduceBEq, Int.reduceBNe, Int.reduceLT, Int.reduceLE, Int.reduceAdd, Int.reduceSub, Int.reduceMul, Int.reduceNeg, Int.reduceEq, Int.reduceToNat, Tryz.f120, loopOf] at hB
    subst hB
    rw [RL_eq]
    simp -implicitDefEqProofs only [↓reduceIte, go_sem, Nat.reduceAdd, Nat.reduceSub, Nat.reduceMul, Nat.reduceBEq, Nat.reduceLeDiff, Nat.reduceLT, Nat.reduceEqDiff, reduceCtorEq, Int.reduceBEq, Int.reduceBNe, Int.reduceLT, Int.reduceLE, Int.reduceAdd, Int.reduceSub, Int.reduceMul, Int.reduceNeg, Int.reduceEq, Int.reduceToNat, h1]
    repeat' (first | (refine split_cond (fun hc => ?_) (fun hc => ?_) <;> simp -implicitDefEqProofs only [hc, ↓reduceIte, go_sem, Nat.reduceAdd, Nat.reduceSub, Nat.reduceMul, Nat.reduceBEq, Nat.reduceLeDiff, Nat.reduceLT, Nat.reduceEqDiff, reduceCtorEq, Int.reduceBEq, Int.reduceBNe, Int.reduceLT, Int.reduceLE, Int.reduceAdd, Int.reduceSub, Int.reduceMul, Int.reduceNeg, Int.reduceEq, Int.reduceToNat, h1]) | (refine split_yes (fun hc => ?_) (fun hc => ?_) <;> simp -implicitDefEqProofs only [hc, ↓reduceIte, go_sem, Nat.reduceAdd, Nat.reduceSub, Nat.reduceMul, Nat.reduceBEq, Nat.reduceLeDiff, Nat.reduceLT, Nat.reduceEqDiff, reduceCtorEq, Int.reduceBEq, Int.reduceBNe, Int.reduceLT, Int.reduceLE, Int.reduceAdd, Int.reduceSub, Int.reduceMul, Int.reduceNeg, Int.reduceEq, Int.reduceToNat, h1]) | (refine split_no (fun hc => ?_) (fun hc => ?_) <;> simp -implicitDefEqProofs only [hc, ↓reduceIte, go_sem, Nat.reduceAdd, Nat.reduceSub, Nat.reduceMul, Nat.reduceBEq, Nat.reduceLeDiff, Nat.reduceLT, Nat.reduceEqDiff, reduceCtorEq, Int.reduceBEq, Int.reduceBNe, Int.reduceLT, Int.reduceLE, Int.reduceAdd, Int.reduceSub, Int.reduceMul, Int.reduceNeg, Int.reduceEq, Int.reduceToNat, h1]))
    rw [List.drop_of_length_le (by omega)]
    rfl
  | m + 1, i, j, B, hB, hj, hm => by
    subst hj
    have h1 : ((i : Int) < (s.length : Int)) := by omega
    have hB' := hB
    obtain ⟨b, hb⟩ : ∃ b, s[i]? = some b := ⟨s[i]'(by omega), List.getElem?_eq_getElem _⟩
    have hg := byte_get hb
    have hw : wrapI .i64 ((i : Int) + 1) = ((i + 1 : Nat) : Int) := by rw [wrap_id (by omega) (by omega)]; rfl
    unfold Loop at hB
    simp -implicitDefEqProofs only [↓reduceIte, go_sem, Nat.reduceAdd, Nat.reduceSub, Nat.reduceMul, Nat.reduceBEq, Nat.reduceLeDiff, Nat.reduceLT, Nat.reduceEqDiff, reduceCtorEq, Int.reduceBEq, Int.reduceBNe, Int.reduceLT, Int.reduceLE, Int.reduceAdd, Int.reduceSub, Int.reduceMul, Int.reduceNeg, Int.reduceEq, Int.reduceToNat, Tryz.f120, loopOf] at hB
    subst hB
    rw [RL_eq]
    rw [drop_get hb]
    have ih := l_range k n s hs ks m (i + 1) _ _ hB' rfl (by omega)
    simp -implicitDefEqProofs only [↓reduceIte, go_sem, Nat.reduceAdd, Nat.reduceSub, Nat.reduceMul, Nat.reduceBEq, Nat.reduceLeDiff, Nat.reduceLT, Nat.reduceEqDiff, reduceCtorEq, Int.reduceBEq, Int.reduceBNe, Int.reduceLT, Int.reduceLE, Int.reduceAdd, Int.reduceSub, Int.reduceMul, Int.reduceNeg, Int.reduceEq, Int.reduceToNat, h1, hg, hw]
    repeat' (first | (refine split_cond (fun hc => ?_) (fun hc => ?_) <;> simp -implicitDefEqProofs only [hc, ↓reduceIte, go_sem, Nat.reduceAdd, Nat.reduceSub, Nat.reduceMul, Nat.reduceBEq, Nat.reduceLeDiff, Nat.reduceLT, Nat.reduceEqDiff, reduceCtorEq, Int.reduceBEq, Int.reduceBNe, Int.reduceLT, Int.reduceLE, Int.reduceAdd, Int.reduceSub, Int.reduceMul, Int.reduceNeg, Int.reduceEq, Int.reduceToNat, h1, hg, hw]) | (refine split_yes (fun hc => ?_) (fun hc => ?_) <;> simp -implicitDefEqProofs only [hc, ↓reduceIte, go_sem, Nat.reduceAdd, Nat.reduceSub, Nat.reduceMul, Nat.reduceBEq, Nat.reduceLeDiff, Nat.reduceLT, Nat.reduceEqDiff, reduceCtorEq, Int.reduceBEq, Int.reduceBNe, Int.reduceLT, Int.reduceLE, Int.reduceAdd, Int.reduceSub, Int.reduceMul, Int.reduceNeg, Int.reduceEq, Int.reduceToNat, h1, hg, hw]) | (refine split_no (fun hc => ?_) (fun hc => ?_) <;> simp -implicitDefEqProofs only [hc, ↓reduceIte, go_sem, Nat.reduceAdd, Nat.reduceSub, Nat.reduceMul, Nat.reduceBEq, Nat.reduceLeDiff, Nat.reduceLT, Nat.reduceEqDiff, reduceCtorEq, Int.reduceBEq, Int.reduceBNe, Int.reduceLT, Int.reduceLE, Int.reduceAdd, Int.reduceSub, Int.reduceMul, Int.reduceNeg, Int.reduceEq, Int.reduceToNat, h1, hg, hw]))
    all_goals simp only [decide_eq_true_eq, decide_eq_false_iff_not] at *
    · have : ok7 (b :: s.drop (i + 1)) = false := by simp [ok7_cons]; omega
      simp [this]
    · have : ok7 (b :: s.drop (i + 1)) = false := by simp [ok7_cons]; omega
      simp [this]
    · have : ok7 (b :: s.drop (i + 1)) = ok7 (s.drop (i + 1)) := by
        have : 32 ≤ b.toNat ∧ b.toNat ≤ 126 := by omega
        simp [ok7_cons, this]
      rw [this, ih]
def rangeS (v : Val) : Bool := if v.k = 1 then within v.n 0 1 else if v.k = 2 then within v.n (-999999999999999) 999999999999999 else if v.k = 4 then within v.n 0 253402300799 else ok7 v.s
theorem c_range (k n : Int) (s : List UInt8) (hs : s.length ≤ 100) : R K (.call 120 [V k n s] []) = some (.bool (rangeS ⟨k, n, s⟩), []) := by
  rw [call_120]
  simp -implicitDefEqProofs only [↓reduceIte, go_sem, Nat.reduceAdd, Nat.reduceSub, Nat.reduceMul, Nat.reduceBEq, Nat.reduceLeDiff, Nat.reduceLT, Nat.reduceEqDiff, reduceCtorEq, Int.reduceBEq, Int.reduceBNe, Int.reduceLT, Int.reduceLE, Int.reduceAdd, Int.reduceSub, Int.reduceMul, Int.reduceNeg, Int.reduceEq, Int.reduceToNat, Tryz.f120, c_within]
  repeat' (first | (refine split_cond (fun hc => ?_) (fun hc => ?_) <;> simp -implicitDefEqProofs only [hc, ↓reduceIte, go_sem, Nat.reduceAdd, Nat.reduceSub, Nat.reduceMul, Nat.reduceBEq, Nat.reduceLeDiff, Nat.reduceLT, Nat.reduceEqDiff, reduceCtorEq, Int.reduceBEq, Int.reduceBNe, Int.reduceLT, Int.reduceLE, Int.reduceAdd, Int.reduceSub, Int.reduceMul, Int.reduceNeg, Int.reduceEq, Int.reduceToNat, c_within]) | (refine split_yes (fun hc => ?_) (fun hc => ?_) <;> simp -implicitDefEqProofs only [hc, ↓reduceIte, go_sem, Nat.reduceAdd, Nat.reduceSub, Nat.reduceMul, Nat.reduceBEq, Nat.reduceLeDiff, Nat.reduceLT, Nat.reduceEqDiff, reduceCtorEq, Int.reduceBEq, Int.reduceBNe, Int.reduceLT, Int.reduceLE, Int.reduceAdd, Int.reduceSub, Int.reduceMul, Int.reduceNeg, Int.reduceEq, Int.reduceToNat, c_within]) | (refine split_no (fun hc => ?_) (fun hc => ?_) <;> simp -implicitDefEqProofs only [hc, ↓reduceIte, go_sem, Nat.reduceAdd, Nat.reduceSub, Nat.reduceMul, Nat.reduceBEq, Nat.reduceLeDiff, Nat.reduceLT, Nat.reduceEqDiff, reduceCtorEq, Int.reduceBEq, Int.reduceBNe, Int.reduceLT, Int.reduceLE, Int.reduceAdd, Int.reduceSub, Int.reduceMul, Int.reduceNeg, Int.reduceEq, Int.reduceToNat, c_within]))
  · simp_all [rangeS]
  · simp_all [rangeS]
  · simp_all [rangeS]
  · rw [l_range k n s hs _ s.length 0 0 _ ?_ rfl (by omega), List.drop_zero]
    · split
      · simp -implicitDefEqProofs only [↓reduceIte, go_sem, Nat.reduceAdd, Nat.reduceSub, Nat.reduceMul, Nat.reduceBEq, Nat.reduceLeDiff, Nat.reduceLT, Nat.reduceEqDiff, reduceCtorEq, Int.reduceBEq, Int.reduceBNe, Int.reduceLT, Int.reduceLE, Int.reduceAdd, Int.reduceSub, Int.reduceMul, Int.reduceNeg, Int.reduceEq, Int.reduceToNat]
        repeat' (first | (refine split_cond (fun hc => ?_) (fun hc => ?_) <;> simp -implicitDefEqProofs only [hc, ↓reduceIte, go_sem, Nat.reduceAdd, Nat.reduceSub, Nat.reduceMul, Nat.reduceBEq, Nat.reduceLeDiff, Nat.reduceLT, Nat.reduceEqDiff, reduceCtorEq, Int.reduceBEq, Int.reduceBNe, Int.reduceLT, Int.reduceLE, Int.reduceAdd, Int.reduceSub, Int.reduceMul, Int.reduceNeg, Int.reduceEq, Int.reduceToNat]) | (refine split_yes (fun hc => ?_) (fun hc => ?_) <;> simp -implicitDefEqProofs only [hc, ↓reduceIte, go_sem, Nat.reduceAdd, Nat.reduceSub, Nat.reduceMul, Nat.reduceBEq, Nat.reduceLeDiff, Nat.reduceLT, Nat.reduceEqDiff, reduceCtorEq, Int.reduceBEq, Int.reduceBNe, Int.reduceLT, Int.reduceLE, Int.reduceAdd, Int.reduceSub, Int.reduceMul, Int.reduceNeg, Int.reduceEq, Int.reduceToNat]) | (refine split_no (fun hc => ?_) (fun hc => ?_) <;> simp -implicitDefEqProofs only [hc, ↓reduceIte, go_sem, Nat.reduceAdd, Nat.reduceSub, Nat.reduceMul, Nat.reduceBEq, Nat.reduceLeDiff, Nat.reduceLT, Nat.reduceEqDiff, reduceCtorEq, Int.reduceBEq, Int.reduceBNe, Int.reduceLT, Int.reduceLE, Int.reduceAdd, Int.reduceSub, Int.reduceMul, Int.reduceNeg, Int.reduceEq, Int.reduceToNat]))
        simp_all [rangeS]
      · simp_all [rangeS]
    · rfl
def rightS (v : Val) : Bool := formS v && (decide (v.s.length ≤ 100) && rangeS v)
theorem c_right (k n : Int) (s : List UInt8) : R K (.call 55 [V k n s] []) = some (.bool (rightS ⟨k, n, s⟩), []) := by
  by_cases hs : s.length ≤ 100
  · have hs' : (s.length : Int) ≤ 100 := by omega
    rw [call_55]
    simp -implicitDefEqProofs only [↓reduceIte, go_sem, Nat.reduceAdd, Nat.reduceSub, Nat.reduceMul, Nat.reduceBEq, Nat.reduceLeDiff, Nat.reduceLT, Nat.reduceEqDiff, reduceCtorEq, Int.reduceBEq, Int.reduceBNe, Int.reduceLT, Int.reduceLE, Int.reduceAdd, Int.reduceSub, Int.reduceMul, Int.reduceNeg, Int.reduceEq, Int.reduceToNat, Tryz.f55, c_form, c_range k n s hs, hs']
    repeat' (first | (refine split_cond (fun hc => ?_) (fun hc => ?_) <;> simp -implicitDefEqProofs only [hc, ↓reduceIte, go_sem, Nat.reduceAdd, Nat.reduceSub, Nat.reduceMul, Nat.reduceBEq, Nat.reduceLeDiff, Nat.reduceLT, Nat.reduceEqDiff, reduceCtorEq, Int.reduceBEq, Int.reduceBNe, Int.reduceLT, Int.reduceLE, Int.reduceAdd, Int.reduceSub, Int.reduceMul, Int.reduceNeg, Int.reduceEq, Int.reduceToNat, c_form, c_range k n s hs, hs']) | (refine split_yes (fun hc => ?_) (fun hc => ?_) <;> simp -implicitDefEqProofs only [hc, ↓reduceIte, go_sem, Nat.reduceAdd, Nat.reduceSub, Nat.reduceMul, Nat.reduceBEq, Nat.reduceLeDiff, Nat.reduceLT, Nat.reduceEqDiff, reduceCtorEq, Int.reduceBEq, Int.reduceBNe, Int.reduceLT, Int.reduceLE, Int.reduceAdd, Int.reduceSub, Int.reduceMul, Int.reduceNeg, Int.reduceEq, Int.reduceToNat, c_form, c_range k n s hs, hs']) | (refine split_no (fun hc => ?_) (fun hc => ?_) <;> simp -implicitDefEqProofs only [hc, ↓reduceIte, go_sem, Nat.reduceAdd, Nat.reduceSub, Nat.reduceMul, Nat.reduceBEq, Nat.reduceLeDiff, Nat.reduceLT, Nat.reduceEqDiff, reduceCtorEq, Int.reduceBEq, Int.reduceBNe, Int.reduceLT, Int.reduceLE, Int.reduceAdd, Int.reduceSub, Int.reduceMul, Int.reduceNeg, Int.reduceEq, Int.reduceToNat, c_form, c_range k n s hs, hs']))
    all_goals simp_all [rightS] <;> omega
  · have hs' : ¬ (s.length : Int) ≤ 100 := by omega
    rw [call_55]
    simp -implicitDefEqProofs only [↓reduceIte, go_sem, Nat.reduceAdd, Nat.reduceSub, Nat.reduceMul, Nat.reduceBEq, Nat.reduceLeDiff, Nat.reduceLT, Nat.reduceEqDiff, reduceCtorEq, Int.reduceBEq, Int.reduceBNe, Int.reduceLT, Int.reduceLE, Int.reduceAdd, Int.reduceSub, Int.reduceMul, Int.reduceNeg, Int.reduceEq, Int.reduceToNat, Tryz.f55, c_form, hs']
    repeat' (first | (refine split_cond (fun hc => ?_) (fun hc => ?_) <;> simp -implicitDefEqProofs only [hc, ↓reduceIte, go_sem, Nat.reduceAdd, Nat.reduceSub, Nat.reduceMul, Nat.reduceBEq, Nat.reduceLeDiff, Nat.reduceLT, Nat.reduceEqDiff, reduceCtorEq, Int.reduceBEq, Int.reduceBNe, Int.reduceLT, Int.reduceLE, Int.reduceAdd, Int.reduceSub, Int.reduceMul, Int.reduceNeg, Int.reduceEq, Int.reduceToNat, c_form, hs']) | (refine split_yes (fun hc => ?_) (fun hc => ?_) <;> simp -implicitDefEqProofs only [hc, ↓reduceIte, go_sem, Nat.reduceAdd, Nat.reduceSub, Nat.reduceMul, Nat.reduceBEq, Nat.reduceLeDiff, Nat.reduceLT, Nat.reduceEqDiff, reduceCtorEq, Int.reduceBEq, Int.reduceBNe, Int.reduceLT, Int.reduceLE, Int.reduceAdd, Int.reduceSub, Int.reduceMul, Int.reduceNeg, Int.reduceEq, Int.reduceToNat, c_form, hs']) | (refine split_no (fun hc => ?_) (fun hc => ?_) <;> simp -implicitDefEqProofs only [hc, ↓reduceIte, go_sem, Nat.reduceAdd, Nat.reduceSub, Nat.reduceMul, Nat.reduceBEq, Nat.reduceLeDiff, Nat.reduceLT, Nat.reduceEqDiff, reduceCtorEq, Int.reduceBEq, Int.reduceBNe, Int.reduceLT, Int.reduceLE, Int.reduceAdd, Int.reduceSub, Int.reduceMul, Int.reduceNeg, Int.reduceEq, Int.reduceToNat, c_form, hs']))
    all_goals simp_all [rightS] <;> omega
def plainV (v : Val) : Val := if rightS v = true then v else null
theorem c_plain (k n : Int) (s : List UInt8) : R K (.call 57 [V k n s] []) = some (enc (plainV ⟨k, n, s⟩), []) := by
  rw [call_57]
  simp -implicitDefEqProofs only [↓reduceIte, go_sem, Nat.reduceAdd, Nat.reduceSub, Nat.reduceMul, Nat.reduceBEq, Nat.reduceLeDiff, Nat.reduceLT, Nat.reduceEqDiff, reduceCtorEq, Int.reduceBEq, Int.reduceBNe, Int.reduceLT, Int.reduceLE, Int.reduceAdd, Int.reduceSub, Int.reduceMul, Int.reduceNeg, Int.reduceEq, Int.reduceToNat, Tryz.f57, c_right]
  repeat' (first | (refine split_cond (fun hc => ?_) (fun hc => ?_) <;> simp -implicitDefEqProofs only [hc, ↓reduceIte, go_sem, Nat.reduceAdd, Nat.reduceSub, Nat.reduceMul, Nat.reduceBEq, Nat.reduceLeDiff, Nat.reduceLT, Nat.reduceEqDiff, reduceCtorEq, Int.reduceBEq, Int.reduceBNe, Int.reduceLT, Int.reduceLE, Int.reduceAdd, Int.reduceSub, Int.reduceMul, Int.reduceNeg, Int.reduceEq, Int.reduceToNat, c_right]) | (refine split_yes (fun hc => ?_) (fun hc => ?_) <;> simp -implicitDefEqProofs only [hc, ↓reduceIte, go_sem, Nat.reduceAdd, Nat.reduceSub, Nat.reduceMul, Nat.reduceBEq, Nat.reduceLeDiff, Nat.reduceLT, Nat.reduceEqDiff, reduceCtorEq, Int.reduceBEq, Int.reduceBNe, Int.reduceLT, Int.reduceLE, Int.reduceAdd, Int.reduceSub, Int.reduceMul, Int.reduceNeg, Int.reduceEq, Int.reduceToNat, c_right]) | (refine split_no (fun hc => ?_) (fun hc => ?_) <;> simp -implicitDefEqProofs only [hc, ↓reduceIte, go_sem, Nat.reduceAdd, Nat.reduceSub, Nat.reduceMul, Nat.reduceBEq, Nat.reduceLeDiff, Nat.reduceLT, Nat.reduceEqDiff, reduceCtorEq, Int.reduceBEq, Int.reduceBNe, Int.reduceLT, Int.reduceLE, Int.reduceAdd, Int.reduceSub, Int.reduceMul, Int.reduceNeg, Int.reduceEq, Int.reduceToNat, c_right]))
  all_goals simp_all [plainV, null]

def boolV (b : Bool) : Val := ⟨1, if b = true then 1 else 0, []⟩
theorem c_boolean (b : Bool) : R K (.call 68 [.bool b] []) = some (enc (boolV b), []) := by
  rw [call_68]
  simp -implicitDefEqProofs only [↓reduceIte, go_sem, Nat.reduceAdd, Nat.reduceSub, Nat.reduceMul, Nat.reduceBEq, Nat.reduceLeDiff, Nat.reduceLT, Nat.reduceEqDiff, reduceCtorEq, Int.reduceBEq, Int.reduceBNe, Int.reduceLT, Int.reduceLE, Int.reduceAdd, Int.reduceSub, Int.reduceMul, Int.reduceNeg, Int.reduceEq, Int.reduceToNat, Tryz.f68]
  repeat' (first | (refine split_cond (fun hc => ?_) (fun hc => ?_) <;> simp -implicitDefEqProofs only [hc, ↓reduceIte, go_sem, Nat.reduceAdd, Nat.reduceSub, Nat.reduceMul, Nat.reduceBEq, Nat.reduceLeDiff, Nat.reduceLT, Nat.reduceEqDiff, reduceCtorEq, Int.reduceBEq, Int.reduceBNe, Int.reduceLT, Int.reduceLE, Int.reduceAdd, Int.reduceSub, Int.reduceMul, Int.reduceNeg, Int.reduceEq, Int.reduceToNat]) | (refine split_yes (fun hc => ?_) (fun hc => ?_) <;> simp -implicitDefEqProofs only [hc, ↓reduceIte, go_sem, Nat.reduceAdd, Nat.reduceSub, Nat.reduceMul, Nat.reduceBEq, Nat.reduceLeDiff, Nat.reduceLT, Nat.reduceEqDiff, reduceCtorEq, Int.reduceBEq, Int.reduceBNe, Int.reduceLT, Int.reduceLE, Int.reduceAdd, Int.reduceSub, Int.reduceMul, Int.reduceNeg, Int.reduceEq, Int.reduceToNat]) | (refine split_no (fun hc => ?_) (fun hc => ?_) <;> simp -implicitDefEqProofs only [hc, ↓reduceIte, go_sem, Nat.reduceAdd, Nat.reduceSub, Nat.reduceMul, Nat.reduceBEq, Nat.reduceLeDiff, Nat.reduceLT, Nat.reduceEqDiff, reduceCtorEq, Int.reduceBEq, Int.reduceBNe, Int.reduceLT, Int.reduceLE, Int.reduceAdd, Int.reduceSub, Int.reduceMul, Int.reduceNeg, Int.reduceEq, Int.reduceToNat]))
  all_goals simp_all [boolV]
theorem r_Truth (b : Bool) : R K (.call 71 [.bool b] []) = some (enc (boolV b), []) := by
  rw [call_71]
  simp -implicitDefEqProofs only [↓reduceIte, go_sem, Nat.reduceAdd, Nat.reduceSub, Nat.reduceMul, Nat.reduceBEq, Nat.reduceLeDiff, Nat.reduceLT, Nat.reduceEqDiff, reduceCtorEq, Int.reduceBEq, Int.reduceBNe, Int.reduceLT, Int.reduceLE, Int.reduceAdd, Int.reduceSub, Int.reduceMul, Int.reduceNeg, Int.reduceEq, Int.reduceToNat, Tryz.f71]
  repeat' (first | (refine split_cond (fun hc => ?_) (fun hc => ?_) <;> simp -implicitDefEqProofs only [hc, ↓reduceIte, go_sem, Nat.reduceAdd, Nat.reduceSub, Nat.reduceMul, Nat.reduceBEq, Nat.reduceLeDiff, Nat.reduceLT, Nat.reduceEqDiff, reduceCtorEq, Int.reduceBEq, Int.reduceBNe, Int.reduceLT, Int.reduceLE, Int.reduceAdd, Int.reduceSub, Int.reduceMul, Int.reduceNeg, Int.reduceEq, Int.reduceToNat]) | (refine split_yes (fun hc => ?_) (fun hc => ?_) <;> simp -implicitDefEqProofs only [hc, ↓reduceIte, go_sem, Nat.reduceAdd, Nat.reduceSub, Nat.reduceMul, Nat.reduceBEq, Nat.reduceLeDiff, Nat.reduceLT, Nat.reduceEqDiff, reduceCtorEq, Int.reduceBEq, Int.reduceBNe, Int.reduceLT, Int.reduceLE, Int.reduceAdd, Int.reduceSub, Int.reduceMul, Int.reduceNeg, Int.reduceEq, Int.reduceToNat]) | (refine split_no (fun hc => ?_) (fun hc => ?_) <;> simp -implicitDefEqProofs only [hc, ↓reduceIte, go_sem, Nat.reduceAdd, Nat.reduceSub, Nat.reduceMul, Nat.reduceBEq, Nat.reduceLeDiff, Nat.reduceLT, Nat.reduceEqDiff, reduceCtorEq, Int.reduceBEq, Int.reduceBNe, Int.reduceLT, Int.reduceLE, Int.reduceAdd, Int.reduceSub, Int.reduceMul, Int.reduceNeg, Int.reduceEq, Int.reduceToNat]))
  all_goals simp_all [boolV]
def isS (v : Val) (b : Bool) : Bool := decide (v = boolV b)
theorem val_eq (a b : Val) : (a.k == b.k && (a.n == b.n && a.s == b.s)) = decide (a = b) := by
  cases a; cases b; rw [Bool.eq_iff_iff]; simp
theorem c_is (k n : Int) (s : List UInt8) (b : Bool) : R K (.call 76 [V k n s, .bool b] []) = some (.bool (isS ⟨k, n, s⟩ b), []) := by
  rw [call_76]
  simp -implicitDefEqProofs only [↓reduceIte, go_sem, Nat.reduceAdd, Nat.reduceSub, Nat.reduceMul, Nat.reduceBEq, Nat.reduceLeDiff, Nat.reduceLT, Nat.reduceEqDiff, reduceCtorEq, Int.reduceBEq, Int.reduceBNe, Int.reduceLT, Int.reduceLE, Int.reduceAdd, Int.reduceSub, Int.reduceMul, Int.reduceNeg, Int.reduceEq, Int.reduceToNat, Tryz.f76, c_boolean]
  repeat' (first | (refine split_cond (fun hc => ?_) (fun hc => ?_) <;> simp -implicitDefEqProofs only [hc, ↓reduceIte, go_sem, Nat.reduceAdd, Nat.reduceSub, Nat.reduceMul, Nat.reduceBEq, Nat.reduceLeDiff, Nat.reduceLT, Nat.reduceEqDiff, reduceCtorEq, Int.reduceBEq, Int.reduceBNe, Int.reduceLT, Int.reduceLE, Int.reduceAdd, Int.reduceSub, Int.reduceMul, Int.reduceNeg, Int.reduceEq, Int.reduceToNat, c_boolean]) | (refine split_yes (fun hc => ?_) (fun hc => ?_) <;> simp -implicitDefEqProofs only [hc, ↓reduceIte, go_sem, Nat.reduceAdd, Nat.reduceSub, Nat.reduceMul, Nat.reduceBEq, Nat.reduceLeDiff, Nat.reduceLT, Nat.reduceEqDiff, reduceCtorEq, Int.reduceBEq, Int.reduceBNe, Int.reduceLT, Int.reduceLE, Int.reduceAdd, Int.reduceSub, Int.reduceMul, Int.reduceNeg, Int.reduceEq, Int.reduceToNat, c_boolean]) | (refine split_no (fun hc => ?_) (fun hc => ?_) <;> simp -implicitDefEqProofs only [hc, ↓reduceIte, go_sem, Nat.reduceAdd, Nat.reduceSub, Nat.reduceMul, Nat.reduceBEq, Nat.reduceLeDiff, Nat.reduceLT, Nat.reduceEqDiff, reduceCtorEq, Int.reduceBEq, Int.reduceBNe, Int.reduceLT, Int.reduceLE, Int.reduceAdd, Int.reduceSub, Int.reduceMul, Int.reduceNeg, Int.reduceEq, Int.reduceToNat, c_boolean]))
  exact congrArg (fun x => (AV.bool x, ([] : Heap))) (val_eq ⟨k, n, s⟩ (boolV b))
def notS (a : Val) : Val := if isS a true || isS a false then boolV (isS a false) else null
theorem c_Not (k n : Int) (s : List UInt8) : R K (.call 20 [V k n s] []) = some (enc (notS ⟨k, n, s⟩), []) := by
  rw [call_20]
  simp -implicitDefEqProofs only [↓reduceIte, go_sem, Nat.reduceAdd, Nat.reduceSub, Nat.reduceMul, Nat.reduceBEq, Nat.reduceLeDiff, Nat.reduceLT, Nat.reduceEqDiff, reduceCtorEq, Int.reduceBEq, Int.reduceBNe, Int.reduceLT, Int.reduceLE, Int.reduceAdd, Int.reduceSub, Int.reduceMul, Int.reduceNeg, Int.reduceEq, Int.reduceToNat, Tryz.f20, c_is, c_boolean]
  repeat' (first | (refine split_cond (fun hc => ?_) (fun hc => ?_) <;> simp -implicitDefEqProofs only [hc, ↓reduceIte, go_sem, Nat.reduceAdd, Nat.reduceSub, Nat.reduceMul, Nat.reduceBEq, Nat.reduceLeDiff, Nat.reduceLT, Nat.reduceEqDiff, reduceCtorEq, Int.reduceBEq, Int.reduceBNe, Int.reduceLT, Int.reduceLE, Int.reduceAdd, Int.reduceSub, Int.reduceMul, Int.reduceNeg, Int.reduceEq, Int.reduceToNat, c_is, c_boolean]) | (refine split_yes (fun hc => ?_) (fun hc => ?_) <;> simp -implicitDefEqProofs only [hc, ↓reduceIte, go_sem, Nat.reduceAdd, Nat.reduceSub, Nat.reduceMul, Nat.reduceBEq, Nat.reduceLeDiff, Nat.reduceLT, Nat.reduceEqDiff, reduceCtorEq, Int.reduceBEq, Int.reduceBNe, Int.reduceLT, Int.reduceLE, Int.reduceAdd, Int.reduceSub, Int.reduceMul, Int.reduceNeg, Int.reduceEq, Int.reduceToNat, c_is, c_boolean]) | (refine split_no (fun hc => ?_) (fun hc => ?_) <;> simp -implicitDefEqProofs only [hc, ↓reduceIte, go_sem, Nat.reduceAdd, Nat.reduceSub, Nat.reduceMul, Nat.reduceBEq, Nat.reduceLeDiff, Nat.reduceLT, Nat.reduceEqDiff, reduceCtorEq, Int.reduceBEq, Int.reduceBNe, Int.reduceLT, Int.reduceLE, Int.reduceAdd, Int.reduceSub, Int.reduceMul, Int.reduceNeg, Int.reduceEq, Int.reduceToNat, c_is, c_boolean]))
  all_goals simp_all [notS, null]
def andS (a b : Val) : Val := if isS a false || isS b false then boolV false else if isS a true && isS b true then boolV true else null
theorem c_And (k n : Int) (s : List UInt8) (k' n' : Int) (s' : List UInt8) : R K (.call 22 [V k n s, V k' n' s'] []) = some (enc (andS ⟨k, n, s⟩ ⟨k', n', s'⟩), []) := by
  rw [call_22]
  simp -implicitDefEqProofs only [↓reduceIte, go_sem, Nat.reduceAdd, Nat.reduceSub, Nat.reduceMul, Nat.reduceBEq, Nat.reduceLeDiff, Nat.reduceLT, Nat.reduceEqDiff, reduceCtorEq, Int.reduceBEq, Int.reduceBNe, Int.reduceLT, Int.reduceLE, Int.reduceAdd, Int.reduceSub, Int.reduceMul, Int.reduceNeg, Int.reduceEq, Int.reduceToNat, Tryz.f22, c_is, c_boolean]
  repeat' (first | (refine split_cond (fun hc => ?_) (fun hc => ?_) <;> simp -implicitDefEqProofs only [hc, ↓reduceIte, go_sem, Nat.reduceAdd, Nat.reduceSub, Nat.reduceMul, Nat.reduceBEq, Nat.reduceLeDiff, Nat.reduceLT, Nat.reduceEqDiff, reduceCtorEq, Int.reduceBEq, Int.reduceBNe, Int.reduceLT, Int.reduceLE, Int.reduceAdd, Int.reduceSub, Int.reduceMul, Int.reduceNeg, Int.reduceEq, Int.reduceToNat, c_is, c_boolean]) | (refine split_yes (fun hc => ?_) (fun hc => ?_) <;> simp -implicitDefEqProofs only [hc, ↓reduceIte, go_sem, Nat.reduceAdd, Nat.reduceSub, Nat.reduceMul, Nat.reduceBEq, Nat.reduceLeDiff, Nat.reduceLT, Nat.reduceEqDiff, reduceCtorEq, Int.reduceBEq, Int.reduceBNe, Int.reduceLT, Int.reduceLE, Int.reduceAdd, Int.reduceSub, Int.reduceMul, Int.reduceNeg, Int.reduceEq, Int.reduceToNat, c_is, c_boolean]) | (refine split_no (fun hc => ?_) (fun hc => ?_) <;> simp -implicitDefEqProofs only [hc, ↓reduceIte, go_sem, Nat.reduceAdd, Nat.reduceSub, Nat.reduceMul, Nat.reduceBEq, Nat.reduceLeDiff, Nat.reduceLT, Nat.reduceEqDiff, reduceCtorEq, Int.reduceBEq, Int.reduceBNe, Int.reduceLT, Int.reduceLE, Int.reduceAdd, Int.reduceSub, Int.reduceMul, Int.reduceNeg, Int.reduceEq, Int.reduceToNat, c_is, c_boolean]))
  all_goals simp_all [andS, null]
def orS (a b : Val) : Val := notS (andS (notS a) (notS b))
theorem c_Or (k n : Int) (s : List UInt8) (k' n' : Int) (s' : List UInt8) : R K (.call 23 [V k n s, V k' n' s'] []) = some (enc (orS ⟨k, n, s⟩ ⟨k', n', s'⟩), []) := by
  rw [call_23]
  simp -implicitDefEqProofs only [↓reduceIte, go_sem, Nat.reduceAdd, Nat.reduceSub, Nat.reduceMul, Nat.reduceBEq, Nat.reduceLeDiff, Nat.reduceLT, Nat.reduceEqDiff, reduceCtorEq, Int.reduceBEq, Int.reduceBNe, Int.reduceLT, Int.reduceLE, Int.reduceAdd, Int.reduceSub, Int.reduceMul, Int.reduceNeg, Int.reduceEq, Int.reduceToNat, Tryz.f23, c_Not, c_And]
  repeat' (first | (refine split_cond (fun hc => ?_) (fun hc => ?_) <;> simp -implicitDefEqProofs only [hc, ↓reduceIte, go_sem, Nat.reduceAdd, Nat.reduceSub, Nat.reduceMul, Nat.reduceBEq, Nat.reduceLeDiff, Nat.reduceLT, Nat.reduceEqDiff, reduceCtorEq, Int.reduceBEq, Int.reduceBNe, Int.reduceLT, Int.reduceLE, Int.reduceAdd, Int.reduceSub, Int.reduceMul, Int.reduceNeg, Int.reduceEq, Int.reduceToNat, c_Not, c_And]) | (refine split_yes (fun hc => ?_) (fun hc => ?_) <;> simp -implicitDefEqProofs only [hc, ↓reduceIte, go_sem, Nat.reduceAdd, Nat.reduceSub, Nat.reduceMul, Nat.reduceBEq, Nat.reduceLeDiff, Nat.reduceLT, Nat.reduceEqDiff, reduceCtorEq, Int.reduceBEq, Int.reduceBNe, Int.reduceLT, Int.reduceLE, Int.reduceAdd, Int.reduceSub, Int.reduceMul, Int.reduceNeg, Int.reduceEq, Int.reduceToNat, c_Not, c_And]) | (refine split_no (fun hc => ?_) (fun hc => ?_) <;> simp -implicitDefEqProofs only [hc, ↓reduceIte, go_sem, Nat.reduceAdd, Nat.reduceSub, Nat.reduceMul, Nat.reduceBEq, Nat.reduceLeDiff, Nat.reduceLT, Nat.reduceEqDiff, reduceCtorEq, Int.reduceBEq, Int.reduceBNe, Int.reduceLT, Int.reduceLE, Int.reduceAdd, Int.reduceSub, Int.reduceMul, Int.reduceNeg, Int.reduceEq, Int.reduceToNat, c_Not, c_And]))
  all_goals simp_all [orS]
def cmpS (a b : Val) : Bool := (plainV a).k != 0 && (plainV a).k == (plainV b).k
theorem c_comparable (k n : Int) (s : List UInt8) (k' n' : Int) (s' : List UInt8) : R K (.call 85 [V k n s, V k' n' s'] []) = some (.bool (cmpS ⟨k, n, s⟩ ⟨k', n', s'⟩), []) := by
  rw [call_85]
  simp -implicitDefEqProofs only [↓reduceIte, go_sem, Nat.reduceAdd, Nat.reduceSub, Nat.reduceMul, Nat.reduceBEq, Nat.reduceLeDiff, Nat.reduceLT, Nat.reduceEqDiff, reduceCtorEq, Int.reduceBEq, Int.reduceBNe, Int.reduceLT, Int.reduceLE, Int.reduceAdd, Int.reduceSub, Int.reduceMul, Int.reduceNeg, Int.reduceEq, Int.reduceToNat, Tryz.f85, c_plain]
  repeat' (first | (refine split_cond (fun hc => ?_) (fun hc => ?_) <;> simp -implicitDefEqProofs only [hc, ↓reduceIte, go_sem, Nat.reduceAdd, Nat.reduceSub, Nat.reduceMul, Nat.reduceBEq, Nat.reduceLeDiff, Nat.reduceLT, Nat.reduceEqDiff, reduceCtorEq, Int.reduceBEq, Int.reduceBNe, Int.reduceLT, Int.reduceLE, Int.reduceAdd, Int.reduceSub, Int.reduceMul, Int.reduceNeg, Int.reduceEq, Int.reduceToNat, c_plain]) | (refine split_yes (fun hc => ?_) (fun hc => ?_) <;> simp -implicitDefEqProofs only [hc, ↓reduceIte, go_sem, Nat.reduceAdd, Nat.reduceSub, Nat.reduceMul, Nat.reduceBEq, Nat.reduceLeDiff, Nat.reduceLT, Nat.reduceEqDiff, reduceCtorEq, Int.reduceBEq, Int.reduceBNe, Int.reduceLT, Int.reduceLE, Int.reduceAdd, Int.reduceSub, Int.reduceMul, Int.reduceNeg, Int.reduceEq, Int.reduceToNat, c_plain]) | (refine split_no (fun hc => ?_) (fun hc => ?_) <;> simp -implicitDefEqProofs only [hc, ↓reduceIte, go_sem, Nat.reduceAdd, Nat.reduceSub, Nat.reduceMul, Nat.reduceBEq, Nat.reduceLeDiff, Nat.reduceLT, Nat.reduceEqDiff, reduceCtorEq, Int.reduceBEq, Int.reduceBNe, Int.reduceLT, Int.reduceLE, Int.reduceAdd, Int.reduceSub, Int.reduceMul, Int.reduceNeg, Int.reduceEq, Int.reduceToNat, c_plain]))
  all_goals simp_all [cmpS] <;> (intro h; rw [← h]; assumption)
def equalS (a b : Val) : Val := if cmpS a b then boolV (decide (a = b)) else null
theorem c_Equal (k n : Int) (s : List UInt8) (k' n' : Int) (s' : List UInt8) : R K (.call 24 [V k n s, V k' n' s'] []) = some (enc (equalS ⟨k, n, s⟩ ⟨k', n', s'⟩), []) := by
  have hv := val_eq ⟨k, n, s⟩ ⟨k', n', s'⟩
  simp only at hv
  rw [call_24]
  simp -implicitDefEqProofs only [↓reduceIte, go_sem, Nat.reduceAdd, Nat.reduceSub, Nat.reduceMul, Nat.reduceBEq, Nat.reduceLeDiff, Nat.reduceLT, Nat.reduceEqDiff, reduceCtorEq, Int.reduceBEq, Int.reduceBNe, Int.reduceLT, Int.reduceLE, Int.reduceAdd, Int.reduceSub, Int.reduceMul, Int.reduceNeg, Int.reduceEq, Int.reduceToNat, Tryz.f24, c_comparable, c_boolean, hv]
  repeat' (first | (refine split_cond (fun hc => ?_) (fun hc => ?_) <;> simp -implicitDefEqProofs only [hc, ↓reduceIte, go_sem, Nat.reduceAdd, Nat.reduceSub, Nat.reduceMul, Nat.reduceBEq, Nat.reduceLeDiff, Nat.reduceLT, Nat.reduceEqDiff, reduceCtorEq, Int.reduceBEq, Int.reduceBNe, Int.reduceLT, Int.reduceLE, Int.reduceAdd, Int.reduceSub, Int.reduceMul, Int.reduceNeg, Int.reduceEq, Int.reduceToNat, c_comparable, c_boolean, hv]) | (refine split_yes (fun hc => ?_) (fun hc => ?_) <;> simp -implicitDefEqProofs only [hc, ↓reduceIte, go_sem, Nat.reduceAdd, Nat.reduceSub, Nat.reduceMul, Nat.reduceBEq, Nat.reduceLeDiff, Nat.reduceLT, Nat.reduceEqDiff, reduceCtorEq, Int.reduceBEq, Int.reduceBNe, Int.reduceLT, Int.reduceLE, Int.reduceAdd, Int.reduceSub, Int.reduceMul, Int.reduceNeg, Int.reduceEq, Int.reduceToNat, c_comparable, c_boolean, hv]) | (refine split_no (fun hc => ?_) (fun hc => ?_) <;> simp -implicitDefEqProofs only [hc, ↓reduceIte, go_sem, Nat.reduceAdd, Nat.reduceSub, Nat.reduceMul, Nat.reduceBEq, Nat.reduceLeDiff, Nat.reduceLT, Nat.reduceEqDiff, reduceCtorEq, Int.reduceBEq, Int.reduceBNe, Int.reduceLT, Int.reduceLE, Int.reduceAdd, Int.reduceSub, Int.reduceMul, Int.reduceNeg, Int.reduceEq, Int.reduceToNat, c_comparable, c_boolean, hv]))
  all_goals simp_all [equalS, null]
def sameS (a b : Val) : Val := boolV (decide (plainV a = plainV b))
theorem c_Same (k n : Int) (s : List UInt8) (k' n' : Int) (s' : List UInt8) : R K (.call 26 [V k n s, V k' n' s'] []) = some (enc (sameS ⟨k, n, s⟩ ⟨k', n', s'⟩), []) := by
  rw [call_26]
  simp -implicitDefEqProofs only [↓reduceIte, go_sem, Nat.reduceAdd, Nat.reduceSub, Nat.reduceMul, Nat.reduceBEq, Nat.reduceLeDiff, Nat.reduceLT, Nat.reduceEqDiff, reduceCtorEq, Int.reduceBEq, Int.reduceBNe, Int.reduceLT, Int.reduceLE, Int.reduceAdd, Int.reduceSub, Int.reduceMul, Int.reduceNeg, Int.reduceEq, Int.reduceToNat, Tryz.f26, c_plain, c_boolean, val_eq]
  repeat' (first | (refine split_cond (fun hc => ?_) (fun hc => ?_) <;> simp -implicitDefEqProofs only [hc, ↓reduceIte, go_sem, Nat.reduceAdd, Nat.reduceSub, Nat.reduceMul, Nat.reduceBEq, Nat.reduceLeDiff, Nat.reduceLT, Nat.reduceEqDiff, reduceCtorEq, Int.reduceBEq, Int.reduceBNe, Int.reduceLT, Int.reduceLE, Int.reduceAdd, Int.reduceSub, Int.reduceMul, Int.reduceNeg, Int.reduceEq, Int.reduceToNat, c_plain, c_boolean, val_eq]) | (refine split_yes (fun hc => ?_) (fun hc => ?_) <;> simp -implicitDefEqProofs only [hc, ↓reduceIte, go_sem, Nat.reduceAdd, Nat.reduceSub, Nat.reduceMul, Nat.reduceBEq, Nat.reduceLeDiff, Nat.reduceLT, Nat.reduceEqDiff, reduceCtorEq, Int.reduceBEq, Int.reduceBNe, Int.reduceLT, Int.reduceLE, Int.reduceAdd, Int.reduceSub, Int.reduceMul, Int.reduceNeg, Int.reduceEq, Int.reduceToNat, c_plain, c_boolean, val_eq]) | (refine split_no (fun hc => ?_) (fun hc => ?_) <;> simp -implicitDefEqProofs only [hc, ↓reduceIte, go_sem, Nat.reduceAdd, Nat.reduceSub, Nat.reduceMul, Nat.reduceBEq, Nat.reduceLeDiff, Nat.reduceLT, Nat.reduceEqDiff, reduceCtorEq, Int.reduceBEq, Int.reduceBNe, Int.reduceLT, Int.reduceLE, Int.reduceAdd, Int.reduceSub, Int.reduceMul, Int.reduceNeg, Int.reduceEq, Int.reduceToNat, c_plain, c_boolean, val_eq]))
  all_goals simp_all [sameS]
def numberS (k n : Int) : Val := plainV ⟨k, n, []⟩
theorem c_number (k n : Int) : R K (.call 69 [.int .i64 k, .int .i64 n] []) = some (enc (numberS k n), []) := by
  rw [call_69]
  simp -implicitDefEqProofs only [↓reduceIte, go_sem, Nat.reduceAdd, Nat.reduceSub, Nat.reduceMul, Nat.reduceBEq, Nat.reduceLeDiff, Nat.reduceLT, Nat.reduceEqDiff, reduceCtorEq, Int.reduceBEq, Int.reduceBNe, Int.reduceLT, Int.reduceLE, Int.reduceAdd, Int.reduceSub, Int.reduceMul, Int.reduceNeg, Int.reduceEq, Int.reduceToNat, Tryz.f69, c_plain]
  repeat' (first | (refine split_cond (fun hc => ?_) (fun hc => ?_) <;> simp -implicitDefEqProofs only [hc, ↓reduceIte, go_sem, Nat.reduceAdd, Nat.reduceSub, Nat.reduceMul, Nat.reduceBEq, Nat.reduceLeDiff, Nat.reduceLT, Nat.reduceEqDiff, reduceCtorEq, Int.reduceBEq, Int.reduceBNe, Int.reduceLT, Int.reduceLE, Int.reduceAdd, Int.reduceSub, Int.reduceMul, Int.reduceNeg, Int.reduceEq, Int.reduceToNat, c_plain]) | (refine split_yes (fun hc => ?_) (fun hc => ?_) <;> simp -implicitDefEqProofs only [hc, ↓reduceIte, go_sem, Nat.reduceAdd, Nat.reduceSub, Nat.reduceMul, Nat.reduceBEq, Nat.reduceLeDiff, Nat.reduceLT, Nat.reduceEqDiff, reduceCtorEq, Int.reduceBEq, Int.reduceBNe, Int.reduceLT, Int.reduceLE, Int.reduceAdd, Int.reduceSub, Int.reduceMul, Int.reduceNeg, Int.reduceEq, Int.reduceToNat, c_plain]) | (refine split_no (fun hc => ?_) (fun hc => ?_) <;> simp -implicitDefEqProofs only [hc, ↓reduceIte, go_sem, Nat.reduceAdd, Nat.reduceSub, Nat.reduceMul, Nat.reduceBEq, Nat.reduceLeDiff, Nat.reduceLT, Nat.reduceEqDiff, reduceCtorEq, Int.reduceBEq, Int.reduceBNe, Int.reduceLT, Int.reduceLE, Int.reduceAdd, Int.reduceSub, Int.reduceMul, Int.reduceNeg, Int.reduceEq, Int.reduceToNat, c_plain]))
  all_goals simp_all [numberS]
def textS (s : List UInt8) : Val := plainV ⟨3, 0, s⟩
theorem c_text (s : List UInt8) : R K (.call 65 [.str s] []) = some (enc (textS s), []) := by
  rw [call_65]
  simp -implicitDefEqProofs only [↓reduceIte, go_sem, Nat.reduceAdd, Nat.reduceSub, Nat.reduceMul, Nat.reduceBEq, Nat.reduceLeDiff, Nat.reduceLT, Nat.reduceEqDiff, reduceCtorEq, Int.reduceBEq, Int.reduceBNe, Int.reduceLT, Int.reduceLE, Int.reduceAdd, Int.reduceSub, Int.reduceMul, Int.reduceNeg, Int.reduceEq, Int.reduceToNat, Tryz.f65, c_plain]
  repeat' (first | (refine split_cond (fun hc => ?_) (fun hc => ?_) <;> simp -implicitDefEqProofs only [hc, ↓reduceIte, go_sem, Nat.reduceAdd, Nat.reduceSub, Nat.reduceMul, Nat.reduceBEq, Nat.reduceLeDiff, Nat.reduceLT, Nat.reduceEqDiff, reduceCtorEq, Int.reduceBEq, Int.reduceBNe, Int.reduceLT, Int.reduceLE, Int.reduceAdd, Int.reduceSub, Int.reduceMul, Int.reduceNeg, Int.reduceEq, Int.reduceToNat, c_plain]) | (refine split_yes (fun hc => ?_) (fun hc => ?_) <;> simp -implicitDefEqProofs only [hc, ↓reduceIte, go_sem, Nat.reduceAdd, Nat.reduceSub, Nat.reduceMul, Nat.reduceBEq, Nat.reduceLeDiff, Nat.reduceLT, Nat.reduceEqDiff, reduceCtorEq, Int.reduceBEq, Int.reduceBNe, Int.reduceLT, Int.reduceLE, Int.reduceAdd, Int.reduceSub, Int.reduceMul, Int.reduceNeg, Int.reduceEq, Int.reduceToNat, c_plain]) | (refine split_no (fun hc => ?_) (fun hc => ?_) <;> simp -implicitDefEqProofs only [hc, ↓reduceIte, go_sem, Nat.reduceAdd, Nat.reduceSub, Nat.reduceMul, Nat.reduceBEq, Nat.reduceLeDiff, Nat.reduceLT, Nat.reduceEqDiff, reduceCtorEq, Int.reduceBEq, Int.reduceBNe, Int.reduceLT, Int.reduceLE, Int.reduceAdd, Int.reduceSub, Int.reduceMul, Int.reduceNeg, Int.reduceEq, Int.reduceToNat, c_plain]))
  all_goals simp_all [textS]
end Go.Ab
namespace Go.Ab
open Go Go.Proofs
set_option maxRecDepth 100000

theorem row_get {l : List Val} {i : Nat} {v : Val} (h : l[i]? = some v) : at? (l.map rowV) (i : Int) = some (rowV v) := at_get (by simp [h])
theorem next_id {i n : Nat} (h : i < n) (hn : n ≤ 9223372036854775807) : wrapI .i64 ((i : Int) + 1) = ((i + 1 : Nat) : Int) := by rw [wrap_id (by omega) (by omega)]; rfl
theorem some_at {α : Type} {l : List α} {i : Nat} (h : i < l.length) : ∃ x, l[i]? = some x := ⟨l[i], List.getElem?_eq_getElem h⟩

def allK (k : Int) (l : List Val) : Bool := l.all fun v => (plainV v).k == k
theorem l_ints (l : List Val) (hl : l.length ≤ 9223372036854775807) (ks : List It) : ∀ (m i : Nat) (j : Int) (B : Code), Loop Tryz.f87 0 B → j = (i : Int) → l.length = i + m →
   RL K (.run 87 0 (.code B :: .lp B (some ([5, 6, 7], [])) 0 :: .blk 0 0 :: ks) [(5, .rows (l.map rowV)), (6, .int .i64 l.length), (7, .int .i64 j)] []) =
   if allK 2 (l.drop i) = true then R K (.run 87 0 ks [] []) else some (.bool false, [])
  | 0, i, j, B, hB, hj, hm => by
    subst hj
    have h1 : ¬ ((i : Int) < (l.length : Int)) := by omega
    unfold Loop at hB
    simp -implicitDefEqProofs only [↓reduceIte, go_sem, Nat.reduceAdd, Nat.reduceSub, Nat.reduceMul, Nat.reduceBEq, Nat.reduceLeDiff, Nat.reduceLT, Nat.reduceEqDiff, reduceCtorEq, Int.reduceBEq, Int.reduceBNe, Int.reduceLT, Int.reduceLE, Int.reduceAdd, Int.reduceSub, Int.reduceMul, Int.reduceNeg, Int.reduceEq, Int.reduceToNat, Tryz.f87, loopOf] at hB
    subst hB
    rw [RL_eq]
    simp -implicitDefEqProofs only [↓reduceIte, go_sem, Nat.reduceAdd, Nat.reduceSub, Nat.reduceMul, Nat.reduceBEq, Nat.reduceLeDiff, Nat.reduceLT, Nat.reduceEqDiff, reduceCtorEq, Int.reduceBEq, Int.reduceBNe, Int.reduceLT, Int.reduceLE, Int.reduceAdd, Int.reduceSub, Int.reduceMul, Int.reduceNeg, Int.reduceEq, Int.reduceToNat, h1]
    repeat' (first | (refine split_cond (fun hc => ?_) (fun hc => ?_) <;> simp -implicitDefEqProofs only [hc, ↓reduceIte, go_sem, Nat.reduceAdd, Nat.reduceSub, Nat.reduceMul, Nat.reduceBEq, Nat.reduceLeDiff, Nat.reduceLT, Nat.reduceEqDiff, reduceCtorEq, Int.reduceBEq, Int.reduceBNe, Int.reduceLT, Int.reduceLE, Int.reduceAdd, Int.reduceSub, Int.reduceMul, Int.reduceNeg, Int.reduceEq, Int.reduceToNat, h1]) | (refine split_yes (fun hc => ?_) (fun hc => ?_) <;> simp -implicitDefEqProofs only [hc, ↓reduceIte, go_sem, Nat.reduceAdd, Nat.reduceSub, Nat.reduceMul, Nat.reduceBEq, Nat.reduceLeDiff, Nat.reduceLT, Nat.reduceEqDiff, reduceCtorEq, Int.reduceBEq, Int.reduceBNe, Int.reduceLT, Int.reduceLE, Int.reduceAdd, Int.reduceSub, Int.reduceMul, Int.reduceNeg, Int.reduceEq, Int.reduceToNat, h1]) | (refine split_no (fun hc => ?_) (fun hc => ?_) <;> simp -implicitDefEqProofs only [hc, ↓reduceIte, go_sem, Nat.reduceAdd, Nat.reduceSub, Nat.reduceMul, Nat.reduceBEq, Nat.reduceLeDiff, Nat.reduceLT, Nat.reduceEqDiff, reduceCtorEq, Int.reduceBEq, Int.reduceBNe, Int.reduceLT, Int.reduceLE, Int.reduceAdd, Int.reduceSub, Int.reduceMul, Int.reduceNeg, Int.reduceEq, Int.reduceToNat, h1]))
    rw [List.drop_of_length_le (by omega)]
    rfl
  | m + 1, i, j, B, hB, hj, hm => by
    subst hj
    have h1 : ((i : Int) < (l.length : Int)) := by omega
    have hB' := hB
    obtain ⟨v, hv⟩ := some_at (l := l) (i := i) (by omega)
    have hg := row_get hv
    have hw := next_id (i := i) (n := l.length) (by omega) hl
    unfold Loop at hB
    simp -implicitDefEqProofs only [↓reduceIte, go_sem, Nat.reduceAdd, Nat.reduceSub, Nat.reduceMul, Nat.reduceBEq, Nat.reduceLeDiff, Nat.reduceLT, Nat.reduceEqDiff, reduceCtorEq, Int.reduceBEq, Int.reduceBNe, Int.reduceLT, Int.reduceLE, Int.reduceAdd, Int.reduceSub, Int.reduceMul, Int.reduceNeg, Int.reduceEq, Int.reduceToNat, Tryz.f87, loopOf] at hB
    subst hB
    rw [RL_eq]
    rw [drop_get hv]
    have ih := l_ints l hl ks m (i + 1) _ _ hB' rfl (by omega)
    simp -implicitDefEqProofs only [↓reduceIte, go_sem, Nat.reduceAdd, Nat.reduceSub, Nat.reduceMul, Nat.reduceBEq, Nat.reduceLeDiff, Nat.reduceLT, Nat.reduceEqDiff, reduceCtorEq, Int.reduceBEq, Int.reduceBNe, Int.reduceLT, Int.reduceLE, Int.reduceAdd, Int.reduceSub, Int.reduceMul, Int.reduceNeg, Int.reduceEq, Int.reduceToNat, h1, hg, hw, rowV, c_plain]
    repeat' (first | (refine split_cond (fun hc => ?_) (fun hc => ?_) <;> simp -implicitDefEqProofs only [hc, ↓reduceIte, go_sem, Nat.reduceAdd, Nat.reduceSub, Nat.reduceMul, Nat.reduceBEq, Nat.reduceLeDiff, Nat.reduceLT, Nat.reduceEqDiff, reduceCtorEq, Int.reduceBEq, Int.reduceBNe, Int.reduceLT, Int.reduceLE, Int.reduceAdd, Int.reduceSub, Int.reduceMul, Int.reduceNeg, Int.reduceEq, Int.reduceToNat, h1, hg, hw, rowV, c_plain]) | (refine split_yes (fun hc => ?_) (fun hc => ?_) <;> simp -implicitDefEqProofs only [hc, ↓reduceIte, go_sem, Nat.reduceAdd, Nat.reduceSub, Nat.reduceMul, Nat.reduceBEq, Nat.reduceLeDiff, Nat.reduceLT, Nat.reduceEqDiff, reduceCtorEq, Int.reduceBEq, Int.reduceBNe, Int.reduceLT, Int.reduceLE, Int.reduceAdd, Int.reduceSub, Int.reduceMul, Int.reduceNeg, Int.reduceEq, Int.reduceToNat, h1, hg, hw, rowV, c_plain]) | (refine split_no (fun hc => ?_) (fun hc => ?_) <;> simp -implicitDefEqProofs only [hc, ↓reduceIte, go_sem, Nat.reduceAdd, Nat.reduceSub, Nat.reduceMul, Nat.reduceBEq, Nat.reduceLeDiff, Nat.reduceLT, Nat.reduceEqDiff, reduceCtorEq, Int.reduceBEq, Int.reduceBNe, Int.reduceLT, Int.reduceLE, Int.reduceAdd, Int.reduceSub, Int.reduceMul, Int.reduceNeg, Int.reduceEq, Int.reduceToNat, h1, hg, hw, rowV, c_plain]))
    · simp_all [allK]
    · rw [ih]
      simp_all [allK]
theorem c_ints (l : List Val) (hl : l.length ≤ 9223372036854775807) : R K (.call 87 [.rows (l.map rowV)] []) = some (.bool (allK 2 l), []) := by
  rw [call_87]
  simp -implicitDefEqProofs only [↓reduceIte, go_sem, Nat.reduceAdd, Nat.reduceSub, Nat.reduceMul, Nat.reduceBEq, Nat.reduceLeDiff, Nat.reduceLT, Nat.reduceEqDiff, reduceCtorEq, Int.reduceBEq, Int.reduceBNe, Int.reduceLT, Int.reduceLE, Int.reduceAdd, Int.reduceSub, Int.reduceMul, Int.reduceNeg, Int.reduceEq, Int.reduceToNat, Tryz.f87]
  repeat' (first | (refine split_cond (fun hc => ?_) (fun hc => ?_) <;> simp -implicitDefEqProofs only [hc, ↓reduceIte, go_sem, Nat.reduceAdd, Nat.reduceSub, Nat.reduceMul, Nat.reduceBEq, Nat.reduceLeDiff, Nat.reduceLT, Nat.reduceEqDiff, reduceCtorEq, Int.reduceBEq, Int.reduceBNe, Int.reduceLT, Int.reduceLE, Int.reduceAdd, Int.reduceSub, Int.reduceMul, Int.reduceNeg, Int.reduceEq, Int.reduceToNat]) | (refine split_yes (fun hc => ?_) (fun hc => ?_) <;> simp -implicitDefEqProofs only [hc, ↓reduceIte, go_sem, Nat.reduceAdd, Nat.reduceSub, Nat.reduceMul, Nat.reduceBEq, Nat.reduceLeDiff, Nat.reduceLT, Nat.reduceEqDiff, reduceCtorEq, Int.reduceBEq, Int.reduceBNe, Int.reduceLT, Int.reduceLE, Int.reduceAdd, Int.reduceSub, Int.reduceMul, Int.reduceNeg, Int.reduceEq, Int.reduceToNat]) | (refine split_no (fun hc => ?_) (fun hc => ?_) <;> simp -implicitDefEqProofs only [hc, ↓reduceIte, go_sem, Nat.reduceAdd, Nat.reduceSub, Nat.reduceMul, Nat.reduceBEq, Nat.reduceLeDiff, Nat.reduceLT, Nat.reduceEqDiff, reduceCtorEq, Int.reduceBEq, Int.reduceBNe, Int.reduceLT, Int.reduceLE, Int.reduceAdd, Int.reduceSub, Int.reduceMul, Int.reduceNeg, Int.reduceEq, Int.reduceToNat]))
  rw [l_ints l hl _ l.length 0 0 _ ?_ rfl (by omega), List.drop_zero]
  · split
    · simp -implicitDefEqProofs only [↓reduceIte, go_sem, Nat.reduceAdd, Nat.reduceSub, Nat.reduceMul, Nat.reduceBEq, Nat.reduceLeDiff, Nat.reduceLT, Nat.reduceEqDiff, reduceCtorEq, Int.reduceBEq, Int.reduceBNe, Int.reduceLT, Int.reduceLE, Int.reduceAdd, Int.reduceSub, Int.reduceMul, Int.reduceNeg, Int.reduceEq, Int.reduceToNat]
      repeat' (first | (refine split_cond (fun hc => ?_) (fun hc => ?_) <;> simp -implicitDefEqProofs only [hc, ↓reduceIte, go_sem, Nat.reduceAdd, Nat.reduceSub, Nat.reduceMul, Nat.reduceBEq, Nat.reduceLeDiff, Nat.reduceLT, Nat.reduceEqDiff, reduceCtorEq, Int.reduceBEq, Int.reduceBNe, Int.reduceLT, Int.reduceLE, Int.reduceAdd, Int.reduceSub, Int.reduceMul, Int.reduceNeg, Int.reduceEq, Int.reduceToNat]) | (refine split_yes (fun hc => ?_) (fun hc => ?_) <;> simp -implicitDefEqProofs only [hc, ↓reduceIte, go_sem, Nat.reduceAdd, Nat.reduceSub, Nat.reduceMul, Nat.reduceBEq, Nat.reduceLeDiff, Nat.reduceLT, Nat.reduceEqDiff, reduceCtorEq, Int.reduceBEq, Int.reduceBNe, Int.reduceLT, Int.reduceLE, Int.reduceAdd, Int.reduceSub, Int.reduceMul, Int.reduceNeg, Int.reduceEq, Int.reduceToNat]) | (refine split_no (fun hc => ?_) (fun hc => ?_) <;> simp -implicitDefEqProofs only [hc, ↓reduceIte, go_sem, Nat.reduceAdd, Nat.reduceSub, Nat.reduceMul, Nat.reduceBEq, Nat.reduceLeDiff, Nat.reduceLT, Nat.reduceEqDiff, reduceCtorEq, Int.reduceBEq, Int.reduceBNe, Int.reduceLT, Int.reduceLE, Int.reduceAdd, Int.reduceSub, Int.reduceMul, Int.reduceNeg, Int.reduceEq, Int.reduceToNat]))
      simp_all
    · simp_all
  · rfl
theorem l_texts (l : List Val) (hl : l.length ≤ 9223372036854775807) (ks : List It) : ∀ (m i : Nat) (j : Int) (B : Code), Loop Tryz.f89 0 B → j = (i : Int) → l.length = i + m →
   RL K (.run 89 0 (.code B :: .lp B (some ([5, 6, 7], [])) 0 :: .blk 0 0 :: ks) [(5, .rows (l.map rowV)), (6, .int .i64 l.length), (7, .int .i64 j)] []) =
   if allK 3 (l.drop i) = true then R K (.run 89 0 ks [] []) else some (.bool false, [])
  | 0, i, j, B, hB, hj, hm => by
    subst hj
    have h1 : ¬ ((i : Int) < (l.length : Int)) := by omega
    unfold Loop at hB
    simp -implicitDefEqProofs only [↓reduceIte, go_sem, Nat.reduceAdd, Nat.reduceSub, Nat.reduceMul, Nat.reduceBEq, Nat.reduceLeDiff, Nat.reduceLT, Nat.reduceEqDiff, reduceCtorEq, Int.reduceBEq, Int.reduceBNe, Int.reduceLT, Int.reduceLE, Int.reduceAdd, Int.reduceSub, Int.reduceMul, Int.reduceNeg, Int.reduceEq, Int.reduceToNat, Tryz.f89, loopOf] at hB
    subst hB
    rw [RL_eq]
    simp -implicitDefEqProofs only [↓reduceIte, go_sem, Nat.reduceAdd, Nat.reduceSub, Nat.reduceMul, Nat.reduceBEq, Nat.reduceLeDiff, Nat.reduceLT, Nat.reduceEqDiff, reduceCtorEq, Int.reduceBEq, Int.reduceBNe, Int.reduceLT, Int.reduceLE, Int.reduceAdd, Int.reduceSub, Int.reduceMul, Int.reduceNeg, Int.reduceEq, Int.reduceToNat, h1]
    repeat' (first | (refine split_cond (fun hc => ?_) (fun hc => ?_) <;> simp -implicitDefEqProofs only [hc, ↓reduceIte, go_sem, Nat.reduceAdd, Nat.reduceSub, Nat.reduceMul, Nat.reduceBEq, Nat.reduceLeDiff, Nat.reduceLT, Nat.reduceEqDiff, reduceCtorEq, Int.reduceBEq, Int.reduceBNe, Int.reduceLT, Int.reduceLE, Int.reduceAdd, Int.reduceSub, Int.reduceMul, Int.reduceNeg, Int.reduceEq, Int.reduceToNat, h1]) | (refine split_yes (fun hc => ?_) (fun hc => ?_) <;> simp -implicitDefEqProofs only [hc, ↓reduceIte, go_sem, Nat.reduceAdd, Nat.reduceSub, Nat.reduceMul, Nat.reduceBEq, Nat.reduceLeDiff, Nat.reduceLT, Nat.reduceEqDiff, reduceCtorEq, Int.reduceBEq, Int.reduceBNe, Int.reduceLT, Int.reduceLE, Int.reduceAdd, Int.reduceSub, Int.reduceMul, Int.reduceNeg, Int.reduceEq, Int.reduceToNat, h1]) | (refine split_no (fun hc => ?_) (fun hc => ?_) <;> simp -implicitDefEqProofs only [hc, ↓reduceIte, go_sem, Nat.reduceAdd, Nat.reduceSub, Nat.reduceMul, Nat.reduceBEq, Nat.reduceLeDiff, Nat.reduceLT, Nat.reduceEqDiff, reduceCtorEq, Int.reduceBEq, Int.reduceBNe, Int.reduceLT, Int.reduceLE, Int.reduceAdd, Int.reduceSub, Int.reduceMul, Int.reduceNeg, Int.reduceEq, Int.reduceToNat, h1]))
    rw [List.drop_of_length_le (by omega)]
    rfl
  | m + 1, i, j, B, hB, hj, hm => by
    subst hj
    have h1 : ((i : Int) < (l.length : Int)) := by omega
    have hB' := hB
    obtain ⟨v, hv⟩ := some_at (l := l) (i := i) (by omega)
    have hg := row_get hv
    have hw := next_id (i := i) (n := l.length) (by omega) hl
    unfold Loop at hB
    simp -implicitDefEqProofs only [↓reduceIte, go_sem, Nat.reduceAdd, Nat.reduceSub, Nat.reduceMul, Nat.reduceBEq, Nat.reduceLeDiff, Nat.reduceLT, Nat.reduceEqDiff, reduceCtorEq, Int.reduceBEq, Int.reduceBNe, Int.reduceLT, Int.reduceLE, Int.reduceAdd, Int.reduceSub, Int.reduceMul, Int.reduceNeg, Int.reduceEq, Int.reduceToNat, Tryz.f89, loopOf] at hB
    subst hB
    rw [RL_eq]
    rw [drop_get hv]
    have ih := l_texts l hl ks m (i + 1) _ _ hB' rfl (by omega)
    simp -implicitDefEqProofs only [↓reduceIte, go_sem, Nat.reduceAdd, Nat.reduceSub, Nat.reduceMul, Nat.reduceBEq, Nat.reduceLeDiff, Nat.reduceLT, Nat.reduceEqDiff, reduceCtorEq, Int.reduceBEq, Int.reduceBNe, Int.reduceLT, Int.reduceLE, Int.reduceAdd, Int.reduceSub, Int.reduceMul, Int.reduceNeg, Int.reduceEq, Int.reduceToNat, h1, hg, hw, rowV, c_plain]
    repeat' (first | (refine split_cond (fun hc => ?_) (fun hc => ?_) <;> simp -implicitDefEqProofs only [hc, ↓reduceIte, go_sem, Nat.reduceAdd, Nat.reduceSub, Nat.reduceMul, Nat.reduceBEq, Nat.reduceLeDiff, Nat.reduceLT, Nat.reduceEqDiff, reduceCtorEq, Int.reduceBEq, Int.reduceBNe, Int.reduceLT, Int.reduceLE, Int.reduceAdd, Int.reduceSub, Int.reduceMul, Int.reduceNeg, Int.reduceEq, Int.reduceToNat, h1, hg, hw, rowV, c_plain]) | (refine split_yes (fun hc => ?_) (fun hc => ?_) <;> simp -implicitDefEqProofs only [hc, ↓reduceIte, go_sem, Nat.reduceAdd, Nat.reduceSub, Nat.reduceMul, Nat.reduceBEq, Nat.reduceLeDiff, Nat.reduceLT, Nat.reduceEqDiff, reduceCtorEq, Int.reduceBEq, Int.reduceBNe, Int.reduceLT, Int.reduceLE, Int.reduceAdd, Int.reduceSub, Int.reduceMul, Int.reduceNeg, Int.reduceEq, Int.reduceToNat, h1, hg, hw, rowV, c_plain]) | (refine split_no (fun hc => ?_) (fun hc => ?_) <;> simp -implicitDefEqProofs only [hc, ↓reduceIte, go_sem, Nat.reduceAdd, Nat.reduceSub, Nat.reduceMul, Nat.reduceBEq, Nat.reduceLeDiff, Nat.reduceLT, Nat.reduceEqDiff, reduceCtorEq, Int.reduceBEq, Int.reduceBNe, Int.reduceLT, Int.reduceLE, Int.reduceAdd, Int.reduceSub, Int.reduceMul, Int.reduceNeg, Int.reduceEq, Int.reduceToNat, h1, hg, hw, rowV, c_plain]))
    · simp_all [allK]
    · rw [ih]
      simp_all [allK]
theorem c_texts (l : List Val) (hl : l.length ≤ 9223372036854775807) : R K (.call 89 [.rows (l.map rowV)] []) = some (.bool (allK 3 l), []) := by
  rw [call_89]
  simp -implicitDefEqProofs only [↓reduceIte, go_sem, Nat.reduceAdd, Nat.reduceSub, Nat.reduceMul, Nat.reduceBEq, Nat.reduceLeDiff, Nat.reduceLT, Nat.reduceEqDiff, reduceCtorEq, Int.reduceBEq, Int.reduceBNe, Int.reduceLT, Int.reduceLE, Int.reduceAdd, Int.reduceSub, Int.reduceMul, Int.reduceNeg, Int.reduceEq, Int.reduceToNat, Tryz.f89]
  repeat' (first | (refine split_cond (fun hc => ?_) (fun hc => ?_) <;> simp -implicitDefEqProofs only [hc, ↓reduceIte, go_sem, Nat.reduceAdd, Nat.reduceSub, Nat.reduceMul, Nat.reduceBEq, Nat.reduceLeDiff, Nat.reduceLT, Nat.reduceEqDiff, reduceCtorEq, Int.reduceBEq, Int.reduceBNe, Int.reduceLT, Int.reduceLE, Int.reduceAdd, Int.reduceSub, Int.reduceMul, Int.reduceNeg, Int.reduceEq, Int.reduceToNat]) | (refine split_yes (fun hc => ?_) (fun hc => ?_) <;> simp -implicitDefEqProofs only [hc, ↓reduceIte, go_sem, Nat.reduceAdd, Nat.reduceSub, Nat.reduceMul, Nat.reduceBEq, Nat.reduceLeDiff, Nat.reduceLT, Nat.reduceEqDiff, reduceCtorEq, Int.reduceBEq, Int.reduceBNe, Int.reduceLT, Int.reduceLE, Int.reduceAdd, Int.reduceSub, Int.reduceMul, Int.reduceNeg, Int.reduceEq, Int.reduceToNat]) | (refine split_no (fun hc => ?_) (fun hc => ?_) <;> simp -implicitDefEqProofs only [hc, ↓reduceIte, go_sem, Nat.reduceAdd, Nat.reduceSub, Nat.reduceMul, Nat.reduceBEq, Nat.reduceLeDiff, Nat.reduceLT, Nat.reduceEqDiff, reduceCtorEq, Int.reduceBEq, Int.reduceBNe, Int.reduceLT, Int.reduceLE, Int.reduceAdd, Int.reduceSub, Int.reduceMul, Int.reduceNeg, Int.reduceEq, Int.reduceToNat]))
  rw [l_texts l hl _ l.length 0 0 _ ?_ rfl (by omega), List.drop_zero]
  · split
    · simp -implicitDefEqProofs only [↓reduceIte, go_sem, Nat.reduceAdd, Nat.reduceSub, Nat.reduceMul, Nat.reduceBEq, Nat.reduceLeDiff, Nat.reduceLT, Nat.reduceEqDiff, reduceCtorEq, Int.reduceBEq, Int.reduceBNe, Int.reduceLT, Int.reduceLE, Int.reduceAdd, Int.reduceSub, Int.reduceMul, Int.reduceNeg, Int.reduceEq, Int.reduceToNat]
      repeat' (first | (refine split_cond (fun hc => ?_) (fun hc => ?_) <;> simp -implicitDefEqProofs only [hc, ↓reduceIte, go_sem, Nat.reduceAdd, Nat.reduceSub, Nat.reduceMul, Nat.reduceBEq, Nat.reduceLeDiff, Nat.reduceLT, Nat.reduceEqDiff, reduceCtorEq, Int.reduceBEq, Int.reduceBNe, Int.reduceLT, Int.reduceLE, Int.reduceAdd, Int.reduceSub, Int.reduceMul, Int.reduceNeg, Int.reduceEq, Int.reduceToNat]) | (refine split_yes (fun hc => ?_) (fun hc => ?_) <;> simp -implicitDefEqProofs only [hc, ↓reduceIte, go_sem, Nat.reduceAdd, Nat.reduceSub, Nat.reduceMul, Nat.reduceBEq, Nat.reduceLeDiff, Nat.reduceLT, Nat.reduceEqDiff, reduceCtorEq, Int.reduceBEq, Int.reduceBNe, Int.reduceLT, Int.reduceLE, Int.reduceAdd, Int.reduceSub, Int.reduceMul, Int.reduceNeg, Int.reduceEq, Int.reduceToNat]) | (refine split_no (fun hc => ?_) (fun hc => ?_) <;> simp -implicitDefEqProofs only [hc, ↓reduceIte, go_sem, Nat.reduceAdd, Nat.reduceSub, Nat.reduceMul, Nat.reduceBEq, Nat.reduceLeDiff, Nat.reduceLT, Nat.reduceEqDiff, reduceCtorEq, Int.reduceBEq, Int.reduceBNe, Int.reduceLT, Int.reduceLE, Int.reduceAdd, Int.reduceSub, Int.reduceMul, Int.reduceNeg, Int.reduceEq, Int.reduceToNat]))
      simp_all
    · simp_all
  · rfl
def isK (k : Int) (v : Val) : Bool := (plainV v).k == k
theorem c_ints1 (k n : Int) (s : List UInt8) : R K (.call 87 [.rows [[.int .i64 k, .int .i64 n, .str s]]] []) = some (.bool (isK 2 ⟨k, n, s⟩), []) := by
  have := c_ints [⟨k, n, s⟩] (by simp)
  simpa [allK, rowV, isK] using this
theorem c_ints2 (k n : Int) (s : List UInt8) (k' n' : Int) (s' : List UInt8) : R K (.call 87 [.rows [[.int .i64 k, .int .i64 n, .str s], [.int .i64 k', .int .i64 n', .str s']]] []) = some (.bool (isK 2 ⟨k, n, s⟩ && isK 2 ⟨k', n', s'⟩), []) := by
  have := c_ints [⟨k, n, s⟩, ⟨k', n', s'⟩] (by simp)
  simpa [allK, rowV, isK] using this
theorem c_texts1 (k n : Int) (s : List UInt8) : R K (.call 89 [.rows [[.int .i64 k, .int .i64 n, .str s]]] []) = some (.bool (isK 3 ⟨k, n, s⟩), []) := by
  have := c_texts [⟨k, n, s⟩] (by simp)
  simpa [allK, rowV, isK] using this
theorem c_texts2 (k n : Int) (s : List UInt8) (k' n' : Int) (s' : List UInt8) : R K (.call 89 [.rows [[.int .i64 k, .int .i64 n, .str s], [.int .i64 k', .int .i64 n', .str s']]] []) = some (.bool (isK 3 ⟨k, n, s⟩ && isK 3 ⟨k', n', s'⟩), []) := by
  have := c_texts [⟨k, n, s⟩, ⟨k', n', s'⟩] (by simp)
  simpa [allK, rowV, isK] using this

/- Order. -/
def cmpI (a b : Int) : Int := if a < b then -1 else if b < a then 1 else 0
theorem c_nanI (x : Int) : R K (.call 200 [.int .i64 x] []) = some (.bool false, []) := by
  rw [call_200]
  simp -implicitDefEqProofs only [↓reduceIte, go_sem, Nat.reduceAdd, Nat.reduceSub, Nat.reduceMul, Nat.reduceBEq, Nat.reduceLeDiff, Nat.reduceLT, Nat.reduceEqDiff, reduceCtorEq, Int.reduceBEq, Int.reduceBNe, Int.reduceLT, Int.reduceLE, Int.reduceAdd, Int.reduceSub, Int.reduceMul, Int.reduceNeg, Int.reduceEq, Int.reduceToNat, Tryz.f200]
  repeat' (first | (refine split_cond (fun hc => ?_) (fun hc => ?_) <;> simp -implicitDefEqProofs only [hc, ↓reduceIte, go_sem, Nat.reduceAdd, Nat.reduceSub, Nat.reduceMul, Nat.reduceBEq, Nat.reduceLeDiff, Nat.reduceLT, Nat.reduceEqDiff, reduceCtorEq, Int.reduceBEq, Int.reduceBNe, Int.reduceLT, Int.reduceLE, Int.reduceAdd, Int.reduceSub, Int.reduceMul, Int.reduceNeg, Int.reduceEq, Int.reduceToNat]) | (refine split_yes (fun hc => ?_) (fun hc => ?_) <;> simp -implicitDefEqProofs only [hc, ↓reduceIte, go_sem, Nat.reduceAdd, Nat.reduceSub, Nat.reduceMul, Nat.reduceBEq, Nat.reduceLeDiff, Nat.reduceLT, Nat.reduceEqDiff, reduceCtorEq, Int.reduceBEq, Int.reduceBNe, Int.reduceLT, Int.reduceLE, Int.reduceAdd, Int.reduceSub, Int.reduceMul, Int.reduceNeg, Int.reduceEq, Int.reduceToNat]) | (refine split_no (fun hc => ?_) (fun hc => ?_) <;> simp -implicitDefEqProofs only [hc, ↓reduceIte, go_sem, Nat.reduceAdd, Nat.reduceSub, Nat.reduceMul, Nat.reduceBEq, Nat.reduceLeDiff, Nat.reduceLT, Nat.reduceEqDiff, reduceCtorEq, Int.reduceBEq, Int.reduceBNe, Int.reduceLT, Int.reduceLE, Int.reduceAdd, Int.reduceSub, Int.reduceMul, Int.reduceNeg, Int.reduceEq, Int.reduceToNat]))
  all_goals simp
theorem c_cmpI (a b : Int) : R K (.call 138 [.int .i64 a, .int .i64 b] []) = some (.int .i64 (cmpI a b), []) := by
  rw [call_138]
  simp -implicitDefEqProofs only [↓reduceIte, go_sem, Nat.reduceAdd, Nat.reduceSub, Nat.reduceMul, Nat.reduceBEq, Nat.reduceLeDiff, Nat.reduceLT, Nat.reduceEqDiff, reduceCtorEq, Int.reduceBEq, Int.reduceBNe, Int.reduceLT, Int.reduceLE, Int.reduceAdd, Int.reduceSub, Int.reduceMul, Int.reduceNeg, Int.reduceEq, Int.reduceToNat, Tryz.f138, c_nanI]
  repeat' (first | (refine split_cond (fun hc => ?_) (fun hc => ?_) <;> simp -implicitDefEqProofs only [hc, ↓reduceIte, go_sem, Nat.reduceAdd, Nat.reduceSub, Nat.reduceMul, Nat.reduceBEq, Nat.reduceLeDiff, Nat.reduceLT, Nat.reduceEqDiff, reduceCtorEq, Int.reduceBEq, Int.reduceBNe, Int.reduceLT, Int.reduceLE, Int.reduceAdd, Int.reduceSub, Int.reduceMul, Int.reduceNeg, Int.reduceEq, Int.reduceToNat, c_nanI]) | (refine split_yes (fun hc => ?_) (fun hc => ?_) <;> simp -implicitDefEqProofs only [hc, ↓reduceIte, go_sem, Nat.reduceAdd, Nat.reduceSub, Nat.reduceMul, Nat.reduceBEq, Nat.reduceLeDiff, Nat.reduceLT, Nat.reduceEqDiff, reduceCtorEq, Int.reduceBEq, Int.reduceBNe, Int.reduceLT, Int.reduceLE, Int.reduceAdd, Int.reduceSub, Int.reduceMul, Int.reduceNeg, Int.reduceEq, Int.reduceToNat, c_nanI]) | (refine split_no (fun hc => ?_) (fun hc => ?_) <;> simp -implicitDefEqProofs only [hc, ↓reduceIte, go_sem, Nat.reduceAdd, Nat.reduceSub, Nat.reduceMul, Nat.reduceBEq, Nat.reduceLeDiff, Nat.reduceLT, Nat.reduceEqDiff, reduceCtorEq, Int.reduceBEq, Int.reduceBNe, Int.reduceLT, Int.reduceLE, Int.reduceAdd, Int.reduceSub, Int.reduceMul, Int.reduceNeg, Int.reduceEq, Int.reduceToNat, c_nanI]))
  all_goals (simp only [decide_eq_true_eq, decide_eq_false_iff_not] at *; simp [cmpI, *])
def cmpB (a b : List UInt8) : Int := if Op.bytesLess a b then -1 else if a = b then 0 else 1
theorem c_nanS (x : List UInt8) : R K (.call 201 [.str x] []) = some (.bool false, []) := by
  rw [call_201]
  simp -implicitDefEqProofs only [↓reduceIte, go_sem, Nat.reduceAdd, Nat.reduceSub, Nat.reduceMul, Nat.reduceBEq, Nat.reduceLeDiff, Nat.reduceLT, Nat.reduceEqDiff, reduceCtorEq, Int.reduceBEq, Int.reduceBNe, Int.reduceLT, Int.reduceLE, Int.reduceAdd, Int.reduceSub, Int.reduceMul, Int.reduceNeg, Int.reduceEq, Int.reduceToNat, Tryz.f201]
  repeat' (first | (refine split_cond (fun hc => ?_) (fun hc => ?_) <;> simp -implicitDefEqProofs only [hc, ↓reduceIte, go_sem, Nat.reduceAdd, Nat.reduceSub, Nat.reduceMul, Nat.reduceBEq, Nat.reduceLeDiff, Nat.reduceLT, Nat.reduceEqDiff, reduceCtorEq, Int.reduceBEq, Int.reduceBNe, Int.reduceLT, Int.reduceLE, Int.reduceAdd, Int.reduceSub, Int.reduceMul, Int.reduceNeg, Int.reduceEq, Int.reduceToNat]) | (refine split_yes (fun hc => ?_) (fun hc => ?_) <;> simp -implicitDefEqProofs only [hc, ↓reduceIte, go_sem, Nat.reduceAdd, Nat.reduceSub, Nat.reduceMul, Nat.reduceBEq, Nat.reduceLeDiff, Nat.reduceLT, Nat.reduceEqDiff, reduceCtorEq, Int.reduceBEq, Int.reduceBNe, Int.reduceLT, Int.reduceLE, Int.reduceAdd, Int.reduceSub, Int.reduceMul, Int.reduceNeg, Int.reduceEq, Int.reduceToNat]) | (refine split_no (fun hc => ?_) (fun hc => ?_) <;> simp -implicitDefEqProofs only [hc, ↓reduceIte, go_sem, Nat.reduceAdd, Nat.reduceSub, Nat.reduceMul, Nat.reduceBEq, Nat.reduceLeDiff, Nat.reduceLT, Nat.reduceEqDiff, reduceCtorEq, Int.reduceBEq, Int.reduceBNe, Int.reduceLT, Int.reduceLE, Int.reduceAdd, Int.reduceSub, Int.reduceMul, Int.reduceNeg, Int.reduceEq, Int.reduceToNat]))
  all_goals simp
theorem c_cmpB (a b : List UInt8) : R K (.call 139 [.str a, .str b] []) = some (.int .i64 (cmpB a b), []) := by
  rw [call_139]
  simp -implicitDefEqProofs only [↓reduceIte, go_sem, Nat.reduceAdd, Nat.reduceSub, Nat.reduceMul, Nat.reduceBEq, Nat.reduceLeDiff, Nat.reduceLT, Nat.reduceEqDiff, reduceCtorEq, Int.reduceBEq, Int.reduceBNe, Int.reduceLT, Int.reduceLE, Int.reduceAdd, Int.reduceSub, Int.reduceMul, Int.reduceNeg, Int.reduceEq, Int.reduceToNat, Tryz.f139, c_nanS]
  repeat' (first | (refine split_cond (fun hc => ?_) (fun hc => ?_) <;> simp -implicitDefEqProofs only [hc, ↓reduceIte, go_sem, Nat.reduceAdd, Nat.reduceSub, Nat.reduceMul, Nat.reduceBEq, Nat.reduceLeDiff, Nat.reduceLT, Nat.reduceEqDiff, reduceCtorEq, Int.reduceBEq, Int.reduceBNe, Int.reduceLT, Int.reduceLE, Int.reduceAdd, Int.reduceSub, Int.reduceMul, Int.reduceNeg, Int.reduceEq, Int.reduceToNat, c_nanS]) | (refine split_yes (fun hc => ?_) (fun hc => ?_) <;> simp -implicitDefEqProofs only [hc, ↓reduceIte, go_sem, Nat.reduceAdd, Nat.reduceSub, Nat.reduceMul, Nat.reduceBEq, Nat.reduceLeDiff, Nat.reduceLT, Nat.reduceEqDiff, reduceCtorEq, Int.reduceBEq, Int.reduceBNe, Int.reduceLT, Int.reduceLE, Int.reduceAdd, Int.reduceSub, Int.reduceMul, Int.reduceNeg, Int.reduceEq, Int.reduceToNat, c_nanS]) | (refine split_no (fun hc => ?_) (fun hc => ?_) <;> simp -implicitDefEqProofs only [hc, ↓reduceIte, go_sem, Nat.reduceAdd, Nat.reduceSub, Nat.reduceMul, Nat.reduceBEq, Nat.reduceLeDiff, Nat.reduceLT, Nat.reduceEqDiff, reduceCtorEq, Int.reduceBEq, Int.reduceBNe, Int.reduceLT, Int.reduceLE, Int.reduceAdd, Int.reduceSub, Int.reduceMul, Int.reduceNeg, Int.reduceEq, Int.reduceToNat, c_nanS]))
  all_goals simp_all [cmpB]
def firstN : List Int → Int
  | [] => 0
  | a :: r => if a ≠ 0 then a else firstN r
theorem l_or (l : List Int) (hl : l.length ≤ 9223372036854775807) (ks : List It) : ∀ (m i : Nat) (j : Int) (B : Code), Loop Tryz.f137 0 B → j = (i : Int) → l.length = i + m →
   RL K (.run 137 0 (.code B :: .lp B (some ([3, 6, 7, 8], [])) 0 :: .blk 0 0 :: ks) [(3, .int .i64 0), (6, .rows (l.map fun x => [.int .i64 x])), (7, .int .i64 l.length), (8, .int .i64 j)] []) =
   if firstN (l.drop i) = 0 then R K (.run 137 0 ks [(3, .int .i64 0)] []) else some (.int .i64 (firstN (l.drop i)), [])
  | 0, i, j, B, hB, hj, hm => by
    subst hj
    have h1 : ¬ ((i : Int) < (l.length : Int)) := by omega
    unfold Loop at hB
    simp -implicitDefEqProofs only [↓reduceIte, go_sem, Nat.reduceAdd, Nat.reduceSub, Nat.reduceMul, Nat.reduceBEq, Nat.reduceLeDiff, Nat.reduceLT, Nat.reduceEqDiff, reduceCtorEq, Int.reduceBEq, Int.reduceBNe, Int.reduceLT, Int.reduceLE, Int.reduceAdd, Int.reduceSub, Int.reduceMul, Int.reduceNeg, Int.reduceEq, Int.reduceToNat, Tryz.f137, loopOf] at hB
    subst hB
    rw [RL_eq]
    simp -implicitDefEqProofs only [↓reduceIte, go_sem, Nat.reduceAdd, Nat.reduceSub, Nat.reduceMul, Nat.reduceBEq, Nat.reduceLeDiff, Nat.reduceLT, Nat.reduceEqDiff, reduceCtorEq, Int.reduceBEq, Int.reduceBNe, Int.reduceLT, Int.reduceLE, Int.reduceAdd, Int.reduceSub, Int.reduceMul, Int.reduceNeg, Int.reduceEq, Int.reduceToNat, h1]
    repeat' (first | (refine split_cond (fun hc => ?_) (fun hc => ?_) <;> simp -implicitDefEqProofs only [hc, ↓reduceIte, go_sem, Nat.reduceAdd, Nat.reduceSub, Nat.reduceMul, Nat.reduceBEq, Nat.reduceLeDiff, Nat.reduceLT, Nat.reduceEqDiff, reduceCtorEq, Int.reduceBEq, Int.reduceBNe, Int.reduceLT, Int.reduceLE, Int.reduceAdd, Int.reduceSub, Int.reduceMul, Int.reduceNeg, Int.reduceEq, Int.reduceToNat, h1]) | (refine split_yes (fun hc => ?_) (fun hc => ?_) <;> simp -implicitDefEqProofs only [hc, ↓reduceIte, go_sem, Nat.reduceAdd, Nat.reduceSub, Nat.reduceMul, Nat.reduceBEq, Nat.reduceLeDiff, Nat.reduceLT, Nat.reduceEqDiff, reduceCtorEq, Int.reduceBEq, Int.reduceBNe, Int.reduceLT, Int.reduceLE, Int.reduceAdd, Int.reduceSub, Int.reduceMul, Int.reduceNeg, Int.reduceEq, Int.reduceToNat, h1]) | (refine split_no (fun hc => ?_) (fun hc => ?_) <;> simp -implicitDefEqProofs only [hc, ↓reduceIte, go_sem, Nat.reduceAdd, Nat.reduceSub, Nat.reduceMul, Nat.reduceBEq, Nat.reduceLeDiff, Nat.reduceLT, Nat.reduceEqDiff, reduceCtorEq, Int.reduceBEq, Int.reduceBNe, Int.reduceLT, Int.reduceLE, Int.reduceAdd, Int.reduceSub, Int.reduceMul, Int.reduceNeg, Int.reduceEq, Int.reduceToNat, h1]))
    rw [List.drop_of_length_le (by omega)]
    rfl
  | m + 1, i, j, B, hB, hj, hm => by
    subst hj
    have h1 : ((i : Int) < (l.length : Int)) := by omega
    have hB' := hB
    obtain ⟨v, hv⟩ := some_at (l := l) (i := i) (by omega)
    have hg : at? (l.map fun x => [AV.int .i64 x]) (i : Int) = some [.int .i64 v] := at_get (by simp [hv])
    have hw := next_id (i := i) (n := l.length) (by omega) hl
    unfold Loop at hB
    simp -implicitDefEqProofs only [↓reduceIte, go_sem, Nat.reduceAdd, Nat.reduceSub, Nat.reduceMul, Nat.reduceBEq, Nat.reduceLeDiff, Nat.reduceLT, Nat.reduceEqDiff, reduceCtorEq, Int.reduceBEq, Int.reduceBNe, Int.reduceLT, Int.reduceLE, Int.reduceAdd, Int.reduceSub, Int.reduceMul, Int.reduceNeg, Int.reduceEq, Int.reduceToNat, Tryz.f137, loopOf] at hB
    subst hB
    rw [RL_eq]
    rw [drop_get hv]
    have ih := l_or l hl ks m (i + 1) _ _ hB' rfl (by omega)
    simp -implicitDefEqProofs only [↓reduceIte, go_sem, Nat.reduceAdd, Nat.reduceSub, Nat.reduceMul, Nat.reduceBEq, Nat.reduceLeDiff, Nat.reduceLT, Nat.reduceEqDiff, reduceCtorEq, Int.reduceBEq, Int.reduceBNe, Int.reduceLT, Int.reduceLE, Int.reduceAdd, Int.reduceSub, Int.reduceMul, Int.reduceNeg, Int.reduceEq, Int.reduceToNat, h1, hg, hw]
    repeat' (first | (refine split_cond (fun hc => ?_) (fun hc => ?_) <;> simp -implicitDefEqProofs only [hc, ↓reduceIte, go_sem, Nat.reduceAdd, Nat.reduceSub, Nat.reduceMul, Nat.reduceBEq, Nat.reduceLeDiff, Nat.reduceLT, Nat.reduceEqDiff, reduceCtorEq, Int.reduceBEq, Int.reduceBNe, Int.reduceLT, Int.reduceLE, Int.reduceAdd, Int.reduceSub, Int.reduceMul, Int.reduceNeg, Int.reduceEq, Int.reduceToNat, h1, hg, hw]) | (refine split_yes (fun hc => ?_) (fun hc => ?_) <;> simp -implicitDefEqProofs only [hc, ↓reduceIte, go_sem, Nat.reduceAdd, Nat.reduceSub, Nat.reduceMul, Nat.reduceBEq, Nat.reduceLeDiff, Nat.reduceLT, Nat.reduceEqDiff, reduceCtorEq, Int.reduceBEq, Int.reduceBNe, Int.reduceLT, Int.reduceLE, Int.reduceAdd, Int.reduceSub, Int.reduceMul, Int.reduceNeg, Int.reduceEq, Int.reduceToNat, h1, hg, hw]) | (refine split_no (fun hc => ?_) (fun hc => ?_) <;> simp -implicitDefEqProofs only [hc, ↓reduceIte, go_sem, Nat.reduceAdd, Nat.reduceSub, Nat.reduceMul, Nat.reduceBEq, Nat.reduceLeDiff, Nat.reduceLT, Nat.reduceEqDiff, reduceCtorEq, Int.reduceBEq, Int.reduceBNe, Int.reduceLT, Int.reduceLE, Int.reduceAdd, Int.reduceSub, Int.reduceMul, Int.reduceNeg, Int.reduceEq, Int.reduceToNat, h1, hg, hw]))
    · simp_all [firstN]
    · rw [ih]
      simp_all [firstN]
theorem c_or3 (a b c : Int) : R K (.call 137 [.rows [[.int .i64 a], [.int .i64 b], [.int .i64 c]]] []) = some (.int .i64 (firstN [a, b, c]), []) := by
  rw [call_137]
  simp -implicitDefEqProofs only [↓reduceIte, go_sem, Nat.reduceAdd, Nat.reduceSub, Nat.reduceMul, Nat.reduceBEq, Nat.reduceLeDiff, Nat.reduceLT, Nat.reduceEqDiff, reduceCtorEq, Int.reduceBEq, Int.reduceBNe, Int.reduceLT, Int.reduceLE, Int.reduceAdd, Int.reduceSub, Int.reduceMul, Int.reduceNeg, Int.reduceEq, Int.reduceToNat, Tryz.f137]
  repeat' (first | (refine split_cond (fun hc => ?_) (fun hc => ?_) <;> simp -implicitDefEqProofs only [hc, ↓reduceIte, go_sem, Nat.reduceAdd, Nat.reduceSub, Nat.reduceMul, Nat.reduceBEq, Nat.reduceLeDiff, Nat.reduceLT, Nat.reduceEqDiff, reduceCtorEq, Int.reduceBEq, Int.reduceBNe, Int.reduceLT, Int.reduceLE, Int.reduceAdd, Int.reduceSub, Int.reduceMul, Int.reduceNeg, Int.reduceEq, Int.reduceToNat]) | (refine split_yes (fun hc => ?_) (fun hc => ?_) <;> simp -implicitDefEqProofs only [hc, ↓reduceIte, go_sem, Nat.reduceAdd, Nat.reduceSub, Nat.reduceMul, Nat.reduceBEq, Nat.reduceLeDiff, Nat.reduceLT, Nat.reduceEqDiff, reduceCtorEq, Int.reduceBEq, Int.reduceBNe, Int.reduceLT, Int.reduceLE, Int.reduceAdd, Int.reduceSub, Int.reduceMul, Int.reduceNeg, Int.reduceEq, Int.reduceToNat]) | (refine split_no (fun hc => ?_) (fun hc => ?_) <;> simp -implicitDefEqProofs only [hc, ↓reduceIte, go_sem, Nat.reduceAdd, Nat.reduceSub, Nat.reduceMul, Nat.reduceBEq, Nat.reduceLeDiff, Nat.reduceLT, Nat.reduceEqDiff, reduceCtorEq, Int.reduceBEq, Int.reduceBNe, Int.reduceLT, Int.reduceLE, Int.reduceAdd, Int.reduceSub, Int.reduceMul, Int.reduceNeg, Int.reduceEq, Int.reduceToNat]))
  have := l_or [a, b, c] (by simp)
  simp only [List.map_cons, List.map_nil, List.length_cons, List.length_nil, Nat.zero_add, Nat.reduceAdd, Int.cast_ofNat_Int] at this
  rw [this _ 3 0 0 _ ?_ rfl (by omega), List.drop_zero]
  · split
    · simp -implicitDefEqProofs only [↓reduceIte, go_sem, Nat.reduceAdd, Nat.reduceSub, Nat.reduceMul, Nat.reduceBEq, Nat.reduceLeDiff, Nat.reduceLT, Nat.reduceEqDiff, reduceCtorEq, Int.reduceBEq, Int.reduceBNe, Int.reduceLT, Int.reduceLE, Int.reduceAdd, Int.reduceSub, Int.reduceMul, Int.reduceNeg, Int.reduceEq, Int.reduceToNat]
      repeat' (first | (refine split_cond (fun hc => ?_) (fun hc => ?_) <;> simp -implicitDefEqProofs only [hc, ↓reduceIte, go_sem, Nat.reduceAdd, Nat.reduceSub, Nat.reduceMul, Nat.reduceBEq, Nat.reduceLeDiff, Nat.reduceLT, Nat.reduceEqDiff, reduceCtorEq, Int.reduceBEq, Int.reduceBNe, Int.reduceLT, Int.reduceLE, Int.reduceAdd, Int.reduceSub, Int.reduceMul, Int.reduceNeg, Int.reduceEq, Int.reduceToNat]) | (refine split_yes (fun hc => ?_) (fun hc => ?_) <;> simp -implicitDefEqProofs only [hc, ↓reduceIte, go_sem, Nat.reduceAdd, Nat.reduceSub, Nat.reduceMul, Nat.reduceBEq, Nat.reduceLeDiff, Nat.reduceLT, Nat.reduceEqDiff, reduceCtorEq, Int.reduceBEq, Int.reduceBNe, Int.reduceLT, Int.reduceLE, Int.reduceAdd, Int.reduceSub, Int.reduceMul, Int.reduceNeg, Int.reduceEq, Int.reduceToNat]) | (refine split_no (fun hc => ?_) (fun hc => ?_) <;> simp -implicitDefEqProofs only [hc, ↓reduceIte, go_sem, Nat.reduceAdd, Nat.reduceSub, Nat.reduceMul, Nat.reduceBEq, Nat.reduceLeDiff, Nat.reduceLT, Nat.reduceEqDiff, reduceCtorEq, Int.reduceBEq, Int.reduceBNe, Int.reduceLT, Int.reduceLE, Int.reduceAdd, Int.reduceSub, Int.reduceMul, Int.reduceNeg, Int.reduceEq, Int.reduceToNat]))
      simp_all
    · simp_all
  · rfl
def orderS (a b : Val) : Int := firstN [cmpI a.k b.k, cmpI a.n b.n, cmpB a.s b.s]
theorem c_order (k n : Int) (s : List UInt8) (k' n' : Int) (s' : List UInt8) : R K (.call 86 [V k n s, V k' n' s'] []) = some (.int .i64 (orderS ⟨k, n, s⟩ ⟨k', n', s'⟩), []) := by
  rw [call_86]
  simp -implicitDefEqProofs only [↓reduceIte, go_sem, Nat.reduceAdd, Nat.reduceSub, Nat.reduceMul, Nat.reduceBEq, Nat.reduceLeDiff, Nat.reduceLT, Nat.reduceEqDiff, reduceCtorEq, Int.reduceBEq, Int.reduceBNe, Int.reduceLT, Int.reduceLE, Int.reduceAdd, Int.reduceSub, Int.reduceMul, Int.reduceNeg, Int.reduceEq, Int.reduceToNat, Tryz.f86, c_cmpI, c_cmpB, c_or3]
  repeat' (first | (refine split_cond (fun hc => ?_) (fun hc => ?_) <;> simp -implicitDefEqProofs only [hc, ↓reduceIte, go_sem, Nat.reduceAdd, Nat.reduceSub, Nat.reduceMul, Nat.reduceBEq, Nat.reduceLeDiff, Nat.reduceLT, Nat.reduceEqDiff, reduceCtorEq, Int.reduceBEq, Int.reduceBNe, Int.reduceLT, Int.reduceLE, Int.reduceAdd, Int.reduceSub, Int.reduceMul, Int.reduceNeg, Int.reduceEq, Int.reduceToNat, c_cmpI, c_cmpB, c_or3]) | (refine split_yes (fun hc => ?_) (fun hc => ?_) <;> simp -implicitDefEqProofs only [hc, ↓reduceIte, go_sem, Nat.reduceAdd, Nat.reduceSub, Nat.reduceMul, Nat.reduceBEq, Nat.reduceLeDiff, Nat.reduceLT, Nat.reduceEqDiff, reduceCtorEq, Int.reduceBEq, Int.reduceBNe, Int.reduceLT, Int.reduceLE, Int.reduceAdd, Int.reduceSub, Int.reduceMul, Int.reduceNeg, Int.reduceEq, Int.reduceToNat, c_cmpI, c_cmpB, c_or3]) | (refine split_no (fun hc => ?_) (fun hc => ?_) <;> simp -implicitDefEqProofs only [hc, ↓reduceIte, go_sem, Nat.reduceAdd, Nat.reduceSub, Nat.reduceMul, Nat.reduceBEq, Nat.reduceLeDiff, Nat.reduceLT, Nat.reduceEqDiff, reduceCtorEq, Int.reduceBEq, Int.reduceBNe, Int.reduceLT, Int.reduceLE, Int.reduceAdd, Int.reduceSub, Int.reduceMul, Int.reduceNeg, Int.reduceEq, Int.reduceToNat, c_cmpI, c_cmpB, c_or3]))
  all_goals simp_all [orderS]
def lessS (a b : Val) : Val := if cmpS a b then boolV (decide (orderS a b < 0)) else null
theorem c_Less (k n : Int) (s : List UInt8) (k' n' : Int) (s' : List UInt8) : R K (.call 25 [V k n s, V k' n' s'] []) = some (enc (lessS ⟨k, n, s⟩ ⟨k', n', s'⟩), []) := by
  rw [call_25]
  simp -implicitDefEqProofs only [↓reduceIte, go_sem, Nat.reduceAdd, Nat.reduceSub, Nat.reduceMul, Nat.reduceBEq, Nat.reduceLeDiff, Nat.reduceLT, Nat.reduceEqDiff, reduceCtorEq, Int.reduceBEq, Int.reduceBNe, Int.reduceLT, Int.reduceLE, Int.reduceAdd, Int.reduceSub, Int.reduceMul, Int.reduceNeg, Int.reduceEq, Int.reduceToNat, Tryz.f25, c_comparable, c_order, c_boolean]
  repeat' (first | (refine split_cond (fun hc => ?_) (fun hc => ?_) <;> simp -implicitDefEqProofs only [hc, ↓reduceIte, go_sem, Nat.reduceAdd, Nat.reduceSub, Nat.reduceMul, Nat.reduceBEq, Nat.reduceLeDiff, Nat.reduceLT, Nat.reduceEqDiff, reduceCtorEq, Int.reduceBEq, Int.reduceBNe, Int.reduceLT, Int.reduceLE, Int.reduceAdd, Int.reduceSub, Int.reduceMul, Int.reduceNeg, Int.reduceEq, Int.reduceToNat, c_comparable, c_order, c_boolean]) | (refine split_yes (fun hc => ?_) (fun hc => ?_) <;> simp -implicitDefEqProofs only [hc, ↓reduceIte, go_sem, Nat.reduceAdd, Nat.reduceSub, Nat.reduceMul, Nat.reduceBEq, Nat.reduceLeDiff, Nat.reduceLT, Nat.reduceEqDiff, reduceCtorEq, Int.reduceBEq, Int.reduceBNe, Int.reduceLT, Int.reduceLE, Int.reduceAdd, Int.reduceSub, Int.reduceMul, Int.reduceNeg, Int.reduceEq, Int.reduceToNat, c_comparable, c_order, c_boolean]) | (refine split_no (fun hc => ?_) (fun hc => ?_) <;> simp -implicitDefEqProofs only [hc, ↓reduceIte, go_sem, Nat.reduceAdd, Nat.reduceSub, Nat.reduceMul, Nat.reduceBEq, Nat.reduceLeDiff, Nat.reduceLT, Nat.reduceEqDiff, reduceCtorEq, Int.reduceBEq, Int.reduceBNe, Int.reduceLT, Int.reduceLE, Int.reduceAdd, Int.reduceSub, Int.reduceMul, Int.reduceNeg, Int.reduceEq, Int.reduceToNat, c_comparable, c_order, c_boolean]))
  all_goals simp_all [lessS, null]
/- Numbers. -/
def addS (a b : Val) : Val := if isK 2 b && (isK 2 a || isK 4 a) then numberS a.k (wrapI .i64 (a.n + b.n)) else null
theorem c_Add (k n : Int) (s : List UInt8) (k' n' : Int) (s' : List UInt8) : R K (.call 27 [V k n s, V k' n' s'] []) = some (enc (addS ⟨k, n, s⟩ ⟨k', n', s'⟩), []) := by
  rw [call_27]
  simp -implicitDefEqProofs only [↓reduceIte, go_sem, Nat.reduceAdd, Nat.reduceSub, Nat.reduceMul, Nat.reduceBEq, Nat.reduceLeDiff, Nat.reduceLT, Nat.reduceEqDiff, reduceCtorEq, Int.reduceBEq, Int.reduceBNe, Int.reduceLT, Int.reduceLE, Int.reduceAdd, Int.reduceSub, Int.reduceMul, Int.reduceNeg, Int.reduceEq, Int.reduceToNat, Tryz.f27, c_ints1, c_plain, c_number]
  repeat' (first | (refine split_cond (fun hc => ?_) (fun hc => ?_) <;> simp -implicitDefEqProofs only [hc, ↓reduceIte, go_sem, Nat.reduceAdd, Nat.reduceSub, Nat.reduceMul, Nat.reduceBEq, Nat.reduceLeDiff, Nat.reduceLT, Nat.reduceEqDiff, reduceCtorEq, Int.reduceBEq, Int.reduceBNe, Int.reduceLT, Int.reduceLE, Int.reduceAdd, Int.reduceSub, Int.reduceMul, Int.reduceNeg, Int.reduceEq, Int.reduceToNat, c_ints1, c_plain, c_number]) | (refine split_yes (fun hc => ?_) (fun hc => ?_) <;> simp -implicitDefEqProofs only [hc, ↓reduceIte, go_sem, Nat.reduceAdd, Nat.reduceSub, Nat.reduceMul, Nat.reduceBEq, Nat.reduceLeDiff, Nat.reduceLT, Nat.reduceEqDiff, reduceCtorEq, Int.reduceBEq, Int.reduceBNe, Int.reduceLT, Int.reduceLE, Int.reduceAdd, Int.reduceSub, Int.reduceMul, Int.reduceNeg, Int.reduceEq, Int.reduceToNat, c_ints1, c_plain, c_number]) | (refine split_no (fun hc => ?_) (fun hc => ?_) <;> simp -implicitDefEqProofs only [hc, ↓reduceIte, go_sem, Nat.reduceAdd, Nat.reduceSub, Nat.reduceMul, Nat.reduceBEq, Nat.reduceLeDiff, Nat.reduceLT, Nat.reduceEqDiff, reduceCtorEq, Int.reduceBEq, Int.reduceBNe, Int.reduceLT, Int.reduceLE, Int.reduceAdd, Int.reduceSub, Int.reduceMul, Int.reduceNeg, Int.reduceEq, Int.reduceToNat, c_ints1, c_plain, c_number]))
  all_goals simp_all [addS, null, isK]
def negS (a : Val) : Val := if isK 2 a then numberS 2 (wrapI .i64 (0 - a.n)) else null
theorem c_Neg (k n : Int) (s : List UInt8) : R K (.call 32 [V k n s] []) = some (enc (negS ⟨k, n, s⟩), []) := by
  rw [call_32]
  simp -implicitDefEqProofs only [↓reduceIte, go_sem, Nat.reduceAdd, Nat.reduceSub, Nat.reduceMul, Nat.reduceBEq, Nat.reduceLeDiff, Nat.reduceLT, Nat.reduceEqDiff, reduceCtorEq, Int.reduceBEq, Int.reduceBNe, Int.reduceLT, Int.reduceLE, Int.reduceAdd, Int.reduceSub, Int.reduceMul, Int.reduceNeg, Int.reduceEq, Int.reduceToNat, Tryz.f32, c_ints1, c_number]
  repeat' (first | (refine split_cond (fun hc => ?_) (fun hc => ?_) <;> simp -implicitDefEqProofs only [hc, ↓reduceIte, go_sem, Nat.reduceAdd, Nat.reduceSub, Nat.reduceMul, Nat.reduceBEq, Nat.reduceLeDiff, Nat.reduceLT, Nat.reduceEqDiff, reduceCtorEq, Int.reduceBEq, Int.reduceBNe, Int.reduceLT, Int.reduceLE, Int.reduceAdd, Int.reduceSub, Int.reduceMul, Int.reduceNeg, Int.reduceEq, Int.reduceToNat, c_ints1, c_number]) | (refine split_yes (fun hc => ?_) (fun hc => ?_) <;> simp -implicitDefEqProofs only [hc, ↓reduceIte, go_sem, Nat.reduceAdd, Nat.reduceSub, Nat.reduceMul, Nat.reduceBEq, Nat.reduceLeDiff, Nat.reduceLT, Nat.reduceEqDiff, reduceCtorEq, Int.reduceBEq, Int.reduceBNe, Int.reduceLT, Int.reduceLE, Int.reduceAdd, Int.reduceSub, Int.reduceMul, Int.reduceNeg, Int.reduceEq, Int.reduceToNat, c_ints1, c_number]) | (refine split_no (fun hc => ?_) (fun hc => ?_) <;> simp -implicitDefEqProofs only [hc, ↓reduceIte, go_sem, Nat.reduceAdd, Nat.reduceSub, Nat.reduceMul, Nat.reduceBEq, Nat.reduceLeDiff, Nat.reduceLT, Nat.reduceEqDiff, reduceCtorEq, Int.reduceBEq, Int.reduceBNe, Int.reduceLT, Int.reduceLE, Int.reduceAdd, Int.reduceSub, Int.reduceMul, Int.reduceNeg, Int.reduceEq, Int.reduceToNat, c_ints1, c_number]))
  all_goals simp_all [negS, null]
def subS (a b : Val) : Val := if isK 4 a && isK 4 b then numberS 2 (wrapI .i64 (a.n - b.n)) else if isK 2 b then addS a (negS b) else null
theorem c_Sub (k n : Int) (s : List UInt8) (k' n' : Int) (s' : List UInt8) : R K (.call 28 [V k n s, V k' n' s'] []) = some (enc (subS ⟨k, n, s⟩ ⟨k', n', s'⟩), []) := by
  rw [call_28]
  simp -implicitDefEqProofs only [↓reduceIte, go_sem, Nat.reduceAdd, Nat.reduceSub, Nat.reduceMul, Nat.reduceBEq, Nat.reduceLeDiff, Nat.reduceLT, Nat.reduceEqDiff, reduceCtorEq, Int.reduceBEq, Int.reduceBNe, Int.reduceLT, Int.reduceLE, Int.reduceAdd, Int.reduceSub, Int.reduceMul, Int.reduceNeg, Int.reduceEq, Int.reduceToNat, Tryz.f28, c_ints1, c_plain, c_number, c_Neg, c_Add]
  repeat' (first | (refine split_cond (fun hc => ?_) (fun hc => ?_) <;> simp -implicitDefEqProofs only [hc, ↓reduceIte, go_sem, Nat.reduceAdd, Nat.reduceSub, Nat.reduceMul, Nat.reduceBEq, Nat.reduceLeDiff, Nat.reduceLT, Nat.reduceEqDiff, reduceCtorEq, Int.reduceBEq, Int.reduceBNe, Int.reduceLT, Int.reduceLE, Int.reduceAdd, Int.reduceSub, Int.reduceMul, Int.reduceNeg, Int.reduceEq, Int.reduceToNat, c_ints1, c_plain, c_number, c_Neg, c_Add]) | (refine split_yes (fun hc => ?_) (fun hc => ?_) <;> simp -implicitDefEqProofs only [hc, ↓reduceIte, go_sem, Nat.reduceAdd, Nat.reduceSub, Nat.reduceMul, Nat.reduceBEq, Nat.reduceLeDiff, Nat.reduceLT, Nat.reduceEqDiff, reduceCtorEq, Int.reduceBEq, Int.reduceBNe, Int.reduceLT, Int.reduceLE, Int.reduceAdd, Int.reduceSub, Int.reduceMul, Int.reduceNeg, Int.reduceEq, Int.reduceToNat, c_ints1, c_plain, c_number, c_Neg, c_Add]) | (refine split_no (fun hc => ?_) (fun hc => ?_) <;> simp -implicitDefEqProofs only [hc, ↓reduceIte, go_sem, Nat.reduceAdd, Nat.reduceSub, Nat.reduceMul, Nat.reduceBEq, Nat.reduceLeDiff, Nat.reduceLT, Nat.reduceEqDiff, reduceCtorEq, Int.reduceBEq, Int.reduceBNe, Int.reduceLT, Int.reduceLE, Int.reduceAdd, Int.reduceSub, Int.reduceMul, Int.reduceNeg, Int.reduceEq, Int.reduceToNat, c_ints1, c_plain, c_number, c_Neg, c_Add]))
  all_goals simp_all [subS, null, isK]
def floorS (a b : Int) : Int := if a.tmod b ≠ 0 ∧ (decide (a < 0) != decide (b < 0)) = true then wrapI .i64 (wrapI .i64 (a.tdiv b) - 1) else wrapI .i64 (a.tdiv b)
theorem c_floor (a b : Int) (hb : b ≠ 0) : R K (.call 88 [.int .i64 a, .int .i64 b] []) = some (.int .i64 (floorS a b), []) := by
  rw [call_88]
  simp -implicitDefEqProofs only [↓reduceIte, go_sem, Nat.reduceAdd, Nat.reduceSub, Nat.reduceMul, Nat.reduceBEq, Nat.reduceLeDiff, Nat.reduceLT, Nat.reduceEqDiff, reduceCtorEq, Int.reduceBEq, Int.reduceBNe, Int.reduceLT, Int.reduceLE, Int.reduceAdd, Int.reduceSub, Int.reduceMul, Int.reduceNeg, Int.reduceEq, Int.reduceToNat, Tryz.f88, hb]
  repeat' (first | (refine split_cond (fun hc => ?_) (fun hc => ?_) <;> simp -implicitDefEqProofs only [hc, ↓reduceIte, go_sem, Nat.reduceAdd, Nat.reduceSub, Nat.reduceMul, Nat.reduceBEq, Nat.reduceLeDiff, Nat.reduceLT, Nat.reduceEqDiff, reduceCtorEq, Int.reduceBEq, Int.reduceBNe, Int.reduceLT, Int.reduceLE, Int.reduceAdd, Int.reduceSub, Int.reduceMul, Int.reduceNeg, Int.reduceEq, Int.reduceToNat, hb]) | (refine split_yes (fun hc => ?_) (fun hc => ?_) <;> simp -implicitDefEqProofs only [hc, ↓reduceIte, go_sem, Nat.reduceAdd, Nat.reduceSub, Nat.reduceMul, Nat.reduceBEq, Nat.reduceLeDiff, Nat.reduceLT, Nat.reduceEqDiff, reduceCtorEq, Int.reduceBEq, Int.reduceBNe, Int.reduceLT, Int.reduceLE, Int.reduceAdd, Int.reduceSub, Int.reduceMul, Int.reduceNeg, Int.reduceEq, Int.reduceToNat, hb]) | (refine split_no (fun hc => ?_) (fun hc => ?_) <;> simp -implicitDefEqProofs only [hc, ↓reduceIte, go_sem, Nat.reduceAdd, Nat.reduceSub, Nat.reduceMul, Nat.reduceBEq, Nat.reduceLeDiff, Nat.reduceLT, Nat.reduceEqDiff, reduceCtorEq, Int.reduceBEq, Int.reduceBNe, Int.reduceLT, Int.reduceLE, Int.reduceAdd, Int.reduceSub, Int.reduceMul, Int.reduceNeg, Int.reduceEq, Int.reduceToNat, hb]))
  all_goals simp_all [floorS]
def divS (a b : Val) : Val := if isK 2 a && isK 2 b && !(b.n == 0) then numberS 2 (floorS a.n b.n) else null
theorem c_Div (k n : Int) (s : List UInt8) (k' n' : Int) (s' : List UInt8) : R K (.call 30 [V k n s, V k' n' s'] []) = some (enc (divS ⟨k, n, s⟩ ⟨k', n', s'⟩), []) := by
  by_cases hb : n' = 0
  · subst hb
    rw [call_30]
    simp -implicitDefEqProofs only [↓reduceIte, go_sem, Nat.reduceAdd, Nat.reduceSub, Nat.reduceMul, Nat.reduceBEq, Nat.reduceLeDiff, Nat.reduceLT, Nat.reduceEqDiff, reduceCtorEq, Int.reduceBEq, Int.reduceBNe, Int.reduceLT, Int.reduceLE, Int.reduceAdd, Int.reduceSub, Int.reduceMul, Int.reduceNeg, Int.reduceEq, Int.reduceToNat, Tryz.f30, c_ints2, c_number]
    repeat' (first | (refine split_cond (fun hc => ?_) (fun hc => ?_) <;> simp -implicitDefEqProofs only [hc, ↓reduceIte, go_sem, Nat.reduceAdd, Nat.reduceSub, Nat.reduceMul, Nat.reduceBEq, Nat.reduceLeDiff, Nat.reduceLT, Nat.reduceEqDiff, reduceCtorEq, Int.reduceBEq, Int.reduceBNe, Int.reduceLT, Int.reduceLE, Int.reduceAdd, Int.reduceSub, Int.reduceMul, Int.reduceNeg, Int.reduceEq, Int.reduceToNat, c_ints2, c_number]) | (refine split_yes (fun hc => ?_) (fun hc => ?_) <;> simp -implicitDefEqProofs only [hc, ↓reduceIte, go_sem, Nat.reduceAdd, Nat.reduceSub, Nat.reduceMul, Nat.reduceBEq, Nat.reduceLeDiff, Nat.reduceLT, Nat.reduceEqDiff, reduceCtorEq, Int.reduceBEq, Int.reduceBNe, Int.reduceLT, Int.reduceLE, Int.reduceAdd, Int.reduceSub, Int.reduceMul, Int.reduceNeg, Int.reduceEq, Int.reduceToNat, c_ints2, c_number]) | (refine split_no (fun hc => ?_) (fun hc => ?_) <;> simp -implicitDefEqProofs only [hc, ↓reduceIte, go_sem, Nat.reduceAdd, Nat.reduceSub, Nat.reduceMul, Nat.reduceBEq, Nat.reduceLeDiff, Nat.reduceLT, Nat.reduceEqDiff, reduceCtorEq, Int.reduceBEq, Int.reduceBNe, Int.reduceLT, Int.reduceLE, Int.reduceAdd, Int.reduceSub, Int.reduceMul, Int.reduceNeg, Int.reduceEq, Int.reduceToNat, c_ints2, c_number]))
    all_goals simp_all [divS, null] <;> (rcases hc with hc | hc <;> simp [hc])
  · rw [call_30]
    simp -implicitDefEqProofs only [↓reduceIte, go_sem, Nat.reduceAdd, Nat.reduceSub, Nat.reduceMul, Nat.reduceBEq, Nat.reduceLeDiff, Nat.reduceLT, Nat.reduceEqDiff, reduceCtorEq, Int.reduceBEq, Int.reduceBNe, Int.reduceLT, Int.reduceLE, Int.reduceAdd, Int.reduceSub, Int.reduceMul, Int.reduceNeg, Int.reduceEq, Int.reduceToNat, Tryz.f30, c_ints2, c_number, c_floor _ _ hb, hb]
    repeat' (first | (refine split_cond (fun hc => ?_) (fun hc => ?_) <;> simp -implicitDefEqProofs only [hc, ↓reduceIte, go_sem, Nat.reduceAdd, Nat.reduceSub, Nat.reduceMul, Nat.reduceBEq, Nat.reduceLeDiff, Nat.reduceLT, Nat.reduceEqDiff, reduceCtorEq, Int.reduceBEq, Int.reduceBNe, Int.reduceLT, Int.reduceLE, Int.reduceAdd, Int.reduceSub, Int.reduceMul, Int.reduceNeg, Int.reduceEq, Int.reduceToNat, c_ints2, c_number, c_floor _ _ hb, hb]) | (refine split_yes (fun hc => ?_) (fun hc => ?_) <;> simp -implicitDefEqProofs only [hc, ↓reduceIte, go_sem, Nat.reduceAdd, Nat.reduceSub, Nat.reduceMul, Nat.reduceBEq, Nat.reduceLeDiff, Nat.reduceLT, Nat.reduceEqDiff, reduceCtorEq, Int.reduceBEq, Int.reduceBNe, Int.reduceLT, Int.reduceLE, Int.reduceAdd, Int.reduceSub, Int.reduceMul, Int.reduceNeg, Int.reduceEq, Int.reduceToNat, c_ints2, c_number, c_floor _ _ hb, hb]) | (refine split_no (fun hc => ?_) (fun hc => ?_) <;> simp -implicitDefEqProofs only [hc, ↓reduceIte, go_sem, Nat.reduceAdd, Nat.reduceSub, Nat.reduceMul, Nat.reduceBEq, Nat.reduceLeDiff, Nat.reduceLT, Nat.reduceEqDiff, reduceCtorEq, Int.reduceBEq, Int.reduceBNe, Int.reduceLT, Int.reduceLE, Int.reduceAdd, Int.reduceSub, Int.reduceMul, Int.reduceNeg, Int.reduceEq, Int.reduceToNat, c_ints2, c_number, c_floor _ _ hb, hb]))
    all_goals simp_all [divS, null] <;> (rcases hc with hc | hc <;> simp [hc])
def modS (a b : Val) : Val := if isK 2 a && isK 2 b && !(b.n == 0) then numberS 2 (wrapI .i64 (a.n - wrapI .i64 (b.n * floorS a.n b.n))) else null
theorem c_Mod (k n : Int) (s : List UInt8) (k' n' : Int) (s' : List UInt8) : R K (.call 31 [V k n s, V k' n' s'] []) = some (enc (modS ⟨k, n, s⟩ ⟨k', n', s'⟩), []) := by
  by_cases hb : n' = 0
  · subst hb
    rw [call_31]
    simp -implicitDefEqProofs only [↓reduceIte, go_sem, Nat.reduceAdd, Nat.reduceSub, Nat.reduceMul, Nat.reduceBEq, Nat.reduceLeDiff, Nat.reduceLT, Nat.reduceEqDiff, reduceCtorEq, Int.reduceBEq, Int.reduceBNe, Int.reduceLT, Int.reduceLE, Int.reduceAdd, Int.reduceSub, Int.reduceMul, Int.reduceNeg, Int.reduceEq, Int.reduceToNat, Tryz.f31, c_ints2, c_number]
    repeat' (first | (refine split_cond (fun hc => ?_) (fun hc => ?_) <;> simp -implicitDefEqProofs only [hc, ↓reduceIte, go_sem, Nat.reduceAdd, Nat.reduceSub, Nat.reduceMul, Nat.reduceBEq, Nat.reduceLeDiff, Nat.reduceLT, Nat.reduceEqDiff, reduceCtorEq, Int.reduceBEq, Int.reduceBNe, Int.reduceLT, Int.reduceLE, Int.reduceAdd, Int.reduceSub, Int.reduceMul, Int.reduceNeg, Int.reduceEq, Int.reduceToNat, c_ints2, c_number]) | (refine split_yes (fun hc => ?_) (fun hc => ?_) <;> simp -implicitDefEqProofs only [hc, ↓reduceIte, go_sem, Nat.reduceAdd, Nat.reduceSub, Nat.reduceMul, Nat.reduceBEq, Nat.reduceLeDiff, Nat.reduceLT, Nat.reduceEqDiff, reduceCtorEq, Int.reduceBEq, Int.reduceBNe, Int.reduceLT, Int.reduceLE, Int.reduceAdd, Int.reduceSub, Int.reduceMul, Int.reduceNeg, Int.reduceEq, Int.reduceToNat, c_ints2, c_number]) | (refine split_no (fun hc => ?_) (fun hc => ?_) <;> simp -implicitDefEqProofs only [hc, ↓reduceIte, go_sem, Nat.reduceAdd, Nat.reduceSub, Nat.reduceMul, Nat.reduceBEq, Nat.reduceLeDiff, Nat.reduceLT, Nat.reduceEqDiff, reduceCtorEq, Int.reduceBEq, Int.reduceBNe, Int.reduceLT, Int.reduceLE, Int.reduceAdd, Int.reduceSub, Int.reduceMul, Int.reduceNeg, Int.reduceEq, Int.reduceToNat, c_ints2, c_number]))
    all_goals simp_all [modS, null] <;> (rcases hc with hc | hc <;> simp [hc])
  · rw [call_31]
    simp -implicitDefEqProofs only [↓reduceIte, go_sem, Nat.reduceAdd, Nat.reduceSub, Nat.reduceMul, Nat.reduceBEq, Nat.reduceLeDiff, Nat.reduceLT, Nat.reduceEqDiff, reduceCtorEq, Int.reduceBEq, Int.reduceBNe, Int.reduceLT, Int.reduceLE, Int.reduceAdd, Int.reduceSub, Int.reduceMul, Int.reduceNeg, Int.reduceEq, Int.reduceToNat, Tryz.f31, c_ints2, c_number, c_floor _ _ hb, hb]
    repeat' (first | (refine split_cond (fun hc => ?_) (fun hc => ?_) <;> simp -implicitDefEqProofs only [hc, ↓reduceIte, go_sem, Nat.reduceAdd, Nat.reduceSub, Nat.reduceMul, Nat.reduceBEq, Nat.reduceLeDiff, Nat.reduceLT, Nat.reduceEqDiff, reduceCtorEq, Int.reduceBEq, Int.reduceBNe, Int.reduceLT, Int.reduceLE, Int.reduceAdd, Int.reduceSub, Int.reduceMul, Int.reduceNeg, Int.reduceEq, Int.reduceToNat, c_ints2, c_number, c_floor _ _ hb, hb]) | (refine split_yes (fun hc => ?_) (fun hc => ?_) <;> simp -implicitDefEqProofs only [hc, ↓reduceIte, go_sem, Nat.reduceAdd, Nat.reduceSub, Nat.reduceMul, Nat.reduceBEq, Nat.reduceLeDiff, Nat.reduceLT, Nat.reduceEqDiff, reduceCtorEq, Int.reduceBEq, Int.reduceBNe, Int.reduceLT, Int.reduceLE, Int.reduceAdd, Int.reduceSub, Int.reduceMul, Int.reduceNeg, Int.reduceEq, Int.reduceToNat, c_ints2, c_number, c_floor _ _ hb, hb]) | (refine split_no (fun hc => ?_) (fun hc => ?_) <;> simp -implicitDefEqProofs only [hc, ↓reduceIte, go_sem, Nat.reduceAdd, Nat.reduceSub, Nat.reduceMul, Nat.reduceBEq, Nat.reduceLeDiff, Nat.reduceLT, Nat.reduceEqDiff, reduceCtorEq, Int.reduceBEq, Int.reduceBNe, Int.reduceLT, Int.reduceLE, Int.reduceAdd, Int.reduceSub, Int.reduceMul, Int.reduceNeg, Int.reduceEq, Int.reduceToNat, c_ints2, c_number, c_floor _ _ hb, hb]))
    all_goals simp_all [modS, null] <;> (rcases hc with hc | hc <;> simp [hc])
/- Texts. -/
theorem plain_len (v : Val) (h : (plainV v).k = 3) : (plainV v) = v ∧ v.s.length ≤ 100 ∧ ok7 v.s = true := by
  unfold plainV at h ⊢
  split at h
  · rename_i hr
    have hk : v.k = 3 := by simpa [hr] using h
    simp only [rightS, Bool.and_eq_true, decide_eq_true_eq] at hr
    obtain ⟨h1, h2, h3⟩ := hr
    refine ⟨by simp [rightS, h1, h2, h3], h2, ?_⟩
    simpa [rangeS, hk] using h3
  · simp [null] at h
def concatS (a b : Val) : Val := if isK 3 a && isK 3 b then textS (a.s ++ b.s) else null
theorem c_Concat (k n : Int) (s : List UInt8) (k' n' : Int) (s' : List UInt8) : R K (.call 33 [V k n s, V k' n' s'] []) = some (enc (concatS ⟨k, n, s⟩ ⟨k', n', s'⟩), []) := by
  by_cases hs : s.length + s'.length ≤ strMax
  · rw [call_33]
    simp -implicitDefEqProofs only [↓reduceIte, go_sem, Nat.reduceAdd, Nat.reduceSub, Nat.reduceMul, Nat.reduceBEq, Nat.reduceLeDiff, Nat.reduceLT, Nat.reduceEqDiff, reduceCtorEq, Int.reduceBEq, Int.reduceBNe, Int.reduceLT, Int.reduceLE, Int.reduceAdd, Int.reduceSub, Int.reduceMul, Int.reduceNeg, Int.reduceEq, Int.reduceToNat, Tryz.f33, c_texts2, c_text, hs]
    repeat' (first | (refine split_cond (fun hc => ?_) (fun hc => ?_) <;> simp -implicitDefEqProofs only [hc, ↓reduceIte, go_sem, Nat.reduceAdd, Nat.reduceSub, Nat.reduceMul, Nat.reduceBEq, Nat.reduceLeDiff, Nat.reduceLT, Nat.reduceEqDiff, reduceCtorEq, Int.reduceBEq, Int.reduceBNe, Int.reduceLT, Int.reduceLE, Int.reduceAdd, Int.reduceSub, Int.reduceMul, Int.reduceNeg, Int.reduceEq, Int.reduceToNat, c_texts2, c_text, hs]) | (refine split_yes (fun hc => ?_) (fun hc => ?_) <;> simp -implicitDefEqProofs only [hc, ↓reduceIte, go_sem, Nat.reduceAdd, Nat.reduceSub, Nat.reduceMul, Nat.reduceBEq, Nat.reduceLeDiff, Nat.reduceLT, Nat.reduceEqDiff, reduceCtorEq, Int.reduceBEq, Int.reduceBNe, Int.reduceLT, Int.reduceLE, Int.reduceAdd, Int.reduceSub, Int.reduceMul, Int.reduceNeg, Int.reduceEq, Int.reduceToNat, c_texts2, c_text, hs]) | (refine split_no (fun hc => ?_) (fun hc => ?_) <;> simp -implicitDefEqProofs only [hc, ↓reduceIte, go_sem, Nat.reduceAdd, Nat.reduceSub, Nat.reduceMul, Nat.reduceBEq, Nat.reduceLeDiff, Nat.reduceLT, Nat.reduceEqDiff, reduceCtorEq, Int.reduceBEq, Int.reduceBNe, Int.reduceLT, Int.reduceLE, Int.reduceAdd, Int.reduceSub, Int.reduceMul, Int.reduceNeg, Int.reduceEq, Int.reduceToNat, c_texts2, c_text, hs]))
    all_goals simp_all [concatS, null] <;> (rcases hc with hc | hc <;> simp [hc])
  · have : ¬ (isK 3 ⟨k, n, s⟩ && isK 3 ⟨k', n', s'⟩) = true := by
      intro h
      simp only [isK, Bool.and_eq_true, beq_iff_eq] at h
      have h1 := (plain_len _ h.1).2.1
      have h2 := (plain_len _ h.2).2.1
      simp only at h1 h2
      unfold strMax at hs
      omega
    have h2 : (isK 3 ⟨k, n, s⟩ && isK 3 ⟨k', n', s'⟩) = false := by simpa using this
    rw [call_33]
    simp -implicitDefEqProofs only [↓reduceIte, go_sem, Nat.reduceAdd, Nat.reduceSub, Nat.reduceMul, Nat.reduceBEq, Nat.reduceLeDiff, Nat.reduceLT, Nat.reduceEqDiff, reduceCtorEq, Int.reduceBEq, Int.reduceBNe, Int.reduceLT, Int.reduceLE, Int.reduceAdd, Int.reduceSub, Int.reduceMul, Int.reduceNeg, Int.reduceEq, Int.reduceToNat, Tryz.f33, c_texts2, h2]
    repeat' (first | (refine split_cond (fun hc => ?_) (fun hc => ?_) <;> simp -implicitDefEqProofs only [hc, ↓reduceIte, go_sem, Nat.reduceAdd, Nat.reduceSub, Nat.reduceMul, Nat.reduceBEq, Nat.reduceLeDiff, Nat.reduceLT, Nat.reduceEqDiff, reduceCtorEq, Int.reduceBEq, Int.reduceBNe, Int.reduceLT, Int.reduceLE, Int.reduceAdd, Int.reduceSub, Int.reduceMul, Int.reduceNeg, Int.reduceEq, Int.reduceToNat, c_texts2, h2]) | (refine split_yes (fun hc => ?_) (fun hc => ?_) <;> simp -implicitDefEqProofs only [hc, ↓reduceIte, go_sem, Nat.reduceAdd, Nat.reduceSub, Nat.reduceMul, Nat.reduceBEq, Nat.reduceLeDiff, Nat.reduceLT, Nat.reduceEqDiff, reduceCtorEq, Int.reduceBEq, Int.reduceBNe, Int.reduceLT, Int.reduceLE, Int.reduceAdd, Int.reduceSub, Int.reduceMul, Int.reduceNeg, Int.reduceEq, Int.reduceToNat, c_texts2, h2]) | (refine split_no (fun hc => ?_) (fun hc => ?_) <;> simp -implicitDefEqProofs only [hc, ↓reduceIte, go_sem, Nat.reduceAdd, Nat.reduceSub, Nat.reduceMul, Nat.reduceBEq, Nat.reduceLeDiff, Nat.reduceLT, Nat.reduceEqDiff, reduceCtorEq, Int.reduceBEq, Int.reduceBNe, Int.reduceLT, Int.reduceLE, Int.reduceAdd, Int.reduceSub, Int.reduceMul, Int.reduceNeg, Int.reduceEq, Int.reduceToNat, c_texts2, h2]))
    have h3 : concatS ⟨k, n, s⟩ ⟨k', n', s'⟩ = null := by unfold concatS; rw [h2]; rfl
    rw [h3]
    rfl
def lengthS (a : Val) : Val := if isK 3 a then numberS 2 a.s.length else null
theorem c_Length (k n : Int) (s : List UInt8) : R K (.call 34 [V k n s] []) = some (enc (lengthS ⟨k, n, s⟩), []) := by
  rw [call_34]
  simp -implicitDefEqProofs only [↓reduceIte, go_sem, Nat.reduceAdd, Nat.reduceSub, Nat.reduceMul, Nat.reduceBEq, Nat.reduceLeDiff, Nat.reduceLT, Nat.reduceEqDiff, reduceCtorEq, Int.reduceBEq, Int.reduceBNe, Int.reduceLT, Int.reduceLE, Int.reduceAdd, Int.reduceSub, Int.reduceMul, Int.reduceNeg, Int.reduceEq, Int.reduceToNat, Tryz.f34, c_texts1, c_number]
  repeat' (first | (refine split_cond (fun hc => ?_) (fun hc => ?_) <;> simp -implicitDefEqProofs only [hc, ↓reduceIte, go_sem, Nat.reduceAdd, Nat.reduceSub, Nat.reduceMul, Nat.reduceBEq, Nat.reduceLeDiff, Nat.reduceLT, Nat.reduceEqDiff, reduceCtorEq, Int.reduceBEq, Int.reduceBNe, Int.reduceLT, Int.reduceLE, Int.reduceAdd, Int.reduceSub, Int.reduceMul, Int.reduceNeg, Int.reduceEq, Int.reduceToNat, c_texts1, c_number]) | (refine split_yes (fun hc => ?_) (fun hc => ?_) <;> simp -implicitDefEqProofs only [hc, ↓reduceIte, go_sem, Nat.reduceAdd, Nat.reduceSub, Nat.reduceMul, Nat.reduceBEq, Nat.reduceLeDiff, Nat.reduceLT, Nat.reduceEqDiff, reduceCtorEq, Int.reduceBEq, Int.reduceBNe, Int.reduceLT, Int.reduceLE, Int.reduceAdd, Int.reduceSub, Int.reduceMul, Int.reduceNeg, Int.reduceEq, Int.reduceToNat, c_texts1, c_number]) | (refine split_no (fun hc => ?_) (fun hc => ?_) <;> simp -implicitDefEqProofs only [hc, ↓reduceIte, go_sem, Nat.reduceAdd, Nat.reduceSub, Nat.reduceMul, Nat.reduceBEq, Nat.reduceLeDiff, Nat.reduceLT, Nat.reduceEqDiff, reduceCtorEq, Int.reduceBEq, Int.reduceBNe, Int.reduceLT, Int.reduceLE, Int.reduceAdd, Int.reduceSub, Int.reduceMul, Int.reduceNeg, Int.reduceEq, Int.reduceToNat, c_texts1, c_number]))
  all_goals simp_all [lengthS, null]
end Go.Ab
namespace Go.Ab
open Go Go.Proofs
set_option maxRecDepth 100000

theorem byteRows_get : ∀ (s : List UInt8) (i : Nat) (b : UInt8), s[i]? = some b → (byteRows s)[i]? = some [.int .u8 (b.toNat : Int)]
  | [], i, b, h => by simp at h
  | c :: r, 0, b, h => by simp at h; subst h; rfl
  | c :: r, i + 1, b, h => by simpa [byteRows] using byteRows_get r i b (by simpa using h)
theorem l_rplain (s : List UInt8) (hs : s.length ≤ 100) (ks : List It) : ∀ (m i : Nat) (j : Int) (B : Code), Loop Tryz.f259 0 B → j = (i : Int) → s.length = i + m →
   RL K (.run 259 0 (.code B :: .lp B (some ([6, 7, 8], [])) 0 :: .blk 0 0 :: ks) [(6, .rows (byteRows s)), (7, .int .i64 s.length), (8, .int .i64 j)] []) =
   if ok7 (s.drop i) = true then R K (.run 259 0 ks [] []) else some (.bool false, [])
  | 0, i, j, B, hB, hj, hm => by
    subst hj
    have h1 : ¬ ((i : Int) < (s.length : Int)) := by omega
    unfold Loop at hB
    simp -implicitDefEqProofs only [↓reduceIte, go_sem, Nat.reduceAdd, Nat.reduceSub, Nat.reduceMul, Nat.reduceBEq, Nat.reduceLeDiff, Nat.reduceLT, Nat.reduceEqDiff, reduceCtorEq, Int.reduceBEq, Int.reduceBNe, Int.reduceLT, Int.reduceLE, Int.reduceAdd, Int.reduceSub, Int.reduceMul, Int.reduceNeg, Int.reduceEq, Int.reduceToNat, Tryz.f259, loopOf] at hB
    subst hB
    rw [RL_eq]
    simp -implicitDefEqProofs only [↓reduceIte, go_sem, Nat.reduceAdd, Nat.reduceSub, Nat.reduceMul, Nat.reduceBEq, Nat.reduceLeDiff, Nat.reduceLT, Nat.reduceEqDiff, reduceCtorEq, Int.reduceBEq, Int.reduceBNe, Int.reduceLT, Int.reduceLE, Int.reduceAdd, Int.reduceSub, Int.reduceMul, Int.reduceNeg, Int.reduceEq, Int.reduceToNat, h1]
    repeat' (first | (refine split_cond (fun hc => ?_) (fun hc => ?_) <;> simp -implicitDefEqProofs only [hc, ↓reduceIte, go_sem, Nat.reduceAdd, Nat.reduceSub, Nat.reduceMul, Nat.reduceBEq, Nat.reduceLeDiff, Nat.reduceLT, Nat.reduceEqDiff, reduceCtorEq, Int.reduceBEq, Int.reduceBNe, Int.reduceLT, Int.reduceLE, Int.reduceAdd, Int.reduceSub, Int.reduceMul, Int.reduceNeg, Int.reduceEq, Int.reduceToNat, h1]) | (refine split_yes (fun hc => ?_) (fun hc => ?_) <;> simp -implicitDefEqProofs only [hc, ↓reduceIte, go_sem, Nat.reduceAdd, Nat.reduceSub, Nat.reduceMul, Nat.reduceBEq, Nat.reduceLeDiff, Nat.reduceLT, Nat.reduceEqDiff, reduceCtorEq, Int.reduceBEq, Int.reduceBNe, Int.reduceLT, Int.reduceLE, Int.reduceAdd, Int.reduceSub, Int.reduceMul, Int.reduceNeg, Int.reduceEq, Int.reduceToNat, h1]) | (refine split_no (fun hc => ?_) (fun hc => ?_) <;> simp -implicitDefEqProofs only [hc, ↓reduceIte, go_sem, Nat.reduceAdd, Nat.reduceSub, Nat.reduceMul, Nat.reduceBEq, Nat.reduceLeDiff, Nat.reduceLT, Nat.reduceEqDiff, reduceCtorEq, Int.reduceBEq, Int.reduceBNe, Int.reduceLT, Int.reduceLE, Int.reduceAdd, Int.reduceSub, Int.reduceMul, Int.reduceNeg, Int.reduceEq, Int.reduceToNat, h1]))
    rw [List.drop_of_length_le (by omega)]
    rfl
  | m + 1, i, j, B, hB, hj, hm => by
    subst hj
    have h1 : ((i : Int) < (s.length : Int)) := by omega
    have hB' := hB
    obtain ⟨b, hb⟩ := some_at (l := s) (i := i) (by omega)
    have hg := at_get (byteRows_get s i b hb)
    have hw := next_id (i := i) (n := s.length) (by omega) (by omega)
    unfold Loop at hB
    simp -implicitDefEqProofs only [↓reduceIte, go_sem, Nat.reduceAdd, Nat.reduceSub, Nat.reduceMul, Nat.reduceBEq, Nat.reduceLeDiff, Nat.reduceLT, Nat.reduceEqDiff, reduceCtorEq, Int.reduceBEq, Int.reduceBNe, Int.reduceLT, Int.reduceLE, Int.reduceAdd, Int.reduceSub, Int.reduceMul, Int.reduceNeg, Int.reduceEq, Int.reduceToNat, Tryz.f259, loopOf] at hB
    subst hB
    rw [RL_eq]
    rw [drop_get hb]
    have ih := l_rplain s hs ks m (i + 1) _ _ hB' rfl (by omega)
    simp -implicitDefEqProofs only [↓reduceIte, go_sem, Nat.reduceAdd, Nat.reduceSub, Nat.reduceMul, Nat.reduceBEq, Nat.reduceLeDiff, Nat.reduceLT, Nat.reduceEqDiff, reduceCtorEq, Int.reduceBEq, Int.reduceBNe, Int.reduceLT, Int.reduceLE, Int.reduceAdd, Int.reduceSub, Int.reduceMul, Int.reduceNeg, Int.reduceEq, Int.reduceToNat, h1, hg, hw]
    repeat' (first | (refine split_cond (fun hc => ?_) (fun hc => ?_) <;> simp -implicitDefEqProofs only [hc, ↓reduceIte, go_sem, Nat.reduceAdd, Nat.reduceSub, Nat.reduceMul, Nat.reduceBEq, Nat.reduceLeDiff, Nat.reduceLT, Nat.reduceEqDiff, reduceCtorEq, Int.reduceBEq, Int.reduceBNe, Int.reduceLT, Int.reduceLE, Int.reduceAdd, Int.reduceSub, Int.reduceMul, Int.reduceNeg, Int.reduceEq, Int.reduceToNat, h1, hg, hw]) | (refine split_yes (fun hc => ?_) (fun hc => ?_) <;> simp -implicitDefEqProofs only [hc, ↓reduceIte, go_sem, Nat.reduceAdd, Nat.reduceSub, Nat.reduceMul, Nat.reduceBEq, Nat.reduceLeDiff, Nat.reduceLT, Nat.reduceEqDiff, reduceCtorEq, Int.reduceBEq, Int.reduceBNe, Int.reduceLT, Int.reduceLE, Int.reduceAdd, Int.reduceSub, Int.reduceMul, Int.reduceNeg, Int.reduceEq, Int.reduceToNat, h1, hg, hw]) | (refine split_no (fun hc => ?_) (fun hc => ?_) <;> simp -implicitDefEqProofs only [hc, ↓reduceIte, go_sem, Nat.reduceAdd, Nat.reduceSub, Nat.reduceMul, Nat.reduceBEq, Nat.reduceLeDiff, Nat.reduceLT, Nat.reduceEqDiff, reduceCtorEq, Int.reduceBEq, Int.reduceBNe, Int.reduceLT, Int.reduceLE, Int.reduceAdd, Int.reduceSub, Int.reduceMul, Int.reduceNeg, Int.reduceEq, Int.reduceToNat, h1, hg, hw]))
    all_goals simp only [decide_eq_true_eq, decide_eq_false_iff_not] at *
    · have : ok7 (b :: s.drop (i + 1)) = false := by simp [ok7_cons]; omega
      simp [this]
    · have : ok7 (b :: s.drop (i + 1)) = false := by simp [ok7_cons]; omega
      simp [this]
    · have : ok7 (b :: s.drop (i + 1)) = ok7 (s.drop (i + 1)) := by
        have : 32 ≤ b.toNat ∧ b.toNat ≤ 126 := by omega
        simp [ok7_cons, this]
      rw [this, ih]
theorem r_plain (s : List UInt8) (hs : s.length ≤ 100) : R K (.call 259 [.str s] []) = some (.bool (ok7 s), []) := by
  rw [call_259]
  simp -implicitDefEqProofs only [↓reduceIte, go_sem, Nat.reduceAdd, Nat.reduceSub, Nat.reduceMul, Nat.reduceBEq, Nat.reduceLeDiff, Nat.reduceLT, Nat.reduceEqDiff, reduceCtorEq, Int.reduceBEq, Int.reduceBNe, Int.reduceLT, Int.reduceLE, Int.reduceAdd, Int.reduceSub, Int.reduceMul, Int.reduceNeg, Int.reduceEq, Int.reduceToNat, Tryz.f259, byteRows_len]
  repeat' (first | (refine split_cond (fun hc => ?_) (fun hc => ?_) <;> simp -implicitDefEqProofs only [hc, ↓reduceIte, go_sem, Nat.reduceAdd, Nat.reduceSub, Nat.reduceMul, Nat.reduceBEq, Nat.reduceLeDiff, Nat.reduceLT, Nat.reduceEqDiff, reduceCtorEq, Int.reduceBEq, Int.reduceBNe, Int.reduceLT, Int.reduceLE, Int.reduceAdd, Int.reduceSub, Int.reduceMul, Int.reduceNeg, Int.reduceEq, Int.reduceToNat, byteRows_len]) | (refine split_yes (fun hc => ?_) (fun hc => ?_) <;> simp -implicitDefEqProofs only [hc, ↓reduceIte, go_sem, Nat.reduceAdd, Nat.reduceSub, Nat.reduceMul, Nat.reduceBEq, Nat.reduceLeDiff, Nat.reduceLT, Nat.reduceEqDiff, reduceCtorEq, Int.reduceBEq, Int.reduceBNe, Int.reduceLT, Int.reduceLE, Int.reduceAdd, Int.reduceSub, Int.reduceMul, Int.reduceNeg, Int.reduceEq, Int.reduceToNat, byteRows_len]) | (refine split_no (fun hc => ?_) (fun hc => ?_) <;> simp -implicitDefEqProofs only [hc, ↓reduceIte, go_sem, Nat.reduceAdd, Nat.reduceSub, Nat.reduceMul, Nat.reduceBEq, Nat.reduceLeDiff, Nat.reduceLT, Nat.reduceEqDiff, reduceCtorEq, Int.reduceBEq, Int.reduceBNe, Int.reduceLT, Int.reduceLE, Int.reduceAdd, Int.reduceSub, Int.reduceMul, Int.reduceNeg, Int.reduceEq, Int.reduceToNat, byteRows_len]))
  rw [l_rplain s hs _ s.length 0 0 _ ?_ rfl (by omega), List.drop_zero]
  · split
    · simp -implicitDefEqProofs only [↓reduceIte, go_sem, Nat.reduceAdd, Nat.reduceSub, Nat.reduceMul, Nat.reduceBEq, Nat.reduceLeDiff, Nat.reduceLT, Nat.reduceEqDiff, reduceCtorEq, Int.reduceBEq, Int.reduceBNe, Int.reduceLT, Int.reduceLE, Int.reduceAdd, Int.reduceSub, Int.reduceMul, Int.reduceNeg, Int.reduceEq, Int.reduceToNat]
      repeat' (first | (refine split_cond (fun hc => ?_) (fun hc => ?_) <;> simp -implicitDefEqProofs only [hc, ↓reduceIte, go_sem, Nat.reduceAdd, Nat.reduceSub, Nat.reduceMul, Nat.reduceBEq, Nat.reduceLeDiff, Nat.reduceLT, Nat.reduceEqDiff, reduceCtorEq, Int.reduceBEq, Int.reduceBNe, Int.reduceLT, Int.reduceLE, Int.reduceAdd, Int.reduceSub, Int.reduceMul, Int.reduceNeg, Int.reduceEq, Int.reduceToNat]) | (refine split_yes (fun hc => ?_) (fun hc => ?_) <;> simp -implicitDefEqProofs only [hc, ↓reduceIte, go_sem, Nat.reduceAdd, Nat.reduceSub, Nat.reduceMul, Nat.reduceBEq, Nat.reduceLeDiff, Nat.reduceLT, Nat.reduceEqDiff, reduceCtorEq, Int.reduceBEq, Int.reduceBNe, Int.reduceLT, Int.reduceLE, Int.reduceAdd, Int.reduceSub, Int.reduceMul, Int.reduceNeg, Int.reduceEq, Int.reduceToNat]) | (refine split_no (fun hc => ?_) (fun hc => ?_) <;> simp -implicitDefEqProofs only [hc, ↓reduceIte, go_sem, Nat.reduceAdd, Nat.reduceSub, Nat.reduceMul, Nat.reduceBEq, Nat.reduceLeDiff, Nat.reduceLT, Nat.reduceEqDiff, reduceCtorEq, Int.reduceBEq, Int.reduceBNe, Int.reduceLT, Int.reduceLE, Int.reduceAdd, Int.reduceSub, Int.reduceMul, Int.reduceNeg, Int.reduceEq, Int.reduceToNat]))
      simp_all
    · simp_all
  · rfl
def faultS (v : Val) : Int :=
  if !(within v.k 0 4) || (v.k != 3 && v.s != []) || ((v.k == 3 || v.k == 0) && v.n != 0) then 3
  else if 100 < v.s.length then 2
  else if !(ok7 v.s) || (v.k == 1 && !(within v.n 0 1)) || (v.k == 2 && !(within v.n (-999999999999999) 999999999999999)) || (v.k == 4 && !(within v.n 0 253402300799)) then 1
  else 0
theorem r_fault (k n : Int) (s : List UInt8) : R K (.call 193 [.int .i64 0, V k n s] []) = some (.int .i64 (faultS ⟨k, n, s⟩), []) := by
  by_cases hs : s.length ≤ 100
  · have hs' : ¬ (100 < (s.length : Int)) := by omega
    have hs2 : ¬ (100 < s.length) := by omega
    rw [call_193]
    simp -implicitDefEqProofs only [↓reduceIte, go_sem, Nat.reduceAdd, Nat.reduceSub, Nat.reduceMul, Nat.reduceBEq, Nat.reduceLeDiff, Nat.reduceLT, Nat.reduceEqDiff, reduceCtorEq, Int.reduceBEq, Int.reduceBNe, Int.reduceLT, Int.reduceLE, Int.reduceAdd, Int.reduceSub, Int.reduceMul, Int.reduceNeg, Int.reduceEq, Int.reduceToNat, Tryz.f193, r_within, r_plain s hs, hs']
    repeat' (first | (refine split_cond (fun hc => ?_) (fun hc => ?_) <;> simp -implicitDefEqProofs only [hc, ↓reduceIte, go_sem, Nat.reduceAdd, Nat.reduceSub, Nat.reduceMul, Nat.reduceBEq, Nat.reduceLeDiff, Nat.reduceLT, Nat.reduceEqDiff, reduceCtorEq, Int.reduceBEq, Int.reduceBNe, Int.reduceLT, Int.reduceLE, Int.reduceAdd, Int.reduceSub, Int.reduceMul, Int.reduceNeg, Int.reduceEq, Int.reduceToNat, r_within, r_plain s hs, hs']) | (refine split_yes (fun hc => ?_) (fun hc => ?_) <;> simp -implicitDefEqProofs only [hc, ↓reduceIte, go_sem, Nat.reduceAdd, Nat.reduceSub, Nat.reduceMul, Nat.reduceBEq, Nat.reduceLeDiff, Nat.reduceLT, Nat.reduceEqDiff, reduceCtorEq, Int.reduceBEq, Int.reduceBNe, Int.reduceLT, Int.reduceLE, Int.reduceAdd, Int.reduceSub, Int.reduceMul, Int.reduceNeg, Int.reduceEq, Int.reduceToNat, r_within, r_plain s hs, hs']) | (refine split_no (fun hc => ?_) (fun hc => ?_) <;> simp -implicitDefEqProofs only [hc, ↓reduceIte, go_sem, Nat.reduceAdd, Nat.reduceSub, Nat.reduceMul, Nat.reduceBEq, Nat.reduceLeDiff, Nat.reduceLT, Nat.reduceEqDiff, reduceCtorEq, Int.reduceBEq, Int.reduceBNe, Int.reduceLT, Int.reduceLE, Int.reduceAdd, Int.reduceSub, Int.reduceMul, Int.reduceNeg, Int.reduceEq, Int.reduceToNat, r_within, r_plain s hs, hs']))
    all_goals simp_all [faultS]
  · have hs' : (100 < (s.length : Int)) := by omega
    have hs2 : (100 < s.length) := by omega
    rw [call_193]
    simp -implicitDefEqProofs only [↓reduceIte, go_sem, Nat.reduceAdd, Nat.reduceSub, Nat.reduceMul, Nat.reduceBEq, Nat.reduceLeDiff, Nat.reduceLT, Nat.reduceEqDiff, reduceCtorEq, Int.reduceBEq, Int.reduceBNe, Int.reduceLT, Int.reduceLE, Int.reduceAdd, Int.reduceSub, Int.reduceMul, Int.reduceNeg, Int.reduceEq, Int.reduceToNat, Tryz.f193, r_within, hs']
    repeat' (first | (refine split_cond (fun hc => ?_) (fun hc => ?_) <;> simp -implicitDefEqProofs only [hc, ↓reduceIte, go_sem, Nat.reduceAdd, Nat.reduceSub, Nat.reduceMul, Nat.reduceBEq, Nat.reduceLeDiff, Nat.reduceLT, Nat.reduceEqDiff, reduceCtorEq, Int.reduceBEq, Int.reduceBNe, Int.reduceLT, Int.reduceLE, Int.reduceAdd, Int.reduceSub, Int.reduceMul, Int.reduceNeg, Int.reduceEq, Int.reduceToNat, r_within, hs']) | (refine split_yes (fun hc => ?_) (fun hc => ?_) <;> simp -implicitDefEqProofs only [hc, ↓reduceIte, go_sem, Nat.reduceAdd, Nat.reduceSub, Nat.reduceMul, Nat.reduceBEq, Nat.reduceLeDiff, Nat.reduceLT, Nat.reduceEqDiff, reduceCtorEq, Int.reduceBEq, Int.reduceBNe, Int.reduceLT, Int.reduceLE, Int.reduceAdd, Int.reduceSub, Int.reduceMul, Int.reduceNeg, Int.reduceEq, Int.reduceToNat, r_within, hs']) | (refine split_no (fun hc => ?_) (fun hc => ?_) <;> simp -implicitDefEqProofs only [hc, ↓reduceIte, go_sem, Nat.reduceAdd, Nat.reduceSub, Nat.reduceMul, Nat.reduceBEq, Nat.reduceLeDiff, Nat.reduceLT, Nat.reduceEqDiff, reduceCtorEq, Int.reduceBEq, Int.reduceBNe, Int.reduceLT, Int.reduceLE, Int.reduceAdd, Int.reduceSub, Int.reduceMul, Int.reduceNeg, Int.reduceEq, Int.reduceToNat, r_within, hs']))
    all_goals simp_all [faultS]
end Go.Ab
namespace Go.Ab
open Go Go.Proofs
set_option maxRecDepth 100000

theorem fault_right (v : Val) : (faultS v = 0) ↔ rightS v = true := by
  obtain ⟨k, n, s⟩ := v
  by_cases h0 : k = 0
  · subst h0
    by_cases h1 : n = 0 <;> by_cases h2 : s = [] <;> simp [faultS, rightS, formS, rangeS, within, ok7, h1, h2]
  · by_cases h3 : k = 3
    · subst h3
      by_cases h1 : n = 0 <;> by_cases h2 : s.length ≤ 100 <;> simp [faultS, rightS, formS, rangeS, within, h1, h2, Nat.not_lt.2, Nat.not_le.1] <;> (try omega) <;> (cases ok7 s <;> simp <;> omega)
    · by_cases h4 : within k 0 4 = true
      · have h5 : within k 1 4 = true := by simp [within] at h4 ⊢; omega
        by_cases h2 : s = []
        · subst h2
          by_cases k1 : k = 1
          · subst k1; simp [faultS, rightS, formS, rangeS, h4, h5, ok7]
          · by_cases k2 : k = 2
            · subst k2; simp [faultS, rightS, formS, rangeS, h4, h5, ok7]
            · by_cases k4 : k = 4
              · subst k4; simp [faultS, rightS, formS, rangeS, h4, h5, ok7]
              · simp [within] at h4; omega
        · simp [faultS, rightS, formS, h0, h3, h2]
      · have h5 : within k 1 4 = false := by simp [within] at h4 ⊢; omega
        simp [faultS, rightS, formS, h0, h3, h4, h5]
theorem r_AnyFault (k n : Int) (s : List UInt8) : R K (.call 129 [V k n s] []) = some (.int .i64 (faultS ⟨k, n, s⟩), []) := by
  rw [call_129]
  simp -implicitDefEqProofs only [↓reduceIte, go_sem, Nat.reduceAdd, Nat.reduceSub, Nat.reduceMul, Nat.reduceBEq, Nat.reduceLeDiff, Nat.reduceLT, Nat.reduceEqDiff, reduceCtorEq, Int.reduceBEq, Int.reduceBNe, Int.reduceLT, Int.reduceLE, Int.reduceAdd, Int.reduceSub, Int.reduceMul, Int.reduceNeg, Int.reduceEq, Int.reduceToNat, Tryz.f129, r_fault]
  repeat' (first | (refine split_cond (fun hc => ?_) (fun hc => ?_) <;> simp -implicitDefEqProofs only [hc, ↓reduceIte, go_sem, Nat.reduceAdd, Nat.reduceSub, Nat.reduceMul, Nat.reduceBEq, Nat.reduceLeDiff, Nat.reduceLT, Nat.reduceEqDiff, reduceCtorEq, Int.reduceBEq, Int.reduceBNe, Int.reduceLT, Int.reduceLE, Int.reduceAdd, Int.reduceSub, Int.reduceMul, Int.reduceNeg, Int.reduceEq, Int.reduceToNat, r_fault]) | (refine split_yes (fun hc => ?_) (fun hc => ?_) <;> simp -implicitDefEqProofs only [hc, ↓reduceIte, go_sem, Nat.reduceAdd, Nat.reduceSub, Nat.reduceMul, Nat.reduceBEq, Nat.reduceLeDiff, Nat.reduceLT, Nat.reduceEqDiff, reduceCtorEq, Int.reduceBEq, Int.reduceBNe, Int.reduceLT, Int.reduceLE, Int.reduceAdd, Int.reduceSub, Int.reduceMul, Int.reduceNeg, Int.reduceEq, Int.reduceToNat, r_fault]) | (refine split_no (fun hc => ?_) (fun hc => ?_) <;> simp -implicitDefEqProofs only [hc, ↓reduceIte, go_sem, Nat.reduceAdd, Nat.reduceSub, Nat.reduceMul, Nat.reduceBEq, Nat.reduceLeDiff, Nat.reduceLT, Nat.reduceEqDiff, reduceCtorEq, Int.reduceBEq, Int.reduceBNe, Int.reduceLT, Int.reduceLE, Int.reduceAdd, Int.reduceSub, Int.reduceMul, Int.reduceNeg, Int.reduceEq, Int.reduceToNat, r_fault]))
theorem r_right (k n : Int) (s : List UInt8) : R K (.call 62 [V k n s] []) = some (enc (plainV ⟨k, n, s⟩), []) := by
  have h := fault_right ⟨k, n, s⟩
  rw [call_62]
  simp -implicitDefEqProofs only [↓reduceIte, go_sem, Nat.reduceAdd, Nat.reduceSub, Nat.reduceMul, Nat.reduceBEq, Nat.reduceLeDiff, Nat.reduceLT, Nat.reduceEqDiff, reduceCtorEq, Int.reduceBEq, Int.reduceBNe, Int.reduceLT, Int.reduceLE, Int.reduceAdd, Int.reduceSub, Int.reduceMul, Int.reduceNeg, Int.reduceEq, Int.reduceToNat, Tryz.f62, r_AnyFault]
  repeat' (first | (refine split_cond (fun hc => ?_) (fun hc => ?_) <;> simp -implicitDefEqProofs only [hc, ↓reduceIte, go_sem, Nat.reduceAdd, Nat.reduceSub, Nat.reduceMul, Nat.reduceBEq, Nat.reduceLeDiff, Nat.reduceLT, Nat.reduceEqDiff, reduceCtorEq, Int.reduceBEq, Int.reduceBNe, Int.reduceLT, Int.reduceLE, Int.reduceAdd, Int.reduceSub, Int.reduceMul, Int.reduceNeg, Int.reduceEq, Int.reduceToNat, r_AnyFault]) | (refine split_yes (fun hc => ?_) (fun hc => ?_) <;> simp -implicitDefEqProofs only [hc, ↓reduceIte, go_sem, Nat.reduceAdd, Nat.reduceSub, Nat.reduceMul, Nat.reduceBEq, Nat.reduceLeDiff, Nat.reduceLT, Nat.reduceEqDiff, reduceCtorEq, Int.reduceBEq, Int.reduceBNe, Int.reduceLT, Int.reduceLE, Int.reduceAdd, Int.reduceSub, Int.reduceMul, Int.reduceNeg, Int.reduceEq, Int.reduceToNat, r_AnyFault]) | (refine split_no (fun hc => ?_) (fun hc => ?_) <;> simp -implicitDefEqProofs only [hc, ↓reduceIte, go_sem, Nat.reduceAdd, Nat.reduceSub, Nat.reduceMul, Nat.reduceBEq, Nat.reduceLeDiff, Nat.reduceLT, Nat.reduceEqDiff, reduceCtorEq, Int.reduceBEq, Int.reduceBNe, Int.reduceLT, Int.reduceLE, Int.reduceAdd, Int.reduceSub, Int.reduceMul, Int.reduceNeg, Int.reduceEq, Int.reduceToNat, r_AnyFault]))
  all_goals simp_all [plainV, null]
end Go.Ab
namespace Go.Ab
open Go Go.Proofs
set_option maxRecDepth 100000

theorem within_iff (n a b : Int) : within n a b = true ↔ a ≤ n ∧ n ≤ b := by simp [within]
theorem right_bounds (v : Val) : let p := plainV v; (0 ≤ p.k ∧ p.k ≤ 4) ∧ (-999999999999999 ≤ p.n ∧ p.n ≤ 999999999999999) ∧ p.s.length ≤ 100 ∧ (p.k ≠ 3 → p.s = []) ∧ (p.k = 1 → p.n = 0 ∨ p.n = 1) ∧ (p.k = 0 → p.n = 0) ∧ (p.k = 3 → p.n = 0) ∧ ok7 p.s = true ∧ (p.k = 4 → 0 ≤ p.n ∧ p.n ≤ 253402300799) := by
  intro p
  by_cases hr : rightS v = true
  · have hp : p = v := by simp [p, plainV, hr]
    rw [hp]
    have hf := (fault_right v).2 hr
    unfold faultS at hf
    simp only [rightS, Bool.and_eq_true, decide_eq_true_eq] at hr
    obtain ⟨h1, h2, h3⟩ := hr
    unfold rangeS at h3
    unfold formS at h1
    by_cases k0 : v.k = 0
    · simp [k0] at h1 h3
      refine ⟨by omega, by omega, by simp [h1.2], by simp [h1.2], by omega, by omega, by omega, by simpa using h3, by omega⟩
    · by_cases k3 : v.k = 3
      · simp [k3] at h1 h3
        exact ⟨by omega, by omega, h2, by simp [k3], by omega, by omega, by omega, h3, by omega⟩
      · simp [k0, k3] at h1
        obtain ⟨h4, h5⟩ := h1
        rw [within_iff] at h4
        have hk : v.k = 1 ∨ v.k = 2 ∨ v.k = 4 := by omega
        rw [h5] at h3 ⊢
        rcases hk with hk | hk | hk <;> simp [hk, within_iff] at h3 <;> (refine ⟨by omega, by omega, by simp, by simp, by omega, by omega, by omega, rfl, by omega⟩)
  · have hp : p = null := by simp [p, plainV, hr]
    rw [hp]
    simp [null, ok7]
theorem r_sign (n : Int) : R K (.call 132 [.int .i64 n] []) = some (.int .i64 (if n < 0 then -1 else if 0 < n then 1 else 0), []) := by
  rw [call_132]
  simp -implicitDefEqProofs only [↓reduceIte, go_sem, Nat.reduceAdd, Nat.reduceSub, Nat.reduceMul, Nat.reduceBEq, Nat.reduceLeDiff, Nat.reduceLT, Nat.reduceEqDiff, reduceCtorEq, Int.reduceBEq, Int.reduceBNe, Int.reduceLT, Int.reduceLE, Int.reduceAdd, Int.reduceSub, Int.reduceMul, Int.reduceNeg, Int.reduceEq, Int.reduceToNat, Tryz.f132]
  repeat' (first | (refine split_cond (fun hc => ?_) (fun hc => ?_) <;> simp -implicitDefEqProofs only [hc, ↓reduceIte, go_sem, Nat.reduceAdd, Nat.reduceSub, Nat.reduceMul, Nat.reduceBEq, Nat.reduceLeDiff, Nat.reduceLT, Nat.reduceEqDiff, reduceCtorEq, Int.reduceBEq, Int.reduceBNe, Int.reduceLT, Int.reduceLE, Int.reduceAdd, Int.reduceSub, Int.reduceMul, Int.reduceNeg, Int.reduceEq, Int.reduceToNat]) | (refine split_yes (fun hc => ?_) (fun hc => ?_) <;> simp -implicitDefEqProofs only [hc, ↓reduceIte, go_sem, Nat.reduceAdd, Nat.reduceSub, Nat.reduceMul, Nat.reduceBEq, Nat.reduceLeDiff, Nat.reduceLT, Nat.reduceEqDiff, reduceCtorEq, Int.reduceBEq, Int.reduceBNe, Int.reduceLT, Int.reduceLE, Int.reduceAdd, Int.reduceSub, Int.reduceMul, Int.reduceNeg, Int.reduceEq, Int.reduceToNat]) | (refine split_no (fun hc => ?_) (fun hc => ?_) <;> simp -implicitDefEqProofs only [hc, ↓reduceIte, go_sem, Nat.reduceAdd, Nat.reduceSub, Nat.reduceMul, Nat.reduceBEq, Nat.reduceLeDiff, Nat.reduceLT, Nat.reduceEqDiff, reduceCtorEq, Int.reduceBEq, Int.reduceBNe, Int.reduceLT, Int.reduceLE, Int.reduceAdd, Int.reduceSub, Int.reduceMul, Int.reduceNeg, Int.reduceEq, Int.reduceToNat]))
  simp only [Prod.mk.injEq, AV.int.injEq, true_and, and_true]
  split <;> split <;> (try split) <;> (try split) <;> omega
def comparedS (a b : Val) : Int := if cmpI (plainV a).k (plainV b).k ≠ 0 then cmpI (plainV a).k (plainV b).k else if (plainV a).k = 3 then Lib.compareBytes (plainV a).s (plainV b).s else cmpI (plainV a).n (plainV b).n
theorem sign_sub (a b : Int) (h1 : -999999999999999 ≤ a ∧ a ≤ 999999999999999) (h2 : -999999999999999 ≤ b ∧ b ≤ 999999999999999) : (if wrapI .i64 (a - b) < 0 then -1 else if 0 < wrapI .i64 (a - b) then 1 else 0) = cmpI a b := by
  rw [wrap_id (by omega) (by omega)]
  unfold cmpI
  split <;> split <;> (try split) <;> (try split) <;> omega
theorem r_Compare (a b : List UInt8) : R K (.call 133 [.str a, .str b] []) = some (.int .i64 (Lib.compareBytes a b), []) := R_prim rfl
theorem r_Compared (k n : Int) (s : List UInt8) (k' n' : Int) (s' : List UInt8) : R K (.call 79 [V k n s, V k' n' s'] []) = some (.int .i64 (comparedS ⟨k, n, s⟩ ⟨k', n', s'⟩), []) := by
  obtain ⟨b1, b2, _⟩ := right_bounds ⟨k, n, s⟩
  obtain ⟨b1', b2', _⟩ := right_bounds ⟨k', n', s'⟩
  have e1 := sign_sub _ _ (show -999999999999999 ≤ (plainV ⟨k, n, s⟩).k ∧ (plainV ⟨k, n, s⟩).k ≤ 999999999999999 by omega) (show -999999999999999 ≤ (plainV ⟨k', n', s'⟩).k ∧ (plainV ⟨k', n', s'⟩).k ≤ 999999999999999 by omega)
  have e2 := sign_sub _ _ b2 b2'
  rw [call_79]
  simp -implicitDefEqProofs only [↓reduceIte, go_sem, Nat.reduceAdd, Nat.reduceSub, Nat.reduceMul, Nat.reduceBEq, Nat.reduceLeDiff, Nat.reduceLT, Nat.reduceEqDiff, reduceCtorEq, Int.reduceBEq, Int.reduceBNe, Int.reduceLT, Int.reduceLE, Int.reduceAdd, Int.reduceSub, Int.reduceMul, Int.reduceNeg, Int.reduceEq, Int.reduceToNat, Tryz.f79, r_right, r_sign, e1, e2, r_Compare]
  repeat' (first | (refine split_cond (fun hc => ?_) (fun hc => ?_) <;> simp -implicitDefEqProofs only [hc, ↓reduceIte, go_sem, Nat.reduceAdd, Nat.reduceSub, Nat.reduceMul, Nat.reduceBEq, Nat.reduceLeDiff, Nat.reduceLT, Nat.reduceEqDiff, reduceCtorEq, Int.reduceBEq, Int.reduceBNe, Int.reduceLT, Int.reduceLE, Int.reduceAdd, Int.reduceSub, Int.reduceMul, Int.reduceNeg, Int.reduceEq, Int.reduceToNat, r_right, r_sign, e1, e2, r_Compare]) | (refine split_yes (fun hc => ?_) (fun hc => ?_) <;> simp -implicitDefEqProofs only [hc, ↓reduceIte, go_sem, Nat.reduceAdd, Nat.reduceSub, Nat.reduceMul, Nat.reduceBEq, Nat.reduceLeDiff, Nat.reduceLT, Nat.reduceEqDiff, reduceCtorEq, Int.reduceBEq, Int.reduceBNe, Int.reduceLT, Int.reduceLE, Int.reduceAdd, Int.reduceSub, Int.reduceMul, Int.reduceNeg, Int.reduceEq, Int.reduceToNat, r_right, r_sign, e1, e2, r_Compare]) | (refine split_no (fun hc => ?_) (fun hc => ?_) <;> simp -implicitDefEqProofs only [hc, ↓reduceIte, go_sem, Nat.reduceAdd, Nat.reduceSub, Nat.reduceMul, Nat.reduceBEq, Nat.reduceLeDiff, Nat.reduceLT, Nat.reduceEqDiff, reduceCtorEq, Int.reduceBEq, Int.reduceBNe, Int.reduceLT, Int.reduceLE, Int.reduceAdd, Int.reduceSub, Int.reduceMul, Int.reduceNeg, Int.reduceEq, Int.reduceToNat, r_right, r_sign, e1, e2, r_Compare]))
  all_goals simp_all [comparedS]
end Go.Ab
namespace Go.Ab
open Go Go.Proofs
set_option maxRecDepth 100000

def alikeB (a b : Val) : Bool := a.k == b.k && a.k != 0
theorem r_alike (k n : Int) (s : List UInt8) (k' n' : Int) (s' : List UInt8) : R K (.call 84 [V k n s, V k' n' s'] []) = some (.bool (alikeB ⟨k, n, s⟩ ⟨k', n', s'⟩), []) := by
  rw [call_84]
  simp -implicitDefEqProofs only [↓reduceIte, go_sem, Nat.reduceAdd, Nat.reduceSub, Nat.reduceMul, Nat.reduceBEq, Nat.reduceLeDiff, Nat.reduceLT, Nat.reduceEqDiff, reduceCtorEq, Int.reduceBEq, Int.reduceBNe, Int.reduceLT, Int.reduceLE, Int.reduceAdd, Int.reduceSub, Int.reduceMul, Int.reduceNeg, Int.reduceEq, Int.reduceToNat, Tryz.f84]
  repeat' (first | (refine split_cond (fun hc => ?_) (fun hc => ?_) <;> simp -implicitDefEqProofs only [hc, ↓reduceIte, go_sem, Nat.reduceAdd, Nat.reduceSub, Nat.reduceMul, Nat.reduceBEq, Nat.reduceLeDiff, Nat.reduceLT, Nat.reduceEqDiff, reduceCtorEq, Int.reduceBEq, Int.reduceBNe, Int.reduceLT, Int.reduceLE, Int.reduceAdd, Int.reduceSub, Int.reduceMul, Int.reduceNeg, Int.reduceEq, Int.reduceToNat]) | (refine split_yes (fun hc => ?_) (fun hc => ?_) <;> simp -implicitDefEqProofs only [hc, ↓reduceIte, go_sem, Nat.reduceAdd, Nat.reduceSub, Nat.reduceMul, Nat.reduceBEq, Nat.reduceLeDiff, Nat.reduceLT, Nat.reduceEqDiff, reduceCtorEq, Int.reduceBEq, Int.reduceBNe, Int.reduceLT, Int.reduceLE, Int.reduceAdd, Int.reduceSub, Int.reduceMul, Int.reduceNeg, Int.reduceEq, Int.reduceToNat]) | (refine split_no (fun hc => ?_) (fun hc => ?_) <;> simp -implicitDefEqProofs only [hc, ↓reduceIte, go_sem, Nat.reduceAdd, Nat.reduceSub, Nat.reduceMul, Nat.reduceBEq, Nat.reduceLeDiff, Nat.reduceLT, Nat.reduceEqDiff, reduceCtorEq, Int.reduceBEq, Int.reduceBNe, Int.reduceLT, Int.reduceLE, Int.reduceAdd, Int.reduceSub, Int.reduceMul, Int.reduceNeg, Int.reduceEq, Int.reduceToNat]))
  all_goals simp_all [alikeB]
def tri (v : Val) : Int := if v = boolV true then 2 else if v = boolV false then 0 else 1
theorem tri_of (v : Val) : (if (plainV v).k = 1 then wrapI .i64 (2 * (plainV v).n) else 1) = tri v := by
  obtain ⟨_, _, _, b4, b5, _⟩ := right_bounds v
  by_cases hk : (plainV v).k = 1
  · rw [if_pos hk]
    have hv : plainV v = v := by
      unfold plainV at hk ⊢
      split
      · rfl
      · rename_i h; simp [h, null] at hk
    rw [hv] at hk b4 b5 ⊢
    have hs := b4 (by omega)
    obtain ⟨k, n, s⟩ := v
    simp only at hk hs b5 ⊢
    subst hk hs
    rcases b5 rfl with h | h <;> subst h <;> rfl
  · rw [if_neg hk]
    unfold tri
    have ht : v ≠ boolV true := by rintro rfl; exact hk rfl
    have hf : v ≠ boolV false := by rintro rfl; exact hk rfl
    rw [if_neg ht, if_neg hf]
theorem r_third (k n : Int) (s : List UInt8) : R K (.call 78 [V k n s] []) = some (.int .i64 (tri ⟨k, n, s⟩), []) := by
  have h := tri_of ⟨k, n, s⟩
  rw [call_78]
  simp -implicitDefEqProofs only [↓reduceIte, go_sem, Nat.reduceAdd, Nat.reduceSub, Nat.reduceMul, Nat.reduceBEq, Nat.reduceLeDiff, Nat.reduceLT, Nat.reduceEqDiff, reduceCtorEq, Int.reduceBEq, Int.reduceBNe, Int.reduceLT, Int.reduceLE, Int.reduceAdd, Int.reduceSub, Int.reduceMul, Int.reduceNeg, Int.reduceEq, Int.reduceToNat, Tryz.f78, r_right]
  repeat' (first | (refine split_cond (fun hc => ?_) (fun hc => ?_) <;> simp -implicitDefEqProofs only [hc, ↓reduceIte, go_sem, Nat.reduceAdd, Nat.reduceSub, Nat.reduceMul, Nat.reduceBEq, Nat.reduceLeDiff, Nat.reduceLT, Nat.reduceEqDiff, reduceCtorEq, Int.reduceBEq, Int.reduceBNe, Int.reduceLT, Int.reduceLE, Int.reduceAdd, Int.reduceSub, Int.reduceMul, Int.reduceNeg, Int.reduceEq, Int.reduceToNat, r_right]) | (refine split_yes (fun hc => ?_) (fun hc => ?_) <;> simp -implicitDefEqProofs only [hc, ↓reduceIte, go_sem, Nat.reduceAdd, Nat.reduceSub, Nat.reduceMul, Nat.reduceBEq, Nat.reduceLeDiff, Nat.reduceLT, Nat.reduceEqDiff, reduceCtorEq, Int.reduceBEq, Int.reduceBNe, Int.reduceLT, Int.reduceLE, Int.reduceAdd, Int.reduceSub, Int.reduceMul, Int.reduceNeg, Int.reduceEq, Int.reduceToNat, r_right]) | (refine split_no (fun hc => ?_) (fun hc => ?_) <;> simp -implicitDefEqProofs only [hc, ↓reduceIte, go_sem, Nat.reduceAdd, Nat.reduceSub, Nat.reduceMul, Nat.reduceBEq, Nat.reduceLeDiff, Nat.reduceLT, Nat.reduceEqDiff, reduceCtorEq, Int.reduceBEq, Int.reduceBNe, Int.reduceLT, Int.reduceLE, Int.reduceAdd, Int.reduceSub, Int.reduceMul, Int.reduceNeg, Int.reduceEq, Int.reduceToNat, r_right]))
  all_goals simp_all
def fromTri (n : Int) : Val := if n = 1 then null else boolV (n == 2)
theorem r_fromThird (n : Int) : R K (.call 77 [.int .i64 n] []) = some (enc (fromTri n), []) := by
  rw [call_77]
  simp -implicitDefEqProofs only [↓reduceIte, go_sem, Nat.reduceAdd, Nat.reduceSub, Nat.reduceMul, Nat.reduceBEq, Nat.reduceLeDiff, Nat.reduceLT, Nat.reduceEqDiff, reduceCtorEq, Int.reduceBEq, Int.reduceBNe, Int.reduceLT, Int.reduceLE, Int.reduceAdd, Int.reduceSub, Int.reduceMul, Int.reduceNeg, Int.reduceEq, Int.reduceToNat, Tryz.f77, r_Truth]
  repeat' (first | (refine split_cond (fun hc => ?_) (fun hc => ?_) <;> simp -implicitDefEqProofs only [hc, ↓reduceIte, go_sem, Nat.reduceAdd, Nat.reduceSub, Nat.reduceMul, Nat.reduceBEq, Nat.reduceLeDiff, Nat.reduceLT, Nat.reduceEqDiff, reduceCtorEq, Int.reduceBEq, Int.reduceBNe, Int.reduceLT, Int.reduceLE, Int.reduceAdd, Int.reduceSub, Int.reduceMul, Int.reduceNeg, Int.reduceEq, Int.reduceToNat, r_Truth]) | (refine split_yes (fun hc => ?_) (fun hc => ?_) <;> simp -implicitDefEqProofs only [hc, ↓reduceIte, go_sem, Nat.reduceAdd, Nat.reduceSub, Nat.reduceMul, Nat.reduceBEq, Nat.reduceLeDiff, Nat.reduceLT, Nat.reduceEqDiff, reduceCtorEq, Int.reduceBEq, Int.reduceBNe, Int.reduceLT, Int.reduceLE, Int.reduceAdd, Int.reduceSub, Int.reduceMul, Int.reduceNeg, Int.reduceEq, Int.reduceToNat, r_Truth]) | (refine split_no (fun hc => ?_) (fun hc => ?_) <;> simp -implicitDefEqProofs only [hc, ↓reduceIte, go_sem, Nat.reduceAdd, Nat.reduceSub, Nat.reduceMul, Nat.reduceBEq, Nat.reduceLeDiff, Nat.reduceLT, Nat.reduceEqDiff, reduceCtorEq, Int.reduceBEq, Int.reduceBNe, Int.reduceLT, Int.reduceLE, Int.reduceAdd, Int.reduceSub, Int.reduceMul, Int.reduceNeg, Int.reduceEq, Int.reduceToNat, r_Truth]))
  all_goals simp_all [fromTri, null]
theorem plain_plain (v : Val) : plainV (plainV v) = plainV v := by
  unfold plainV
  by_cases h : rightS v = true
  · simp [h]
  · simp [h]
theorem tri_bounds (v : Val) : 0 ≤ tri v ∧ tri v ≤ 2 := by unfold tri; split <;> (try split) <;> omega
theorem r_Oper1 (n : Int) (k1 n1 : Int) (s1 : List UInt8) (k2 n2 : Int) (s2 : List UInt8) : R K (.call 21 [.int .i64 1, .int .i64 n, .rows [[.int .i64 k1, .int .i64 n1, .str s1], [.int .i64 k2, .int .i64 n2, .str s2]]] []) = some (enc (fromTri (2 - tri (plainV ⟨k1, n1, s1⟩))), []) := by
  have hb := tri_bounds (plainV ⟨k1, n1, s1⟩)
  have hw : wrapI .i64 (2 - tri (plainV ⟨k1, n1, s1⟩)) = 2 - tri (plainV ⟨k1, n1, s1⟩) := wrap_id (by omega) (by omega)
  rw [call_21]
  simp -implicitDefEqProofs only [↓reduceIte, go_sem, Nat.reduceAdd, Nat.reduceSub, Nat.reduceMul, Nat.reduceBEq, Nat.reduceLeDiff, Nat.reduceLT, Nat.reduceEqDiff, reduceCtorEq, Int.reduceBEq, Int.reduceBNe, Int.reduceLT, Int.reduceLE, Int.reduceAdd, Int.reduceSub, Int.reduceMul, Int.reduceNeg, Int.reduceEq, Int.reduceToNat, Tryz.f21]
  repeat' (first | (refine split_cond (fun hc => ?_) (fun hc => ?_) <;> simp -implicitDefEqProofs only [hc, ↓reduceIte, go_sem, Nat.reduceAdd, Nat.reduceSub, Nat.reduceMul, Nat.reduceBEq, Nat.reduceLeDiff, Nat.reduceLT, Nat.reduceEqDiff, reduceCtorEq, Int.reduceBEq, Int.reduceBNe, Int.reduceLT, Int.reduceLE, Int.reduceAdd, Int.reduceSub, Int.reduceMul, Int.reduceNeg, Int.reduceEq, Int.reduceToNat]) | (refine split_yes (fun hc => ?_) (fun hc => ?_) <;> simp -implicitDefEqProofs only [hc, ↓reduceIte, go_sem, Nat.reduceAdd, Nat.reduceSub, Nat.reduceMul, Nat.reduceBEq, Nat.reduceLeDiff, Nat.reduceLT, Nat.reduceEqDiff, reduceCtorEq, Int.reduceBEq, Int.reduceBNe, Int.reduceLT, Int.reduceLE, Int.reduceAdd, Int.reduceSub, Int.reduceMul, Int.reduceNeg, Int.reduceEq, Int.reduceToNat]) | (refine split_no (fun hc => ?_) (fun hc => ?_) <;> simp -implicitDefEqProofs only [hc, ↓reduceIte, go_sem, Nat.reduceAdd, Nat.reduceSub, Nat.reduceMul, Nat.reduceBEq, Nat.reduceLeDiff, Nat.reduceLT, Nat.reduceEqDiff, reduceCtorEq, Int.reduceBEq, Int.reduceBNe, Int.reduceLT, Int.reduceLE, Int.reduceAdd, Int.reduceSub, Int.reduceMul, Int.reduceNeg, Int.reduceEq, Int.reduceToNat]))
  rw [RL_eq]
  simp -implicitDefEqProofs only [↓reduceIte, go_sem, Nat.reduceAdd, Nat.reduceSub, Nat.reduceMul, Nat.reduceBEq, Nat.reduceLeDiff, Nat.reduceLT, Nat.reduceEqDiff, reduceCtorEq, Int.reduceBEq, Int.reduceBNe, Int.reduceLT, Int.reduceLE, Int.reduceAdd, Int.reduceSub, Int.reduceMul, Int.reduceNeg, Int.reduceEq, Int.reduceToNat, r_right, at?]
  repeat' (first | (refine split_cond (fun hc => ?_) (fun hc => ?_) <;> simp -implicitDefEqProofs only [hc, ↓reduceIte, go_sem, Nat.reduceAdd, Nat.reduceSub, Nat.reduceMul, Nat.reduceBEq, Nat.reduceLeDiff, Nat.reduceLT, Nat.reduceEqDiff, reduceCtorEq, Int.reduceBEq, Int.reduceBNe, Int.reduceLT, Int.reduceLE, Int.reduceAdd, Int.reduceSub, Int.reduceMul, Int.reduceNeg, Int.reduceEq, Int.reduceToNat, r_right, at?]) | (refine split_yes (fun hc => ?_) (fun hc => ?_) <;> simp -implicitDefEqProofs only [hc, ↓reduceIte, go_sem, Nat.reduceAdd, Nat.reduceSub, Nat.reduceMul, Nat.reduceBEq, Nat.reduceLeDiff, Nat.reduceLT, Nat.reduceEqDiff, reduceCtorEq, Int.reduceBEq, Int.reduceBNe, Int.reduceLT, Int.reduceLE, Int.reduceAdd, Int.reduceSub, Int.reduceMul, Int.reduceNeg, Int.reduceEq, Int.reduceToNat, r_right, at?]) | (refine split_no (fun hc => ?_) (fun hc => ?_) <;> simp -implicitDefEqProofs only [hc, ↓reduceIte, go_sem, Nat.reduceAdd, Nat.reduceSub, Nat.reduceMul, Nat.reduceBEq, Nat.reduceLeDiff, Nat.reduceLT, Nat.reduceEqDiff, reduceCtorEq, Int.reduceBEq, Int.reduceBNe, Int.reduceLT, Int.reduceLE, Int.reduceAdd, Int.reduceSub, Int.reduceMul, Int.reduceNeg, Int.reduceEq, Int.reduceToNat, r_right, at?]))
  rw [RL_eq]
  simp -implicitDefEqProofs only [↓reduceIte, go_sem, Nat.reduceAdd, Nat.reduceSub, Nat.reduceMul, Nat.reduceBEq, Nat.reduceLeDiff, Nat.reduceLT, Nat.reduceEqDiff, reduceCtorEq, Int.reduceBEq, Int.reduceBNe, Int.reduceLT, Int.reduceLE, Int.reduceAdd, Int.reduceSub, Int.reduceMul, Int.reduceNeg, Int.reduceEq, Int.reduceToNat, r_right, at?]
  repeat' (first | (refine split_cond (fun hc => ?_) (fun hc => ?_) <;> simp -implicitDefEqProofs only [hc, ↓reduceIte, go_sem, Nat.reduceAdd, Nat.reduceSub, Nat.reduceMul, Nat.reduceBEq, Nat.reduceLeDiff, Nat.reduceLT, Nat.reduceEqDiff, reduceCtorEq, Int.reduceBEq, Int.reduceBNe, Int.reduceLT, Int.reduceLE, Int.reduceAdd, Int.reduceSub, Int.reduceMul, Int.reduceNeg, Int.reduceEq, Int.reduceToNat, r_right, at?]) | (refine split_yes (fun hc => ?_) (fun hc => ?_) <;> simp -implicitDefEqProofs only [hc, ↓reduceIte, go_sem, Nat.reduceAdd, Nat.reduceSub, Nat.reduceMul, Nat.reduceBEq, Nat.reduceLeDiff, Nat.reduceLT, Nat.reduceEqDiff, reduceCtorEq, Int.reduceBEq, Int.reduceBNe, Int.reduceLT, Int.reduceLE, Int.reduceAdd, Int.reduceSub, Int.reduceMul, Int.reduceNeg, Int.reduceEq, Int.reduceToNat, r_right, at?]) | (refine split_no (fun hc => ?_) (fun hc => ?_) <;> simp -implicitDefEqProofs only [hc, ↓reduceIte, go_sem, Nat.reduceAdd, Nat.reduceSub, Nat.reduceMul, Nat.reduceBEq, Nat.reduceLeDiff, Nat.reduceLT, Nat.reduceEqDiff, reduceCtorEq, Int.reduceBEq, Int.reduceBNe, Int.reduceLT, Int.reduceLE, Int.reduceAdd, Int.reduceSub, Int.reduceMul, Int.reduceNeg, Int.reduceEq, Int.reduceToNat, r_right, at?]))
  rw [RL_eq]
  simp -implicitDefEqProofs only [↓reduceIte, go_sem, Nat.reduceAdd, Nat.reduceSub, Nat.reduceMul, Nat.reduceBEq, Nat.reduceLeDiff, Nat.reduceLT, Nat.reduceEqDiff, reduceCtorEq, Int.reduceBEq, Int.reduceBNe, Int.reduceLT, Int.reduceLE, Int.reduceAdd, Int.reduceSub, Int.reduceMul, Int.reduceNeg, Int.reduceEq, Int.reduceToNat, r_right, at?, r_third, r_fromThird, r_Compared, r_Truth, r_alike]
  repeat' (first | (refine split_cond (fun hc => ?_) (fun hc => ?_) <;> simp -implicitDefEqProofs only [hc, ↓reduceIte, go_sem, Nat.reduceAdd, Nat.reduceSub, Nat.reduceMul, Nat.reduceBEq, Nat.reduceLeDiff, Nat.reduceLT, Nat.reduceEqDiff, reduceCtorEq, Int.reduceBEq, Int.reduceBNe, Int.reduceLT, Int.reduceLE, Int.reduceAdd, Int.reduceSub, Int.reduceMul, Int.reduceNeg, Int.reduceEq, Int.reduceToNat, r_right, at?, r_third, r_fromThird, r_Compared, r_Truth, r_alike]) | (refine split_yes (fun hc => ?_) (fun hc => ?_) <;> simp -implicitDefEqProofs only [hc, ↓reduceIte, go_sem, Nat.reduceAdd, Nat.reduceSub, Nat.reduceMul, Nat.reduceBEq, Nat.reduceLeDiff, Nat.reduceLT, Nat.reduceEqDiff, reduceCtorEq, Int.reduceBEq, Int.reduceBNe, Int.reduceLT, Int.reduceLE, Int.reduceAdd, Int.reduceSub, Int.reduceMul, Int.reduceNeg, Int.reduceEq, Int.reduceToNat, r_right, at?, r_third, r_fromThird, r_Compared, r_Truth, r_alike]) | (refine split_no (fun hc => ?_) (fun hc => ?_) <;> simp -implicitDefEqProofs only [hc, ↓reduceIte, go_sem, Nat.reduceAdd, Nat.reduceSub, Nat.reduceMul, Nat.reduceBEq, Nat.reduceLeDiff, Nat.reduceLT, Nat.reduceEqDiff, reduceCtorEq, Int.reduceBEq, Int.reduceBNe, Int.reduceLT, Int.reduceLE, Int.reduceAdd, Int.reduceSub, Int.reduceMul, Int.reduceNeg, Int.reduceEq, Int.reduceToNat, r_right, at?, r_third, r_fromThird, r_Compared, r_Truth, r_alike]))
  rw [hw]
theorem r_Oper2 (n : Int) (k1 n1 : Int) (s1 : List UInt8) (k2 n2 : Int) (s2 : List UInt8) : R K (.call 21 [.int .i64 2, .int .i64 n, .rows [[.int .i64 k1, .int .i64 n1, .str s1], [.int .i64 k2, .int .i64 n2, .str s2]]] []) = some (enc (fromTri (if tri (plainV ⟨k2, n2, s2⟩) < tri (plainV ⟨k1, n1, s1⟩) then tri (plainV ⟨k2, n2, s2⟩) else tri (plainV ⟨k1, n1, s1⟩))), []) := by
  rw [call_21]
  simp -implicitDefEqProofs only [↓reduceIte, go_sem, Nat.reduceAdd, Nat.reduceSub, Nat.reduceMul, Nat.reduceBEq, Nat.reduceLeDiff, Nat.reduceLT, Nat.reduceEqDiff, reduceCtorEq, Int.reduceBEq, Int.reduceBNe, Int.reduceLT, Int.reduceLE, Int.reduceAdd, Int.reduceSub, Int.reduceMul, Int.reduceNeg, Int.reduceEq, Int.reduceToNat, Tryz.f21]
  repeat' (first | (refine split_cond (fun hc => ?_) (fun hc => ?_) <;> simp -implicitDefEqProofs only [hc, ↓reduceIte, go_sem, Nat.reduceAdd, Nat.reduceSub, Nat.reduceMul, Nat.reduceBEq, Nat.reduceLeDiff, Nat.reduceLT, Nat.reduceEqDiff, reduceCtorEq, Int.reduceBEq, Int.reduceBNe, Int.reduceLT, Int.reduceLE, Int.reduceAdd, Int.reduceSub, Int.reduceMul, Int.reduceNeg, Int.reduceEq, Int.reduceToNat]) | (refine split_yes (fun hc => ?_) (fun hc => ?_) <;> simp -implicitDefEqProofs only [hc, ↓reduceIte, go_sem, Nat.reduceAdd, Nat.reduceSub, Nat.reduceMul, Nat.reduceBEq, Nat.reduceLeDiff, Nat.reduceLT, Nat.reduceEqDiff, reduceCtorEq, Int.reduceBEq, Int.reduceBNe, Int.reduceLT, Int.reduceLE, Int.reduceAdd, Int.reduceSub, Int.reduceMul, Int.reduceNeg, Int.reduceEq, Int.reduceToNat]) | (refine split_no (fun hc => ?_) (fun hc => ?_) <;> simp -implicitDefEqProofs only [hc, ↓reduceIte, go_sem, Nat.reduceAdd, Nat.reduceSub, Nat.reduceMul, Nat.reduceBEq, Nat.reduceLeDiff, Nat.reduceLT, Nat.reduceEqDiff, reduceCtorEq, Int.reduceBEq, Int.reduceBNe, Int.reduceLT, Int.reduceLE, Int.reduceAdd, Int.reduceSub, Int.reduceMul, Int.reduceNeg, Int.reduceEq, Int.reduceToNat]))
  rw [RL_eq]
  simp -implicitDefEqProofs only [↓reduceIte, go_sem, Nat.reduceAdd, Nat.reduceSub, Nat.reduceMul, Nat.reduceBEq, Nat.reduceLeDiff, Nat.reduceLT, Nat.reduceEqDiff, reduceCtorEq, Int.reduceBEq, Int.reduceBNe, Int.reduceLT, Int.reduceLE, Int.reduceAdd, Int.reduceSub, Int.reduceMul, Int.reduceNeg, Int.reduceEq, Int.reduceToNat, r_right, at?]
  repeat' (first | (refine split_cond (fun hc => ?_) (fun hc => ?_) <;> simp -implicitDefEqProofs only [hc, ↓reduceIte, go_sem, Nat.reduceAdd, Nat.reduceSub, Nat.reduceMul, Nat.reduceBEq, Nat.reduceLeDiff, Nat.reduceLT, Nat.reduceEqDiff, reduceCtorEq, Int.reduceBEq, Int.reduceBNe, Int.reduceLT, Int.reduceLE, Int.reduceAdd, Int.reduceSub, Int.reduceMul, Int.reduceNeg, Int.reduceEq, Int.reduceToNat, r_right, at?]) | (refine split_yes (fun hc => ?_) (fun hc => ?_) <;> simp -implicitDefEqProofs only [hc, ↓reduceIte, go_sem, Nat.reduceAdd, Nat.reduceSub, Nat.reduceMul, Nat.reduceBEq, Nat.reduceLeDiff, Nat.reduceLT, Nat.reduceEqDiff, reduceCtorEq, Int.reduceBEq, Int.reduceBNe, Int.reduceLT, Int.reduceLE, Int.reduceAdd, Int.reduceSub, Int.reduceMul, Int.reduceNeg, Int.reduceEq, Int.reduceToNat, r_right, at?]) | (refine split_no (fun hc => ?_) (fun hc => ?_) <;> simp -implicitDefEqProofs only [hc, ↓reduceIte, go_sem, Nat.reduceAdd, Nat.reduceSub, Nat.reduceMul, Nat.reduceBEq, Nat.reduceLeDiff, Nat.reduceLT, Nat.reduceEqDiff, reduceCtorEq, Int.reduceBEq, Int.reduceBNe, Int.reduceLT, Int.reduceLE, Int.reduceAdd, Int.reduceSub, Int.reduceMul, Int.reduceNeg, Int.reduceEq, Int.reduceToNat, r_right, at?]))
  rw [RL_eq]
  simp -implicitDefEqProofs only [↓reduceIte, go_sem, Nat.reduceAdd, Nat.reduceSub, Nat.reduceMul, Nat.reduceBEq, Nat.reduceLeDiff, Nat.reduceLT, Nat.reduceEqDiff, reduceCtorEq, Int.reduceBEq, Int.reduceBNe, Int.reduceLT, Int.reduceLE, Int.reduceAdd, Int.reduceSub, Int.reduceMul, Int.reduceNeg, Int.reduceEq, Int.reduceToNat, r_right, at?]
  repeat' (first | (refine split_cond (fun hc => ?_) (fun hc => ?_) <;> simp -implicitDefEqProofs only [hc, ↓reduceIte, go_sem, Nat.reduceAdd, Nat.reduceSub, Nat.reduceMul, Nat.reduceBEq, Nat.reduceLeDiff, Nat.reduceLT, Nat.reduceEqDiff, reduceCtorEq, Int.reduceBEq, Int.reduceBNe, Int.reduceLT, Int.reduceLE, Int.reduceAdd, Int.reduceSub, Int.reduceMul, Int.reduceNeg, Int.reduceEq, Int.reduceToNat, r_right, at?]) | (refine split_yes (fun hc => ?_) (fun hc => ?_) <;> simp -implicitDefEqProofs only [hc, ↓reduceIte, go_sem, Nat.reduceAdd, Nat.reduceSub, Nat.reduceMul, Nat.reduceBEq, Nat.reduceLeDiff, Nat.reduceLT, Nat.reduceEqDiff, reduceCtorEq, Int.reduceBEq, Int.reduceBNe, Int.reduceLT, Int.reduceLE, Int.reduceAdd, Int.reduceSub, Int.reduceMul, Int.reduceNeg, Int.reduceEq, Int.reduceToNat, r_right, at?]) | (refine split_no (fun hc => ?_) (fun hc => ?_) <;> simp -implicitDefEqProofs only [hc, ↓reduceIte, go_sem, Nat.reduceAdd, Nat.reduceSub, Nat.reduceMul, Nat.reduceBEq, Nat.reduceLeDiff, Nat.reduceLT, Nat.reduceEqDiff, reduceCtorEq, Int.reduceBEq, Int.reduceBNe, Int.reduceLT, Int.reduceLE, Int.reduceAdd, Int.reduceSub, Int.reduceMul, Int.reduceNeg, Int.reduceEq, Int.reduceToNat, r_right, at?]))
  rw [RL_eq]
  simp -implicitDefEqProofs only [↓reduceIte, go_sem, Nat.reduceAdd, Nat.reduceSub, Nat.reduceMul, Nat.reduceBEq, Nat.reduceLeDiff, Nat.reduceLT, Nat.reduceEqDiff, reduceCtorEq, Int.reduceBEq, Int.reduceBNe, Int.reduceLT, Int.reduceLE, Int.reduceAdd, Int.reduceSub, Int.reduceMul, Int.reduceNeg, Int.reduceEq, Int.reduceToNat, r_right, at?, r_third, r_fromThird, r_Compared, r_Truth, r_alike]
  repeat' (first | (refine split_cond (fun hc => ?_) (fun hc => ?_) <;> simp -implicitDefEqProofs only [hc, ↓reduceIte, go_sem, Nat.reduceAdd, Nat.reduceSub, Nat.reduceMul, Nat.reduceBEq, Nat.reduceLeDiff, Nat.reduceLT, Nat.reduceEqDiff, reduceCtorEq, Int.reduceBEq, Int.reduceBNe, Int.reduceLT, Int.reduceLE, Int.reduceAdd, Int.reduceSub, Int.reduceMul, Int.reduceNeg, Int.reduceEq, Int.reduceToNat, r_right, at?, r_third, r_fromThird, r_Compared, r_Truth, r_alike]) | (refine split_yes (fun hc => ?_) (fun hc => ?_) <;> simp -implicitDefEqProofs only [hc, ↓reduceIte, go_sem, Nat.reduceAdd, Nat.reduceSub, Nat.reduceMul, Nat.reduceBEq, Nat.reduceLeDiff, Nat.reduceLT, Nat.reduceEqDiff, reduceCtorEq, Int.reduceBEq, Int.reduceBNe, Int.reduceLT, Int.reduceLE, Int.reduceAdd, Int.reduceSub, Int.reduceMul, Int.reduceNeg, Int.reduceEq, Int.reduceToNat, r_right, at?, r_third, r_fromThird, r_Compared, r_Truth, r_alike]) | (refine split_no (fun hc => ?_) (fun hc => ?_) <;> simp -implicitDefEqProofs only [hc, ↓reduceIte, go_sem, Nat.reduceAdd, Nat.reduceSub, Nat.reduceMul, Nat.reduceBEq, Nat.reduceLeDiff, Nat.reduceLT, Nat.reduceEqDiff, reduceCtorEq, Int.reduceBEq, Int.reduceBNe, Int.reduceLT, Int.reduceLE, Int.reduceAdd, Int.reduceSub, Int.reduceMul, Int.reduceNeg, Int.reduceEq, Int.reduceToNat, r_right, at?, r_third, r_fromThird, r_Compared, r_Truth, r_alike]))
theorem r_Oper3 (n : Int) (k1 n1 : Int) (s1 : List UInt8) (k2 n2 : Int) (s2 : List UInt8) : R K (.call 21 [.int .i64 3, .int .i64 n, .rows [[.int .i64 k1, .int .i64 n1, .str s1], [.int .i64 k2, .int .i64 n2, .str s2]]] []) = some (enc (fromTri (if tri (plainV ⟨k1, n1, s1⟩) < tri (plainV ⟨k2, n2, s2⟩) then tri (plainV ⟨k2, n2, s2⟩) else tri (plainV ⟨k1, n1, s1⟩))), []) := by
  rw [call_21]
  simp -implicitDefEqProofs only [↓reduceIte, go_sem, Nat.reduceAdd, Nat.reduceSub, Nat.reduceMul, Nat.reduceBEq, Nat.reduceLeDiff, Nat.reduceLT, Nat.reduceEqDiff, reduceCtorEq, Int.reduceBEq, Int.reduceBNe, Int.reduceLT, Int.reduceLE, Int.reduceAdd, Int.reduceSub, Int.reduceMul, Int.reduceNeg, Int.reduceEq, Int.reduceToNat, Tryz.f21]
  repeat' (first | (refine split_cond (fun hc => ?_) (fun hc => ?_) <;> simp -implicitDefEqProofs only [hc, ↓reduceIte, go_sem, Nat.reduceAdd, Nat.reduceSub, Nat.reduceMul, Nat.reduceBEq, Nat.reduceLeDiff, Nat.reduceLT, Nat.reduceEqDiff, reduceCtorEq, Int.reduceBEq, Int.reduceBNe, Int.reduceLT, Int.reduceLE, Int.reduceAdd, Int.reduceSub, Int.reduceMul, Int.reduceNeg, Int.reduceEq, Int.reduceToNat]) | (refine split_yes (fun hc => ?_) (fun hc => ?_) <;> simp -implicitDefEqProofs only [hc, ↓reduceIte, go_sem, Nat.reduceAdd, Nat.reduceSub, Nat.reduceMul, Nat.reduceBEq, Nat.reduceLeDiff, Nat.reduceLT, Nat.reduceEqDiff, reduceCtorEq, Int.reduceBEq, Int.reduceBNe, Int.reduceLT, Int.reduceLE, Int.reduceAdd, Int.reduceSub, Int.reduceMul, Int.reduceNeg, Int.reduceEq, Int.reduceToNat]) | (refine split_no (fun hc => ?_) (fun hc => ?_) <;> simp -implicitDefEqProofs only [hc, ↓reduceIte, go_sem, Nat.reduceAdd, Nat.reduceSub, Nat.reduceMul, Nat.reduceBEq, Nat.reduceLeDiff, Nat.reduceLT, Nat.reduceEqDiff, reduceCtorEq, Int.reduceBEq, Int.reduceBNe, Int.reduceLT, Int.reduceLE, Int.reduceAdd, Int.reduceSub, Int.reduceMul, Int.reduceNeg, Int.reduceEq, Int.reduceToNat]))
  rw [RL_eq]
  simp -implicitDefEqProofs only [↓reduceIte, go_sem, Nat.reduceAdd, Nat.reduceSub, Nat.reduceMul, Nat.reduceBEq, Nat.reduceLeDiff, Nat.reduceLT, Nat.reduceEqDiff, reduceCtorEq, Int.reduceBEq, Int.reduceBNe, Int.reduceLT, Int.reduceLE, Int.reduceAdd, Int.reduceSub, Int.reduceMul, Int.reduceNeg, Int.reduceEq, Int.reduceToNat, r_right, at?]
  repeat' (first | (refine split_cond (fun hc => ?_) (fun hc => ?_) <;> simp -implicitDefEqProofs only [hc, ↓reduceIte, go_sem, Nat.reduceAdd, Nat.reduceSub, Nat.reduceMul, Nat.reduceBEq, Nat.reduceLeDiff, Nat.reduceLT, Nat.reduceEqDiff, reduceCtorEq, Int.reduceBEq, Int.reduceBNe, Int.reduceLT, Int.reduceLE, Int.reduceAdd, Int.reduceSub, Int.reduceMul, Int.reduceNeg, Int.reduceEq, Int.reduceToNat, r_right, at?]) | (refine split_yes (fun hc => ?_) (fun hc => ?_) <;> simp -implicitDefEqProofs only [hc, ↓reduceIte, go_sem, Nat.reduceAdd, Nat.reduceSub, Nat.reduceMul, Nat.reduceBEq, Nat.reduceLeDiff, Nat.reduceLT, Nat.reduceEqDiff, reduceCtorEq, Int.reduceBEq, Int.reduceBNe, Int.reduceLT, Int.reduceLE, Int.reduceAdd, Int.reduceSub, Int.reduceMul, Int.reduceNeg, Int.reduceEq, Int.reduceToNat, r_right, at?]) | (refine split_no (fun hc => ?_) (fun hc => ?_) <;> simp -implicitDefEqProofs only [hc, ↓reduceIte, go_sem, Nat.reduceAdd, Nat.reduceSub, Nat.reduceMul, Nat.reduceBEq, Nat.reduceLeDiff, Nat.reduceLT, Nat.reduceEqDiff, reduceCtorEq, Int.reduceBEq, Int.reduceBNe, Int.reduceLT, Int.reduceLE, Int.reduceAdd, Int.reduceSub, Int.reduceMul, Int.reduceNeg, Int.reduceEq, Int.reduceToNat, r_right, at?]))
  rw [RL_eq]
  simp -implicitDefEqProofs only [↓reduceIte, go_sem, Nat.reduceAdd, Nat.reduceSub, Nat.reduceMul, Nat.reduceBEq, Nat.reduceLeDiff, Nat.reduceLT, Nat.reduceEqDiff, reduceCtorEq, Int.reduceBEq, Int.reduceBNe, Int.reduceLT, Int.reduceLE, Int.reduceAdd, Int.reduceSub, Int.reduceMul, Int.reduceNeg, Int.reduceEq, Int.reduceToNat, r_right, at?]
  repeat' (first | (refine split_cond (fun hc => ?_) (fun hc => ?_) <;> simp -implicitDefEqProofs only [hc, ↓reduceIte, go_sem, Nat.reduceAdd, Nat.reduceSub, Nat.reduceMul, Nat.reduceBEq, Nat.reduceLeDiff, Nat.reduceLT, Nat.reduceEqDiff, reduceCtorEq, Int.reduceBEq, Int.reduceBNe, Int.reduceLT, Int.reduceLE, Int.reduceAdd, Int.reduceSub, Int.reduceMul, Int.reduceNeg, Int.reduceEq, Int.reduceToNat, r_right, at?]) | (refine split_yes (fun hc => ?_) (fun hc => ?_) <;> simp -implicitDefEqProofs only [hc, ↓reduceIte, go_sem, Nat.reduceAdd, Nat.reduceSub, Nat.reduceMul, Nat.reduceBEq, Nat.reduceLeDiff, Nat.reduceLT, Nat.reduceEqDiff, reduceCtorEq, Int.reduceBEq, Int.reduceBNe, Int.reduceLT, Int.reduceLE, Int.reduceAdd, Int.reduceSub, Int.reduceMul, Int.reduceNeg, Int.reduceEq, Int.reduceToNat, r_right, at?]) | (refine split_no (fun hc => ?_) (fun hc => ?_) <;> simp -implicitDefEqProofs only [hc, ↓reduceIte, go_sem, Nat.reduceAdd, Nat.reduceSub, Nat.reduceMul, Nat.reduceBEq, Nat.reduceLeDiff, Nat.reduceLT, Nat.reduceEqDiff, reduceCtorEq, Int.reduceBEq, Int.reduceBNe, Int.reduceLT, Int.reduceLE, Int.reduceAdd, Int.reduceSub, Int.reduceMul, Int.reduceNeg, Int.reduceEq, Int.reduceToNat, r_right, at?]))
  rw [RL_eq]
  simp -implicitDefEqProofs only [↓reduceIte, go_sem, Nat.reduceAdd, Nat.reduceSub, Nat.reduceMul, Nat.reduceBEq, Nat.reduceLeDiff, Nat.reduceLT, Nat.reduceEqDiff, reduceCtorEq, Int.reduceBEq, Int.reduceBNe, Int.reduceLT, Int.reduceLE, Int.reduceAdd, Int.reduceSub, Int.reduceMul, Int.reduceNeg, Int.reduceEq, Int.reduceToNat, r_right, at?, r_third, r_fromThird, r_Compared, r_Truth, r_alike]
  repeat' (first | (refine split_cond (fun hc => ?_) (fun hc => ?_) <;> simp -implicitDefEqProofs only [hc, ↓reduceIte, go_sem, Nat.reduceAdd, Nat.reduceSub, Nat.reduceMul, Nat.reduceBEq, Nat.reduceLeDiff, Nat.reduceLT, Nat.reduceEqDiff, reduceCtorEq, Int.reduceBEq, Int.reduceBNe, Int.reduceLT, Int.reduceLE, Int.reduceAdd, Int.reduceSub, Int.reduceMul, Int.reduceNeg, Int.reduceEq, Int.reduceToNat, r_right, at?, r_third, r_fromThird, r_Compared, r_Truth, r_alike]) | (refine split_yes (fun hc => ?_) (fun hc => ?_) <;> simp -implicitDefEqProofs only [hc, ↓reduceIte, go_sem, Nat.reduceAdd, Nat.reduceSub, Nat.reduceMul, Nat.reduceBEq, Nat.reduceLeDiff, Nat.reduceLT, Nat.reduceEqDiff, reduceCtorEq, Int.reduceBEq, Int.reduceBNe, Int.reduceLT, Int.reduceLE, Int.reduceAdd, Int.reduceSub, Int.reduceMul, Int.reduceNeg, Int.reduceEq, Int.reduceToNat, r_right, at?, r_third, r_fromThird, r_Compared, r_Truth, r_alike]) | (refine split_no (fun hc => ?_) (fun hc => ?_) <;> simp -implicitDefEqProofs only [hc, ↓reduceIte, go_sem, Nat.reduceAdd, Nat.reduceSub, Nat.reduceMul, Nat.reduceBEq, Nat.reduceLeDiff, Nat.reduceLT, Nat.reduceEqDiff, reduceCtorEq, Int.reduceBEq, Int.reduceBNe, Int.reduceLT, Int.reduceLE, Int.reduceAdd, Int.reduceSub, Int.reduceMul, Int.reduceNeg, Int.reduceEq, Int.reduceToNat, r_right, at?, r_third, r_fromThird, r_Compared, r_Truth, r_alike]))
theorem r_Oper10 (n : Int) (k1 n1 : Int) (s1 : List UInt8) (k2 n2 : Int) (s2 : List UInt8) : R K (.call 21 [.int .i64 10, .int .i64 n, .rows [[.int .i64 k1, .int .i64 n1, .str s1], [.int .i64 k2, .int .i64 n2, .str s2]]] []) = some (enc (boolV (comparedS (plainV ⟨k1, n1, s1⟩) (plainV ⟨k2, n2, s2⟩) == 0)), []) := by
  rw [call_21]
  simp -implicitDefEqProofs only [↓reduceIte, go_sem, Nat.reduceAdd, Nat.reduceSub, Nat.reduceMul, Nat.reduceBEq, Nat.reduceLeDiff, Nat.reduceLT, Nat.reduceEqDiff, reduceCtorEq, Int.reduceBEq, Int.reduceBNe, Int.reduceLT, Int.reduceLE, Int.reduceAdd, Int.reduceSub, Int.reduceMul, Int.reduceNeg, Int.reduceEq, Int.reduceToNat, Tryz.f21]
  repeat' (first | (refine split_cond (fun hc => ?_) (fun hc => ?_) <;> simp -implicitDefEqProofs only [hc, ↓reduceIte, go_sem, Nat.reduceAdd, Nat.reduceSub, Nat.reduceMul, Nat.reduceBEq, Nat.reduceLeDiff, Nat.reduceLT, Nat.reduceEqDiff, reduceCtorEq, Int.reduceBEq, Int.reduceBNe, Int.reduceLT, Int.reduceLE, Int.reduceAdd, Int.reduceSub, Int.reduceMul, Int.reduceNeg, Int.reduceEq, Int.reduceToNat]) | (refine split_yes (fun hc => ?_) (fun hc => ?_) <;> simp -implicitDefEqProofs only [hc, ↓reduceIte, go_sem, Nat.reduceAdd, Nat.reduceSub, Nat.reduceMul, Nat.reduceBEq, Nat.reduceLeDiff, Nat.reduceLT, Nat.reduceEqDiff, reduceCtorEq, Int.reduceBEq, Int.reduceBNe, Int.reduceLT, Int.reduceLE, Int.reduceAdd, Int.reduceSub, Int.reduceMul, Int.reduceNeg, Int.reduceEq, Int.reduceToNat]) | (refine split_no (fun hc => ?_) (fun hc => ?_) <;> simp -implicitDefEqProofs only [hc, ↓reduceIte, go_sem, Nat.reduceAdd, Nat.reduceSub, Nat.reduceMul, Nat.reduceBEq, Nat.reduceLeDiff, Nat.reduceLT, Nat.reduceEqDiff, reduceCtorEq, Int.reduceBEq, Int.reduceBNe, Int.reduceLT, Int.reduceLE, Int.reduceAdd, Int.reduceSub, Int.reduceMul, Int.reduceNeg, Int.reduceEq, Int.reduceToNat]))
  rw [RL_eq]
  simp -implicitDefEqProofs only [↓reduceIte, go_sem, Nat.reduceAdd, Nat.reduceSub, Nat.reduceMul, Nat.reduceBEq, Nat.reduceLeDiff, Nat.reduceLT, Nat.reduceEqDiff, reduceCtorEq, Int.reduceBEq, Int.reduceBNe, Int.reduceLT, Int.reduceLE, Int.reduceAdd, Int.reduceSub, Int.reduceMul, Int.reduceNeg, Int.reduceEq, Int.reduceToNat, r_right, at?]
  repeat' (first | (refine split_cond (fun hc => ?_) (fun hc => ?_) <;> simp -implicitDefEqProofs only [hc, ↓reduceIte, go_sem, Nat.reduceAdd, Nat.reduceSub, Nat.reduceMul, Nat.reduceBEq, Nat.reduceLeDiff, Nat.reduceLT, Nat.reduceEqDiff, reduceCtorEq, Int.reduceBEq, Int.reduceBNe, Int.reduceLT, Int.reduceLE, Int.reduceAdd, Int.reduceSub, Int.reduceMul, Int.reduceNeg, Int.reduceEq, Int.reduceToNat, r_right, at?]) | (refine split_yes (fun hc => ?_) (fun hc => ?_) <;> simp -implicitDefEqProofs only [hc, ↓reduceIte, go_sem, Nat.reduceAdd, Nat.reduceSub, Nat.reduceMul, Nat.reduceBEq, Nat.reduceLeDiff, Nat.reduceLT, Nat.reduceEqDiff, reduceCtorEq, Int.reduceBEq, Int.reduceBNe, Int.reduceLT, Int.reduceLE, Int.reduceAdd, Int.reduceSub, Int.reduceMul, Int.reduceNeg, Int.reduceEq, Int.reduceToNat, r_right, at?]) | (refine split_no (fun hc => ?_) (fun hc => ?_) <;> simp -implicitDefEqProofs only [hc, ↓reduceIte, go_sem, Nat.reduceAdd, Nat.reduceSub, Nat.reduceMul, Nat.reduceBEq, Nat.reduceLeDiff, Nat.reduceLT, Nat.reduceEqDiff, reduceCtorEq, Int.reduceBEq, Int.reduceBNe, Int.reduceLT, Int.reduceLE, Int.reduceAdd, Int.reduceSub, Int.reduceMul, Int.reduceNeg, Int.reduceEq, Int.reduceToNat, r_right, at?]))
  rw [RL_eq]
  simp -implicitDefEqProofs only [↓reduceIte, go_sem, Nat.reduceAdd, Nat.reduceSub, Nat.reduceMul, Nat.reduceBEq, Nat.reduceLeDiff, Nat.reduceLT, Nat.reduceEqDiff, reduceCtorEq, Int.reduceBEq, Int.reduceBNe, Int.reduceLT, Int.reduceLE, Int.reduceAdd, Int.reduceSub, Int.reduceMul, Int.reduceNeg, Int.reduceEq, Int.reduceToNat, r_right, at?]
  repeat' (first | (refine split_cond (fun hc => ?_) (fun hc => ?_) <;> simp -implicitDefEqProofs only [hc, ↓reduceIte, go_sem, Nat.reduceAdd, Nat.reduceSub, Nat.reduceMul, Nat.reduceBEq, Nat.reduceLeDiff, Nat.reduceLT, Nat.reduceEqDiff, reduceCtorEq, Int.reduceBEq, Int.reduceBNe, Int.reduceLT, Int.reduceLE, Int.reduceAdd, Int.reduceSub, Int.reduceMul, Int.reduceNeg, Int.reduceEq, Int.reduceToNat, r_right, at?]) | (refine split_yes (fun hc => ?_) (fun hc => ?_) <;> simp -implicitDefEqProofs only [hc, ↓reduceIte, go_sem, Nat.reduceAdd, Nat.reduceSub, Nat.reduceMul, Nat.reduceBEq, Nat.reduceLeDiff, Nat.reduceLT, Nat.reduceEqDiff, reduceCtorEq, Int.reduceBEq, Int.reduceBNe, Int.reduceLT, Int.reduceLE, Int.reduceAdd, Int.reduceSub, Int.reduceMul, Int.reduceNeg, Int.reduceEq, Int.reduceToNat, r_right, at?]) | (refine split_no (fun hc => ?_) (fun hc => ?_) <;> simp -implicitDefEqProofs only [hc, ↓reduceIte, go_sem, Nat.reduceAdd, Nat.reduceSub, Nat.reduceMul, Nat.reduceBEq, Nat.reduceLeDiff, Nat.reduceLT, Nat.reduceEqDiff, reduceCtorEq, Int.reduceBEq, Int.reduceBNe, Int.reduceLT, Int.reduceLE, Int.reduceAdd, Int.reduceSub, Int.reduceMul, Int.reduceNeg, Int.reduceEq, Int.reduceToNat, r_right, at?]))
  rw [RL_eq]
  simp -implicitDefEqProofs only [↓reduceIte, go_sem, Nat.reduceAdd, Nat.reduceSub, Nat.reduceMul, Nat.reduceBEq, Nat.reduceLeDiff, Nat.reduceLT, Nat.reduceEqDiff, reduceCtorEq, Int.reduceBEq, Int.reduceBNe, Int.reduceLT, Int.reduceLE, Int.reduceAdd, Int.reduceSub, Int.reduceMul, Int.reduceNeg, Int.reduceEq, Int.reduceToNat, r_right, at?, r_third, r_fromThird, r_Compared, r_Truth, r_alike]
  repeat' (first | (refine split_cond (fun hc => ?_) (fun hc => ?_) <;> simp -implicitDefEqProofs only [hc, ↓reduceIte, go_sem, Nat.reduceAdd, Nat.reduceSub, Nat.reduceMul, Nat.reduceBEq, Nat.reduceLeDiff, Nat.reduceLT, Nat.reduceEqDiff, reduceCtorEq, Int.reduceBEq, Int.reduceBNe, Int.reduceLT, Int.reduceLE, Int.reduceAdd, Int.reduceSub, Int.reduceMul, Int.reduceNeg, Int.reduceEq, Int.reduceToNat, r_right, at?, r_third, r_fromThird, r_Compared, r_Truth, r_alike]) | (refine split_yes (fun hc => ?_) (fun hc => ?_) <;> simp -implicitDefEqProofs only [hc, ↓reduceIte, go_sem, Nat.reduceAdd, Nat.reduceSub, Nat.reduceMul, Nat.reduceBEq, Nat.reduceLeDiff, Nat.reduceLT, Nat.reduceEqDiff, reduceCtorEq, Int.reduceBEq, Int.reduceBNe, Int.reduceLT, Int.reduceLE, Int.reduceAdd, Int.reduceSub, Int.reduceMul, Int.reduceNeg, Int.reduceEq, Int.reduceToNat, r_right, at?, r_third, r_fromThird, r_Compared, r_Truth, r_alike]) | (refine split_no (fun hc => ?_) (fun hc => ?_) <;> simp -implicitDefEqProofs only [hc, ↓reduceIte, go_sem, Nat.reduceAdd, Nat.reduceSub, Nat.reduceMul, Nat.reduceBEq, Nat.reduceLeDiff, Nat.reduceLT, Nat.reduceEqDiff, reduceCtorEq, Int.reduceBEq, Int.reduceBNe, Int.reduceLT, Int.reduceLE, Int.reduceAdd, Int.reduceSub, Int.reduceMul, Int.reduceNeg, Int.reduceEq, Int.reduceToNat, r_right, at?, r_third, r_fromThird, r_Compared, r_Truth, r_alike]))
theorem r_Oper4 (n : Int) (k1 n1 : Int) (s1 : List UInt8) (k2 n2 : Int) (s2 : List UInt8) : R K (.call 21 [.int .i64 4, .int .i64 n, .rows [[.int .i64 k1, .int .i64 n1, .str s1], [.int .i64 k2, .int .i64 n2, .str s2]]] []) = some (enc (if alikeB (plainV ⟨k1, n1, s1⟩) (plainV ⟨k2, n2, s2⟩) = true then boolV (comparedS (plainV ⟨k1, n1, s1⟩) (plainV ⟨k2, n2, s2⟩) == 0) else null), []) := by
  rw [call_21]
  simp -implicitDefEqProofs only [↓reduceIte, go_sem, Nat.reduceAdd, Nat.reduceSub, Nat.reduceMul, Nat.reduceBEq, Nat.reduceLeDiff, Nat.reduceLT, Nat.reduceEqDiff, reduceCtorEq, Int.reduceBEq, Int.reduceBNe, Int.reduceLT, Int.reduceLE, Int.reduceAdd, Int.reduceSub, Int.reduceMul, Int.reduceNeg, Int.reduceEq, Int.reduceToNat, Tryz.f21]
  repeat' (first | (refine split_cond (fun hc => ?_) (fun hc => ?_) <;> simp -implicitDefEqProofs only [hc, ↓reduceIte, go_sem, Nat.reduceAdd, Nat.reduceSub, Nat.reduceMul, Nat.reduceBEq, Nat.reduceLeDiff, Nat.reduceLT, Nat.reduceEqDiff, reduceCtorEq, Int.reduceBEq, Int.reduceBNe, Int.reduceLT, Int.reduceLE, Int.reduceAdd, Int.reduceSub, Int.reduceMul, Int.reduceNeg, Int.reduceEq, Int.reduceToNat]) | (refine split_yes (fun hc => ?_) (fun hc => ?_) <;> simp -implicitDefEqProofs only [hc, ↓reduceIte, go_sem, Nat.reduceAdd, Nat.reduceSub, Nat.reduceMul, Nat.reduceBEq, Nat.reduceLeDiff, Nat.reduceLT, Nat.reduceEqDiff, reduceCtorEq, Int.reduceBEq, Int.reduceBNe, Int.reduceLT, Int.reduceLE, Int.reduceAdd, Int.reduceSub, Int.reduceMul, Int.reduceNeg, Int.reduceEq, Int.reduceToNat]) | (refine split_no (fun hc => ?_) (fun hc => ?_) <;> simp -implicitDefEqProofs only [hc, ↓reduceIte, go_sem, Nat.reduceAdd, Nat.reduceSub, Nat.reduceMul, Nat.reduceBEq, Nat.reduceLeDiff, Nat.reduceLT, Nat.reduceEqDiff, reduceCtorEq, Int.reduceBEq, Int.reduceBNe, Int.reduceLT, Int.reduceLE, Int.reduceAdd, Int.reduceSub, Int.reduceMul, Int.reduceNeg, Int.reduceEq, Int.reduceToNat]))
  rw [RL_eq]
  simp -implicitDefEqProofs only [↓reduceIte, go_sem, Nat.reduceAdd, Nat.reduceSub, Nat.reduceMul, Nat.reduceBEq, Nat.reduceLeDiff, Nat.reduceLT, Nat.reduceEqDiff, reduceCtorEq, Int.reduceBEq, Int.reduceBNe, Int.reduceLT, Int.reduceLE, Int.reduceAdd, Int.reduceSub, Int.reduceMul, Int.reduceNeg, Int.reduceEq, Int.reduceToNat, r_right, at?]
  repeat' (first | (refine split_cond (fun hc => ?_) (fun hc => ?_) <;> simp -implicitDefEqProofs only [hc, ↓reduceIte, go_sem, Nat.reduceAdd, Nat.reduceSub, Nat.reduceMul, Nat.reduceBEq, Nat.reduceLeDiff, Nat.reduceLT, Nat.reduceEqDiff, reduceCtorEq, Int.reduceBEq, Int.reduceBNe, Int.reduceLT, Int.reduceLE, Int.reduceAdd, Int.reduceSub, Int.reduceMul, Int.reduceNeg, Int.reduceEq, Int.reduceToNat, r_right, at?]) | (refine split_yes (fun hc => ?_) (fun hc => ?_) <;> simp -implicitDefEqProofs only [hc, ↓reduceIte, go_sem, Nat.reduceAdd, Nat.reduceSub, Nat.reduceMul, Nat.reduceBEq, Nat.reduceLeDiff, Nat.reduceLT, Nat.reduceEqDiff, reduceCtorEq, Int.reduceBEq, Int.reduceBNe, Int.reduceLT, Int.reduceLE, Int.reduceAdd, Int.reduceSub, Int.reduceMul, Int.reduceNeg, Int.reduceEq, Int.reduceToNat, r_right, at?]) | (refine split_no (fun hc => ?_) (fun hc => ?_) <;> simp -implicitDefEqProofs only [hc, ↓reduceIte, go_sem, Nat.reduceAdd, Nat.reduceSub, Nat.reduceMul, Nat.reduceBEq, Nat.reduceLeDiff, Nat.reduceLT, Nat.reduceEqDiff, reduceCtorEq, Int.reduceBEq, Int.reduceBNe, Int.reduceLT, Int.reduceLE, Int.reduceAdd, Int.reduceSub, Int.reduceMul, Int.reduceNeg, Int.reduceEq, Int.reduceToNat, r_right, at?]))
  rw [RL_eq]
  simp -implicitDefEqProofs only [↓reduceIte, go_sem, Nat.reduceAdd, Nat.reduceSub, Nat.reduceMul, Nat.reduceBEq, Nat.reduceLeDiff, Nat.reduceLT, Nat.reduceEqDiff, reduceCtorEq, Int.reduceBEq, Int.reduceBNe, Int.reduceLT, Int.reduceLE, Int.reduceAdd, Int.reduceSub, Int.reduceMul, Int.reduceNeg, Int.reduceEq, Int.reduceToNat, r_right, at?]
  repeat' (first | (refine split_cond (fun hc => ?_) (fun hc => ?_) <;> simp -implicitDefEqProofs only [hc, ↓reduceIte, go_sem, Nat.reduceAdd, Nat.reduceSub, Nat.reduceMul, Nat.reduceBEq, Nat.reduceLeDiff, Nat.reduceLT, Nat.reduceEqDiff, reduceCtorEq, Int.reduceBEq, Int.reduceBNe, Int.reduceLT, Int.reduceLE, Int.reduceAdd, Int.reduceSub, Int.reduceMul, Int.reduceNeg, Int.reduceEq, Int.reduceToNat, r_right, at?]) | (refine split_yes (fun hc => ?_) (fun hc => ?_) <;> simp -implicitDefEqProofs only [hc, ↓reduceIte, go_sem, Nat.reduceAdd, Nat.reduceSub, Nat.reduceMul, Nat.reduceBEq, Nat.reduceLeDiff, Nat.reduceLT, Nat.reduceEqDiff, reduceCtorEq, Int.reduceBEq, Int.reduceBNe, Int.reduceLT, Int.reduceLE, Int.reduceAdd, Int.reduceSub, Int.reduceMul, Int.reduceNeg, Int.reduceEq, Int.reduceToNat, r_right, at?]) | (refine split_no (fun hc => ?_) (fun hc => ?_) <;> simp -implicitDefEqProofs only [hc, ↓reduceIte, go_sem, Nat.reduceAdd, Nat.reduceSub, Nat.reduceMul, Nat.reduceBEq, Nat.reduceLeDiff, Nat.reduceLT, Nat.reduceEqDiff, reduceCtorEq, Int.reduceBEq, Int.reduceBNe, Int.reduceLT, Int.reduceLE, Int.reduceAdd, Int.reduceSub, Int.reduceMul, Int.reduceNeg, Int.reduceEq, Int.reduceToNat, r_right, at?]))
  rw [RL_eq]
  simp -implicitDefEqProofs only [↓reduceIte, go_sem, Nat.reduceAdd, Nat.reduceSub, Nat.reduceMul, Nat.reduceBEq, Nat.reduceLeDiff, Nat.reduceLT, Nat.reduceEqDiff, reduceCtorEq, Int.reduceBEq, Int.reduceBNe, Int.reduceLT, Int.reduceLE, Int.reduceAdd, Int.reduceSub, Int.reduceMul, Int.reduceNeg, Int.reduceEq, Int.reduceToNat, r_right, at?, r_third, r_fromThird, r_Compared, r_Truth, r_alike]
  repeat' (first | (refine split_cond (fun hc => ?_) (fun hc => ?_) <;> simp -implicitDefEqProofs only [hc, ↓reduceIte, go_sem, Nat.reduceAdd, Nat.reduceSub, Nat.reduceMul, Nat.reduceBEq, Nat.reduceLeDiff, Nat.reduceLT, Nat.reduceEqDiff, reduceCtorEq, Int.reduceBEq, Int.reduceBNe, Int.reduceLT, Int.reduceLE, Int.reduceAdd, Int.reduceSub, Int.reduceMul, Int.reduceNeg, Int.reduceEq, Int.reduceToNat, r_right, at?, r_third, r_fromThird, r_Compared, r_Truth, r_alike]) | (refine split_yes (fun hc => ?_) (fun hc => ?_) <;> simp -implicitDefEqProofs only [hc, ↓reduceIte, go_sem, Nat.reduceAdd, Nat.reduceSub, Nat.reduceMul, Nat.reduceBEq, Nat.reduceLeDiff, Nat.reduceLT, Nat.reduceEqDiff, reduceCtorEq, Int.reduceBEq, Int.reduceBNe, Int.reduceLT, Int.reduceLE, Int.reduceAdd, Int.reduceSub, Int.reduceMul, Int.reduceNeg, Int.reduceEq, Int.reduceToNat, r_right, at?, r_third, r_fromThird, r_Compared, r_Truth, r_alike]) | (refine split_no (fun hc => ?_) (fun hc => ?_) <;> simp -implicitDefEqProofs only [hc, ↓reduceIte, go_sem, Nat.reduceAdd, Nat.reduceSub, Nat.reduceMul, Nat.reduceBEq, Nat.reduceLeDiff, Nat.reduceLT, Nat.reduceEqDiff, reduceCtorEq, Int.reduceBEq, Int.reduceBNe, Int.reduceLT, Int.reduceLE, Int.reduceAdd, Int.reduceSub, Int.reduceMul, Int.reduceNeg, Int.reduceEq, Int.reduceToNat, r_right, at?, r_third, r_fromThird, r_Compared, r_Truth, r_alike]))
  all_goals simp_all [null]
theorem r_Oper6 (n : Int) (k1 n1 : Int) (s1 : List UInt8) (k2 n2 : Int) (s2 : List UInt8) : R K (.call 21 [.int .i64 6, .int .i64 n, .rows [[.int .i64 k1, .int .i64 n1, .str s1], [.int .i64 k2, .int .i64 n2, .str s2]]] []) = some (enc (if alikeB (plainV ⟨k1, n1, s1⟩) (plainV ⟨k2, n2, s2⟩) = true then boolV (decide (comparedS (plainV ⟨k1, n1, s1⟩) (plainV ⟨k2, n2, s2⟩) < 0)) else null), []) := by
  rw [call_21]
  simp -implicitDefEqProofs only [↓reduceIte, go_sem, Nat.reduceAdd, Nat.reduceSub, Nat.reduceMul, Nat.reduceBEq, Nat.reduceLeDiff, Nat.reduceLT, Nat.reduceEqDiff, reduceCtorEq, Int.reduceBEq, Int.reduceBNe, Int.reduceLT, Int.reduceLE, Int.reduceAdd, Int.reduceSub, Int.reduceMul, Int.reduceNeg, Int.reduceEq, Int.reduceToNat, Tryz.f21]
  repeat' (first | (refine split_cond (fun hc => ?_) (fun hc => ?_) <;> simp -implicitDefEqProofs only [hc, ↓reduceIte, go_sem, Nat.reduceAdd, Nat.reduceSub, Nat.reduceMul, Nat.reduceBEq, Nat.reduceLeDiff, Nat.reduceLT, Nat.reduceEqDiff, reduceCtorEq, Int.reduceBEq, Int.reduceBNe, Int.reduceLT, Int.reduceLE, Int.reduceAdd, Int.reduceSub, Int.reduceMul, Int.reduceNeg, Int.reduceEq, Int.reduceToNat]) | (refine split_yes (fun hc => ?_) (fun hc => ?_) <;> simp -implicitDefEqProofs only [hc, ↓reduceIte, go_sem, Nat.reduceAdd, Nat.reduceSub, Nat.reduceMul, Nat.reduceBEq, Nat.reduceLeDiff, Nat.reduceLT, Nat.reduceEqDiff, reduceCtorEq, Int.reduceBEq, Int.reduceBNe, Int.reduceLT, Int.reduceLE, Int.reduceAdd, Int.reduceSub, Int.reduceMul, Int.reduceNeg, Int.reduceEq, Int.reduceToNat]) | (refine split_no (fun hc => ?_) (fun hc => ?_) <;> simp -implicitDefEqProofs only [hc, ↓reduceIte, go_sem, Nat.reduceAdd, Nat.reduceSub, Nat.reduceMul, Nat.reduceBEq, Nat.reduceLeDiff, Nat.reduceLT, Nat.reduceEqDiff, reduceCtorEq, Int.reduceBEq, Int.reduceBNe, Int.reduceLT, Int.reduceLE, Int.reduceAdd, Int.reduceSub, Int.reduceMul, Int.reduceNeg, Int.reduceEq, Int.reduceToNat]))
  rw [RL_eq]
  simp -implicitDefEqProofs only [↓reduceIte, go_sem, Nat.reduceAdd, Nat.reduceSub, Nat.reduceMul, Nat.reduceBEq, Nat.reduceLeDiff, Nat.reduceLT, Nat.reduceEqDiff, reduceCtorEq, Int.reduceBEq, Int.reduceBNe, Int.reduceLT, Int.reduceLE, Int.reduceAdd, Int.reduceSub, Int.reduceMul, Int.reduceNeg, Int.reduceEq, Int.reduceToNat, r_right, at?]
  repeat' (first | (refine split_cond (fun hc => ?_) (fun hc => ?_) <;> simp -implicitDefEqProofs only [hc, ↓reduceIte, go_sem, Nat.reduceAdd, Nat.reduceSub, Nat.reduceMul, Nat.reduceBEq, Nat.reduceLeDiff, Nat.reduceLT, Nat.reduceEqDiff, reduceCtorEq, Int.reduceBEq, Int.reduceBNe, Int.reduceLT, Int.reduceLE, Int.reduceAdd, Int.reduceSub, Int.reduceMul, Int.reduceNeg, Int.reduceEq, Int.reduceToNat, r_right, at?]) | (refine split_yes (fun hc => ?_) (fun hc => ?_) <;> simp -implicitDefEqProofs only [hc, ↓reduceIte, go_sem, Nat.reduceAdd, Nat.reduceSub, Nat.reduceMul, Nat.reduceBEq, Nat.reduceLeDiff, Nat.reduceLT, Nat.reduceEqDiff, reduceCtorEq, Int.reduceBEq, Int.reduceBNe, Int.reduceLT, Int.reduceLE, Int.reduceAdd, Int.reduceSub, Int.reduceMul, Int.reduceNeg, Int.reduceEq, Int.reduceToNat, r_right, at?]) | (refine split_no (fun hc => ?_) (fun hc => ?_) <;> simp -implicitDefEqProofs only [hc, ↓reduceIte, go_sem, Nat.reduceAdd, Nat.reduceSub, Nat.reduceMul, Nat.reduceBEq, Nat.reduceLeDiff, Nat.reduceLT, Nat.reduceEqDiff, reduceCtorEq, Int.reduceBEq, Int.reduceBNe, Int.reduceLT, Int.reduceLE, Int.reduceAdd, Int.reduceSub, Int.reduceMul, Int.reduceNeg, Int.reduceEq, Int.reduceToNat, r_right, at?]))
  rw [RL_eq]
  simp -implicitDefEqProofs only [↓reduceIte, go_sem, Nat.reduceAdd, Nat.reduceSub, Nat.reduceMul, Nat.reduceBEq, Nat.reduceLeDiff, Nat.reduceLT, Nat.reduceEqDiff, reduceCtorEq, Int.reduceBEq, Int.reduceBNe, Int.reduceLT, Int.reduceLE, Int.reduceAdd, Int.reduceSub, Int.reduceMul, Int.reduceNeg, Int.reduceEq, Int.reduceToNat, r_right, at?]
  repeat' (first | (refine split_cond (fun hc => ?_) (fun hc => ?_) <;> simp -implicitDefEqProofs only [hc, ↓reduceIte, go_sem, Nat.reduceAdd, Nat.reduceSub, Nat.reduceMul, Nat.reduceBEq, Nat.reduceLeDiff, Nat.reduceLT, Nat.reduceEqDiff, reduceCtorEq, Int.reduceBEq, Int.reduceBNe, Int.reduceLT, Int.reduceLE, Int.reduceAdd, Int.reduceSub, Int.reduceMul, Int.reduceNeg, Int.reduceEq, Int.reduceToNat, r_right, at?]) | (refine split_yes (fun hc => ?_) (fun hc => ?_) <;> simp -implicitDefEqProofs only [hc, ↓reduceIte, go_sem, Nat.reduceAdd, Nat.reduceSub, Nat.reduceMul, Nat.reduceBEq, Nat.reduceLeDiff, Nat.reduceLT, Nat.reduceEqDiff, reduceCtorEq, Int.reduceBEq, Int.reduceBNe, Int.reduceLT, Int.reduceLE, Int.reduceAdd, Int.reduceSub, Int.reduceMul, Int.reduceNeg, Int.reduceEq, Int.reduceToNat, r_right, at?]) | (refine split_no (fun hc => ?_) (fun hc => ?_) <;> simp -implicitDefEqProofs only [hc, ↓reduceIte, go_sem, Nat.reduceAdd, Nat.reduceSub, Nat.reduceMul, Nat.reduceBEq, Nat.reduceLeDiff, Nat.reduceLT, Nat.reduceEqDiff, reduceCtorEq, Int.reduceBEq, Int.reduceBNe, Int.reduceLT, Int.reduceLE, Int.reduceAdd, Int.reduceSub, Int.reduceMul, Int.reduceNeg, Int.reduceEq, Int.reduceToNat, r_right, at?]))
  rw [RL_eq]
  simp -implicitDefEqProofs only [↓reduceIte, go_sem, Nat.reduceAdd, Nat.reduceSub, Nat.reduceMul, Nat.reduceBEq, Nat.reduceLeDiff, Nat.reduceLT, Nat.reduceEqDiff, reduceCtorEq, Int.reduceBEq, Int.reduceBNe, Int.reduceLT, Int.reduceLE, Int.reduceAdd, Int.reduceSub, Int.reduceMul, Int.reduceNeg, Int.reduceEq, Int.reduceToNat, r_right, at?, r_third, r_fromThird, r_Compared, r_Truth, r_alike]
  repeat' (first | (refine split_cond (fun hc => ?_) (fun hc => ?_) <;> simp -implicitDefEqProofs only [hc, ↓reduceIte, go_sem, Nat.reduceAdd, Nat.reduceSub, Nat.reduceMul, Nat.reduceBEq, Nat.reduceLeDiff, Nat.reduceLT, Nat.reduceEqDiff, reduceCtorEq, Int.reduceBEq, Int.reduceBNe, Int.reduceLT, Int.reduceLE, Int.reduceAdd, Int.reduceSub, Int.reduceMul, Int.reduceNeg, Int.reduceEq, Int.reduceToNat, r_right, at?, r_third, r_fromThird, r_Compared, r_Truth, r_alike]) | (refine split_yes (fun hc => ?_) (fun hc => ?_) <;> simp -implicitDefEqProofs only [hc, ↓reduceIte, go_sem, Nat.reduceAdd, Nat.reduceSub, Nat.reduceMul, Nat.reduceBEq, Nat.reduceLeDiff, Nat.reduceLT, Nat.reduceEqDiff, reduceCtorEq, Int.reduceBEq, Int.reduceBNe, Int.reduceLT, Int.reduceLE, Int.reduceAdd, Int.reduceSub, Int.reduceMul, Int.reduceNeg, Int.reduceEq, Int.reduceToNat, r_right, at?, r_third, r_fromThird, r_Compared, r_Truth, r_alike]) | (refine split_no (fun hc => ?_) (fun hc => ?_) <;> simp -implicitDefEqProofs only [hc, ↓reduceIte, go_sem, Nat.reduceAdd, Nat.reduceSub, Nat.reduceMul, Nat.reduceBEq, Nat.reduceLeDiff, Nat.reduceLT, Nat.reduceEqDiff, reduceCtorEq, Int.reduceBEq, Int.reduceBNe, Int.reduceLT, Int.reduceLE, Int.reduceAdd, Int.reduceSub, Int.reduceMul, Int.reduceNeg, Int.reduceEq, Int.reduceToNat, r_right, at?, r_third, r_fromThird, r_Compared, r_Truth, r_alike]))
  all_goals simp_all [null]
end Go.Ab
namespace Go.Ab
open Go Go.Proofs
set_option maxRecDepth 100000

theorem r_values : R K (.call 15 [] []) = some (.bool true, []) := R_of_runN (n := 30000) (by kernel_rfl)

theorem boolV_ne : boolV true ≠ boolV false := by decide
theorem tri_cases (v : Val) : (v = boolV true ∧ tri v = 2) ∨ (v = boolV false ∧ tri v = 0) ∨ (v ≠ boolV true ∧ v ≠ boolV false ∧ tri v = 1) := by
  unfold tri
  by_cases h1 : v = boolV true
  · exact .inl ⟨h1, by rw [if_pos h1]⟩
  · by_cases h2 : v = boolV false
    · exact .inr (.inl ⟨h2, by rw [if_neg h1, if_pos h2]⟩)
    · exact .inr (.inr ⟨h1, h2, by rw [if_neg h1, if_neg h2]⟩)
theorem plain_bool (b : Bool) : plainV (boolV b) = boolV b := by cases b <;> rfl
theorem plain_or (v : Val) : plainV v = v ∨ plainV v = null := by
  unfold plainV
  split
  · exact .inl rfl
  · exact .inr rfl
theorem tri_plain (v : Val) : tri (plainV v) = tri v := by
  rcases tri_cases v with ⟨h, _⟩ | ⟨h, _⟩ | ⟨h1, h2, h3⟩
  · rw [h, plain_bool]
  · rw [h, plain_bool]
  · rcases plain_or v with h | h
    · rw [h]
    · rw [h, h3]; rfl
theorem not_law (a : Val) : notS a = fromTri (2 - tri (plainV a)) := by
  rw [tri_plain]
  rcases tri_cases a with ⟨h, ht⟩ | ⟨h, ht⟩ | ⟨h1, h2, ht⟩
  · subst h; rfl
  · subst h; rfl
  · rw [ht]; simp [notS, isS, h1, h2, fromTri]
theorem and_law (a b : Val) : andS a b = fromTri (if tri (plainV b) < tri (plainV a) then tri (plainV b) else tri (plainV a)) := by
  rw [tri_plain, tri_plain]
  rcases tri_cases a with ⟨h, ht⟩ | ⟨h, ht⟩ | ⟨h1, h2, ht⟩ <;> rcases tri_cases b with ⟨g, gt⟩ | ⟨g, gt⟩ | ⟨g1, g2, gt⟩ <;> rw [ht, gt]
  · subst h g; rfl
  · subst h g; rfl
  · subst h; simp [andS, isS, g1, g2, fromTri, boolV_ne]
  · subst h g; rfl
  · subst h g; rfl
  · subst h; simp [andS, isS, fromTri]
  · subst g; simp [andS, isS, h1, h2, fromTri, boolV_ne]
  · subst g; simp [andS, isS, fromTri]
  · simp [andS, isS, h1, h2, g1, g2, fromTri]
theorem or_law (a b : Val) : orS a b = fromTri (if tri (plainV a) < tri (plainV b) then tri (plainV b) else tri (plainV a)) := by
  rw [tri_plain, tri_plain]
  have hn : ∀ v : Val, v ≠ boolV true → v ≠ boolV false → notS v = null := fun v h1 h2 => by simp [notS, isS, h1, h2]
  rcases tri_cases a with ⟨h, ht⟩ | ⟨h, ht⟩ | ⟨h1, h2, ht⟩ <;> rcases tri_cases b with ⟨g, gt⟩ | ⟨g, gt⟩ | ⟨g1, g2, gt⟩ <;> rw [ht, gt] <;> unfold orS
  · subst h g; rfl
  · subst h g; rfl
  · subst h; rw [hn b g1 g2]; rfl
  · subst h g; rfl
  · subst h g; rfl
  · subst h; rw [hn b g1 g2]; rfl
  · subst g; rw [hn a h1 h2]; rfl
  · subst g; rw [hn a h1 h2]; rfl
  · rw [hn a h1 h2, hn b g1 g2]; rfl

theorem cmpI_zero (a b : Int) : cmpI a b = 0 ↔ a = b := by unfold cmpI; split <;> (try split) <;> omega
theorem compareBytes_zero : ∀ a b : List UInt8, Lib.compareBytes a b = 0 ↔ a = b
  | [], [] => by simp [Lib.compareBytes]
  | [], _ :: _ => by simp [Lib.compareBytes]
  | _ :: _, [] => by simp [Lib.compareBytes]
  | a :: x, b :: y => by
    simp only [Lib.compareBytes, List.cons.injEq]
    split
    · rename_i h
      constructor
      · intro e; cases e
      · rintro ⟨rfl, _⟩; exact absurd h (by simp)
    · split
      · rename_i h
        constructor
        · intro e; cases e
        · rintro ⟨rfl, _⟩; exact absurd h (by simp)
      · rename_i h1 h2
        rw [compareBytes_zero x y]
        have : a = b := by
          apply UInt8.toNat_inj.1
          have h1' : ¬ a.toNat < b.toNat := fun h => h1 (UInt8.lt_iff_toNat_lt.2 h)
          have h2' : ¬ b.toNat < a.toNat := fun h => h2 (UInt8.lt_iff_toNat_lt.2 h)
          omega
        simp [this]
theorem compareBytes_eq : ∀ a b : List UInt8, Lib.compareBytes a b = cmpB a b
  | [], [] => rfl
  | [], _ :: _ => by simp [Lib.compareBytes, cmpB, Op.bytesLess]
  | _ :: _, [] => by simp [Lib.compareBytes, cmpB, Op.bytesLess]
  | a :: x, b :: y => by
    have ih := compareBytes_eq x y
    simp only [Lib.compareBytes, cmpB, Op.bytesLess] at ih ⊢
    by_cases h1 : a < b
    · simp [h1]
    · by_cases h2 : b < a
      · have h3 : a ≠ b := by rintro rfl; exact absurd h2 (by simp)
        simp [h1, h2, h3]
      · have : a = b := by
          apply UInt8.toNat_inj.1
          have h1' : ¬ a.toNat < b.toNat := fun h => h1 (UInt8.lt_iff_toNat_lt.2 h)
          have h2' : ¬ b.toNat < a.toNat := fun h => h2 (UInt8.lt_iff_toNat_lt.2 h)
          omega
        subst this
        simp [ih]
theorem compared_plain (a b : Val) : comparedS (plainV a) (plainV b) = comparedS a b := by unfold comparedS; rw [plain_plain, plain_plain]
theorem val_ext {a b : Val} (h1 : a.k = b.k) (h2 : a.n = b.n) (h3 : a.s = b.s) : a = b := by cases a; cases b; simp_all
theorem compared_zero (a b : Val) : comparedS a b = 0 ↔ plainV a = plainV b := by
  obtain ⟨_, _, _, a4, _, _, a7, _⟩ := right_bounds a
  obtain ⟨_, _, _, b4, _, _, b7, _⟩ := right_bounds b
  unfold comparedS
  constructor
  · intro h
    split at h
    · rename_i hk; exact absurd h hk
    · rename_i hk
      have hk' : (plainV a).k = (plainV b).k := (cmpI_zero _ _).1 (by simpa using hk)
      split at h
      · rename_i h3
        exact val_ext hk' (by rw [a7 h3, b7 (by rw [← hk']; exact h3)]) ((compareBytes_zero _ _).1 h)
      · rename_i h3
        exact val_ext hk' ((cmpI_zero _ _).1 h) (by rw [a4 h3, b4 (by rw [← hk']; exact h3)])
  · intro h
    rw [h]
    have h1 : cmpI (plainV b).k (plainV b).k = 0 := (cmpI_zero _ _).2 rfl
    have h2 : cmpI (plainV b).n (plainV b).n = 0 := (cmpI_zero _ _).2 rfl
    have h3 : Lib.compareBytes (plainV b).s (plainV b).s = 0 := (compareBytes_zero _ _).2 rfl
    simp [h1, h2, h3]
theorem same_law (a b : Val) : sameS a b = boolV (comparedS (plainV a) (plainV b) == 0) := by
  unfold sameS
  congr 1
  rw [Bool.eq_iff_iff, compared_plain]
  simp [compared_zero]
theorem plain_full {v : Val} (h : (plainV v).k ≠ 0) : plainV v = v := by
  rcases plain_or v with h' | h'
  · exact h'
  · rw [h'] at h; exact absurd rfl h
theorem cmp_alike (a b : Val) : cmpS a b = alikeB (plainV a) (plainV b) := by
  simp only [cmpS, alikeB, Bool.and_comm]
theorem equal_law (a b : Val) : equalS a b = if alikeB (plainV a) (plainV b) = true then boolV (comparedS (plainV a) (plainV b) == 0) else null := by
  unfold equalS
  rw [cmp_alike]
  split
  · rename_i h
    simp only [alikeB, Bool.and_eq_true, beq_iff_eq, bne_iff_ne, ne_eq] at h
    have ha := plain_full h.2
    have hb := plain_full (v := b) (by rw [← h.1]; exact h.2)
    congr 1
    rw [Bool.eq_iff_iff, compared_plain]
    simp only [decide_eq_true_eq, beq_iff_eq, compared_zero, ha, hb]
  · rfl
theorem less_law (a b : Val) : lessS a b = if alikeB (plainV a) (plainV b) = true then boolV (decide (comparedS (plainV a) (plainV b) < 0)) else null := by
  unfold lessS
  rw [cmp_alike]
  split
  · rename_i h
    simp only [alikeB, Bool.and_eq_true, beq_iff_eq, bne_iff_ne, ne_eq] at h
    have ha := plain_full h.2
    have hb := plain_full (v := b) (by rw [← h.1]; exact h.2)
    obtain ⟨_, _, _, a4, _, _, a7, _⟩ := right_bounds a
    obtain ⟨_, _, _, b4, _, _, b7, _⟩ := right_bounds b
    have hk : a.k = b.k := by rw [← ha, ← hb]; exact h.1
    rw [ha] at a4 a7
    rw [hb] at b4 b7
    rw [compared_plain]
    unfold comparedS orderS
    rw [ha, hb]
    have h1 : cmpI a.k b.k = 0 := (cmpI_zero _ _).2 hk
    simp only [h1, firstN, ne_eq, not_true_eq_false, if_false]
    by_cases h3 : a.k = 3
    · have hn : cmpI a.n b.n = 0 := (cmpI_zero _ _).2 (by rw [a7 h3, b7 (by rw [← hk]; exact h3)])
      simp only [hn, h3, compareBytes_eq, if_true, not_true_eq_false, if_false]
      split
      · rfl
      · rename_i h5; rw [show cmpB a.s b.s = 0 by simpa using h5]
    · have hs : cmpB a.s b.s = 0 := by rw [a4 h3, b4 (by rw [← hk]; exact h3)]; rfl
      simp only [hs, h3, if_false, not_true_eq_false]
      split
      · rfl
      · rename_i h5; rw [show cmpI a.n b.n = 0 by simpa using h5]
  · rfl
end Go.Ab
namespace Go.Ab
open Go Go.Proofs
set_option maxRecDepth 100000

theorem o1 (n k1 n1 : Int) (s1 : List UInt8) (k2 n2 : Int) (s2 : List UInt8) : R K (.call 21 [.int .i64 1, .int .i64 n, .rows [[.int .i64 k1, .int .i64 n1, .str s1], [.int .i64 k2, .int .i64 n2, .str s2]]] []) = some (enc (notS ⟨k1, n1, s1⟩), []) := by
  rw [r_Oper1, ← not_law]
theorem o2 (n k1 n1 : Int) (s1 : List UInt8) (k2 n2 : Int) (s2 : List UInt8) : R K (.call 21 [.int .i64 2, .int .i64 n, .rows [[.int .i64 k1, .int .i64 n1, .str s1], [.int .i64 k2, .int .i64 n2, .str s2]]] []) = some (enc (andS ⟨k1, n1, s1⟩ ⟨k2, n2, s2⟩), []) := by
  rw [r_Oper2, ← and_law]
theorem o3 (n k1 n1 : Int) (s1 : List UInt8) (k2 n2 : Int) (s2 : List UInt8) : R K (.call 21 [.int .i64 3, .int .i64 n, .rows [[.int .i64 k1, .int .i64 n1, .str s1], [.int .i64 k2, .int .i64 n2, .str s2]]] []) = some (enc (orS ⟨k1, n1, s1⟩ ⟨k2, n2, s2⟩), []) := by
  rw [r_Oper3, ← or_law]
theorem o10 (n k1 n1 : Int) (s1 : List UInt8) (k2 n2 : Int) (s2 : List UInt8) : R K (.call 21 [.int .i64 10, .int .i64 n, .rows [[.int .i64 k1, .int .i64 n1, .str s1], [.int .i64 k2, .int .i64 n2, .str s2]]] []) = some (enc (sameS ⟨k1, n1, s1⟩ ⟨k2, n2, s2⟩), []) := by
  rw [r_Oper10, ← same_law]
theorem o4 (n k1 n1 : Int) (s1 : List UInt8) (k2 n2 : Int) (s2 : List UInt8) : R K (.call 21 [.int .i64 4, .int .i64 n, .rows [[.int .i64 k1, .int .i64 n1, .str s1], [.int .i64 k2, .int .i64 n2, .str s2]]] []) = some (enc (equalS ⟨k1, n1, s1⟩ ⟨k2, n2, s2⟩), []) := by
  rw [r_Oper4, ← equal_law]
theorem o6 (n k1 n1 : Int) (s1 : List UInt8) (k2 n2 : Int) (s2 : List UInt8) : R K (.call 21 [.int .i64 6, .int .i64 n, .rows [[.int .i64 k1, .int .i64 n1, .str s1], [.int .i64 k2, .int .i64 n2, .str s2]]] []) = some (enc (lessS ⟨k1, n1, s1⟩ ⟨k2, n2, s2⟩), []) := by
  rw [r_Oper6, ← less_law]
theorem logic_of (k n : Int) (s : List UInt8) (k' n' : Int) (s' : List UInt8) (x1 x2 x3 x4 x6 x10 : Val) (h1 : R K (.call 20 [V k n s] []) = some (enc x1, [])) (g1 : ∀ m : Int, R K (.call 21 [.int .i64 1, .int .i64 m, .rows [[.int .i64 k, .int .i64 n, .str s], [.int .i64 k', .int .i64 n', .str s']]] []) = some (enc x1, [])) (h2 : R K (.call 22 [V k n s, V k' n' s'] []) = some (enc x2, [])) (g2 : ∀ m : Int, R K (.call 21 [.int .i64 2, .int .i64 m, .rows [[.int .i64 k, .int .i64 n, .str s], [.int .i64 k', .int .i64 n', .str s']]] []) = some (enc x2, [])) (h3 : R K (.call 23 [V k n s, V k' n' s'] []) = some (enc x3, [])) (g3 : ∀ m : Int, R K (.call 21 [.int .i64 3, .int .i64 m, .rows [[.int .i64 k, .int .i64 n, .str s], [.int .i64 k', .int .i64 n', .str s']]] []) = some (enc x3, [])) (h4 : R K (.call 24 [V k n s, V k' n' s'] []) = some (enc x4, [])) (g4 : ∀ m : Int, R K (.call 21 [.int .i64 4, .int .i64 m, .rows [[.int .i64 k, .int .i64 n, .str s], [.int .i64 k', .int .i64 n', .str s']]] []) = some (enc x4, [])) (h6 : R K (.call 25 [V k n s, V k' n' s'] []) = some (enc x6, [])) (g6 : ∀ m : Int, R K (.call 21 [.int .i64 6, .int .i64 m, .rows [[.int .i64 k, .int .i64 n, .str s], [.int .i64 k', .int .i64 n', .str s']]] []) = some (enc x6, [])) (h10 : R K (.call 26 [V k n s, V k' n' s'] []) = some (enc x10, [])) (g10 : ∀ m : Int, R K (.call 21 [.int .i64 10, .int .i64 m, .rows [[.int .i64 k, .int .i64 n, .str s], [.int .i64 k', .int .i64 n', .str s']]] []) = some (enc x10, [])) : R K (.call 5 [V k n s, V k' n' s'] []) = some (.bool true, []) := by
  rw [call_5]
  simp -implicitDefEqProofs only [↓reduceIte, go_sem, Nat.reduceAdd, Nat.reduceSub, Nat.reduceMul, Nat.reduceBEq, Nat.reduceLeDiff, Nat.reduceLT, Nat.reduceEqDiff, reduceCtorEq, Int.reduceBEq, Int.reduceBNe, Int.reduceLT, Int.reduceLE, Int.reduceAdd, Int.reduceSub, Int.reduceMul, Int.reduceNeg, Int.reduceEq, Int.reduceToNat, Tryz.f5, r_values, h1, g1, h2, g2, h3, g3, h4, g4, h6, g6, h10, g10, beq_self_eq_true]
  repeat' (first | (refine split_cond (fun hc => ?_) (fun hc => ?_) <;> simp -implicitDefEqProofs only [hc, ↓reduceIte, go_sem, Nat.reduceAdd, Nat.reduceSub, Nat.reduceMul, Nat.reduceBEq, Nat.reduceLeDiff, Nat.reduceLT, Nat.reduceEqDiff, reduceCtorEq, Int.reduceBEq, Int.reduceBNe, Int.reduceLT, Int.reduceLE, Int.reduceAdd, Int.reduceSub, Int.reduceMul, Int.reduceNeg, Int.reduceEq, Int.reduceToNat, r_values, h1, g1, h2, g2, h3, g3, h4, g4, h6, g6, h10, g10, beq_self_eq_true]) | (refine split_yes (fun hc => ?_) (fun hc => ?_) <;> simp -implicitDefEqProofs only [hc, ↓reduceIte, go_sem, Nat.reduceAdd, Nat.reduceSub, Nat.reduceMul, Nat.reduceBEq, Nat.reduceLeDiff, Nat.reduceLT, Nat.reduceEqDiff, reduceCtorEq, Int.reduceBEq, Int.reduceBNe, Int.reduceLT, Int.reduceLE, Int.reduceAdd, Int.reduceSub, Int.reduceMul, Int.reduceNeg, Int.reduceEq, Int.reduceToNat, r_values, h1, g1, h2, g2, h3, g3, h4, g4, h6, g6, h10, g10, beq_self_eq_true]) | (refine split_no (fun hc => ?_) (fun hc => ?_) <;> simp -implicitDefEqProofs only [hc, ↓reduceIte, go_sem, Nat.reduceAdd, Nat.reduceSub, Nat.reduceMul, Nat.reduceBEq, Nat.reduceLeDiff, Nat.reduceLT, Nat.reduceEqDiff, reduceCtorEq, Int.reduceBEq, Int.reduceBNe, Int.reduceLT, Int.reduceLE, Int.reduceAdd, Int.reduceSub, Int.reduceMul, Int.reduceNeg, Int.reduceEq, Int.reduceToNat, r_values, h1, g1, h2, g2, h3, g3, h4, g4, h6, g6, h10, g10, beq_self_eq_true]))
theorem law_logic (k n : Int) (s : List UInt8) (k' n' : Int) (s' : List UInt8) : R K (.call 5 [V k n s, V k' n' s'] []) = some (.bool true, []) :=
  logic_of k n s k' n' s' _ _ _ _ _ _ (c_Not k n s) (fun m => o1 m k n s k' n' s') (c_And k n s k' n' s') (fun m => o2 m k n s k' n' s') (c_Or k n s k' n' s') (fun m => o3 m k n s k' n' s') (c_Equal k n s k' n' s') (fun m => o4 m k n s k' n' s') (c_Less k n s k' n' s') (fun m => o6 m k n s k' n' s') (c_Same k n s k' n' s') (fun m => o10 m k n s k' n' s')
end Go.Ab
