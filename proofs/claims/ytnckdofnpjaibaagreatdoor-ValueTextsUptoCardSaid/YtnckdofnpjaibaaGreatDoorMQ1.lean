/- What is proved: contracts of the program's and the reference's functions in the evaluator, and plain laws on them. Conditions: as each states. -/
import Derived.Test.YtnckdofnpjaibaaGreatDoorMC
import Derived.IntWalk
import Derived.KernelRfl
import Derived.Lib.ItoaMem
import Derived.Lib.AtoiAllCases
import Derived.Lib.ItoaLen
import Derived.Lib.CountLaws
set_option linter.unusedSimpArgs false
set_option linter.unusedVariables false
set_option maxRecDepth 100000
namespace Go.Ab
open Go Go.Proofs
structure Val where
  k : Int
  n : Int
  s : List UInt8
  deriving DecidableEq
@[go_sem] def enc (v : Val) : AV := .agg [.int .i64 v.k, .int .i64 v.n, .str v.s]
@[go_sem] theorem Val.eta (v : Val) : Val.mk v.k v.n v.s = v := rfl
def null : Val := ⟨0, 0, []⟩
def loopOf : Code → Nat → Option Code
  | .seq a b, i => match loopOf a i with
    | some c => some c
    | none => loopOf b i
  | .cond _ a b, i => match loopOf a i with
    | some c => some c
    | none => loopOf b i
  | .block j c, i => if j = i then (match c with
    | .loop b => some b
    | _ => none) else loopOf c i
  | .loop c, i => loopOf c i
  | _, _ => none
def Loop (f : Func) (i : Nat) (B : Code) : Prop := loopOf (f.body.getD .skip) i = some B
@[go_sem] theorem wrap_id {n : Int} (h1 : -9223372036854775808 ≤ n) (h2 : n ≤ 9223372036854775807) : wrapI .i64 n = n := by
  exact IntWalk.i64_in _ ⟨h1, h2⟩
theorem at_get {α : Type} {l : List α} {i : Nat} {x : α} (h : l[i]? = some x) : at? l (i : Int) = some x := by
  simp [at?, h]
theorem byte_get {s : List UInt8} {i : Nat} {b : UInt8} (h : s[i]? = some b) : at? s (i : Int) = some b := at_get h
theorem drop_get {α : Type} {l : List α} {i : Nat} {x : α} (h : l[i]? = some x) : l.drop i = x :: l.drop (i + 1) := by
  obtain ⟨h1, h2⟩ := List.getElem?_eq_some_iff.1 h
  rw [List.drop_eq_getElem_cons h1, h2]
abbrev V (k n : Int) (s : List UInt8) : AV := .agg [.int .i64 k, .int .i64 n, .str s]
def rowV (v : Val) : List AV := [.int .i64 v.k, .int .i64 v.n, .str v.s]
def within (n a b : Int) : Bool := decide (a ≤ n) && decide (n ≤ b)
theorem c_within (n a b : Int) : R K (.call 74 [.int .i64 n, .int .i64 a, .int .i64 b] []) = some (.bool (within n a b), []) := by
  rw [call_74]
  simp -implicitDefEqProofs only [↓reduceIte, go_sem, Nat.reduceAdd, Nat.reduceSub, Nat.reduceMul, Nat.reduceBEq, Nat.reduceLeDiff, Nat.reduceLT, Nat.reduceEqDiff, reduceCtorEq, Int.reduceBEq, Int.reduceBNe, Int.reduceLT, Int.reduceLE, Int.reduceAdd, Int.reduceSub, Int.reduceMul, Int.reduceNeg, Int.reduceEq, Int.reduceToNat, Tryz.f74]
  repeat' ((first | refine split_cond (fun hc => ?_) (fun hc => ?_) | refine split_yes (fun hc => ?_) (fun hc => ?_) | refine split_no (fun hc => ?_) (fun hc => ?_)) <;> simp -implicitDefEqProofs only [hc, ↓reduceIte, go_sem, Nat.reduceAdd, Nat.reduceSub, Nat.reduceMul, Nat.reduceBEq, Nat.reduceLeDiff, Nat.reduceLT, Nat.reduceEqDiff, reduceCtorEq, Int.reduceBEq, Int.reduceBNe, Int.reduceLT, Int.reduceLE, Int.reduceAdd, Int.reduceSub, Int.reduceMul, Int.reduceNeg, Int.reduceEq, Int.reduceToNat])
  all_goals simp [within, *]
theorem r_within (n a b : Int) : R K (.call 75 [.int .i64 n, .int .i64 a, .int .i64 b] []) = some (.bool (within n a b), []) := by
  rw [call_75]
  simp -implicitDefEqProofs only [↓reduceIte, go_sem, Nat.reduceAdd, Nat.reduceSub, Nat.reduceMul, Nat.reduceBEq, Nat.reduceLeDiff, Nat.reduceLT, Nat.reduceEqDiff, reduceCtorEq, Int.reduceBEq, Int.reduceBNe, Int.reduceLT, Int.reduceLE, Int.reduceAdd, Int.reduceSub, Int.reduceMul, Int.reduceNeg, Int.reduceEq, Int.reduceToNat, Tryz.f75]
  repeat' ((first | refine split_cond (fun hc => ?_) (fun hc => ?_) | refine split_yes (fun hc => ?_) (fun hc => ?_) | refine split_no (fun hc => ?_) (fun hc => ?_)) <;> simp -implicitDefEqProofs only [hc, ↓reduceIte, go_sem, Nat.reduceAdd, Nat.reduceSub, Nat.reduceMul, Nat.reduceBEq, Nat.reduceLeDiff, Nat.reduceLT, Nat.reduceEqDiff, reduceCtorEq, Int.reduceBEq, Int.reduceBNe, Int.reduceLT, Int.reduceLE, Int.reduceAdd, Int.reduceSub, Int.reduceMul, Int.reduceNeg, Int.reduceEq, Int.reduceToNat])
  all_goals simp [within, *]
def formS (v : Val) : Bool := if v.k = 0 then v.n == 0 && v.s == [] else if v.k = 3 then v.n == 0 else within v.k 1 4 && v.s == []
theorem c_form (k n : Int) (s : List UInt8) : R K (.call 119 [V k n s] []) = some (.bool (formS ⟨k, n, s⟩), []) := by
  rw [call_119]
  simp -implicitDefEqProofs only [↓reduceIte, go_sem, Nat.reduceAdd, Nat.reduceSub, Nat.reduceMul, Nat.reduceBEq, Nat.reduceLeDiff, Nat.reduceLT, Nat.reduceEqDiff, reduceCtorEq, Int.reduceBEq, Int.reduceBNe, Int.reduceLT, Int.reduceLE, Int.reduceAdd, Int.reduceSub, Int.reduceMul, Int.reduceNeg, Int.reduceEq, Int.reduceToNat, Tryz.f119, c_within]
  repeat' ((first | refine split_cond (fun hc => ?_) (fun hc => ?_) | refine split_yes (fun hc => ?_) (fun hc => ?_) | refine split_no (fun hc => ?_) (fun hc => ?_)) <;> simp -implicitDefEqProofs only [hc, ↓reduceIte, go_sem, Nat.reduceAdd, Nat.reduceSub, Nat.reduceMul, Nat.reduceBEq, Nat.reduceLeDiff, Nat.reduceLT, Nat.reduceEqDiff, reduceCtorEq, Int.reduceBEq, Int.reduceBNe, Int.reduceLT, Int.reduceLE, Int.reduceAdd, Int.reduceSub, Int.reduceMul, Int.reduceNeg, Int.reduceEq, Int.reduceToNat, c_within])
  all_goals simp_all [formS]
def ok7 (s : List UInt8) : Bool := s.all fun c => decide (32 ≤ c.toNat) && decide (c.toNat ≤ 126)
theorem ok7_cons (b : UInt8) (s : List UInt8) : ok7 (b :: s) = (decide (32 ≤ b.toNat) && decide (b.toNat ≤ 126) && ok7 s) := by simp [ok7]
theorem l_range (k n : Int) (s : List UInt8) (hs : s.length ≤ 100) (ks : List It) : ∀ (m i : Nat) (j : Int) (B : Code), Loop Tryz.f120 1 B → j = (i : Int) → s.length = i + m →
   RL K (.run 120 0 (.code B :: .lp B (some ([1, 23, 24], [])) 1 :: .blk 1 1 :: ks) [(1, .ptr 0 0), (23, .int .i64 s.length), (24, .int .i64 j)] [.cells [.int .i64 k, .int .i64 n, .str s]]) =
   if ok7 (s.drop i) = true then R K (.run 120 0 ks [] [.cells [.int .i64 k, .int .i64 n, .str s]]) else some (.bool false, [])
  | 0, i, j, B, hB, hj, hm => by
    subst hj
    have h1 : ¬ ((i : Int) < (s.length : Int)) := by omega
    unfold Loop at hB
    simp -implicitDefEqProofs only [↓reduceIte, go_sem, Nat.reduceAdd, Nat.reduceSub, Nat.reduceMul, Nat.reduceBEq, Nat.reduceLeDiff, Nat.reduceLT, Nat.reduceEqDiff, reduceCtorEq, Int.reduceBEq, Int.reduceBNe, Int.reduceLT, Int.reduceLE, Int.reduceAdd, Int.reduceSub, Int.reduceMul, Int.reduceNeg, Int.reduceEq, Int.reduceToNat, Tryz.f120, loopOf] at hB
    subst hB
    rw [RL_eq]
    simp -implicitDefEqProofs only [↓reduceIte, go_sem, Nat.reduceAdd, Nat.reduceSub, Nat.reduceMul, Nat.reduceBEq, Nat.reduceLeDiff, Nat.reduceLT, Nat.reduceEqDiff, reduceCtorEq, Int.reduceBEq, Int.reduceBNe, Int.reduceLT, Int.reduceLE, Int.reduceAdd, Int.reduceSub, Int.reduceMul, Int.reduceNeg, Int.reduceEq, Int.reduceToNat, h1]
    repeat' ((first | refine split_cond (fun hc => ?_) (fun hc => ?_) | refine split_yes (fun hc => ?_) (fun hc => ?_) | refine split_no (fun hc => ?_) (fun hc => ?_)) <;> simp -implicitDefEqProofs only [hc, ↓reduceIte, go_sem, Nat.reduceAdd, Nat.reduceSub, Nat.reduceMul, Nat.reduceBEq, Nat.reduceLeDiff, Nat.reduceLT, Nat.reduceEqDiff, reduceCtorEq, Int.reduceBEq, Int.reduceBNe, Int.reduceLT, Int.reduceLE, Int.reduceAdd, Int.reduceSub, Int.reduceMul, Int.reduceNeg, Int.reduceEq, Int.reduceToNat, h1])
    rw [List.drop_of_length_le (by omega)]
    rfl
  | m + 1, i, j, B, hB, hj, hm => by
    subst hj
    have h1 : ((i : Int) < (s.length : Int)) := by omega
    have hB' := hB
    obtain ⟨b, hb⟩ : ∃ b, s[i]? = some b := ⟨s[i]'(by omega), List.getElem?_eq_getElem _⟩
    have hg := byte_get hb
    have hw : wrapI .i64 ((i : Int) + 1) = ((i + 1 : Nat) : Int) := by rw [wrap_id (by omega) (by omega)]; rfl
    unfold Loop at hB
    simp -implicitDefEqProofs only [↓reduceIte, go_sem, Nat.reduceAdd, Nat.reduceSub, Nat.reduceMul, Nat.reduceBEq, Nat.reduceLeDiff, Nat.reduceLT, Nat.reduceEqDiff, reduceCtorEq, Int.reduceBEq, Int.reduceBNe, Int.reduceLT, Int.reduceLE, Int.reduceAdd, Int.reduceSub, Int.reduceMul, Int.reduceNeg, Int.reduceEq, Int.reduceToNat, Tryz.f120, loopOf] at hB
    subst hB
    rw [RL_eq]
    rw [drop_get hb]
    have ih := l_range k n s hs ks m (i + 1) _ _ hB' rfl (by omega)
    simp -implicitDefEqProofs only [↓reduceIte, go_sem, Nat.reduceAdd, Nat.reduceSub, Nat.reduceMul, Nat.reduceBEq, Nat.reduceLeDiff, Nat.reduceLT, Nat.reduceEqDiff, reduceCtorEq, Int.reduceBEq, Int.reduceBNe, Int.reduceLT, Int.reduceLE, Int.reduceAdd, Int.reduceSub, Int.reduceMul, Int.reduceNeg, Int.reduceEq, Int.reduceToNat, h1, hg, hw]
    repeat' ((first | refine split_cond (fun hc => ?_) (fun hc => ?_) | refine split_yes (fun hc => ?_) (fun hc => ?_) | refine split_no (fun hc => ?_) (fun hc => ?_)) <;> simp -implicitDefEqProofs only [hc, ↓reduceIte, go_sem, Nat.reduceAdd, Nat.reduceSub, Nat.reduceMul, Nat.reduceBEq, Nat.reduceLeDiff, Nat.reduceLT, Nat.reduceEqDiff, reduceCtorEq, Int.reduceBEq, Int.reduceBNe, Int.reduceLT, Int.reduceLE, Int.reduceAdd, Int.reduceSub, Int.reduceMul, Int.reduceNeg, Int.reduceEq, Int.reduceToNat, h1, hg, hw])
    all_goals simp only [decide_eq_true_eq, decide_eq_false_iff_not] at *
    · have : ok7 (b :: s.drop (i + 1)) = false := by simp [ok7_cons]; omega
      simp [this]
    · have : ok7 (b :: s.drop (i + 1)) = false := by simp [ok7_cons]; omega
      simp [this]
    · have : ok7 (b :: s.drop (i + 1)) = ok7 (s.drop (i + 1)) := by
        have : 32 ≤ b.toNat ∧ b.toNat ≤ 126 := by omega
        simp [ok7_cons, this]
      rw [this, ih]
def rangeS (v : Val) : Bool := if v.k = 1 then within v.n 0 1 else if v.k = 2 then within v.n (-999999999999999) 999999999999999 else if v.k = 4 then within v.n 0 253402300799 else ok7 v.s
theorem c_range (k n : Int) (s : List UInt8) (hs : s.length ≤ 100) : R K (.call 120 [V k n s] []) = some (.bool (rangeS ⟨k, n, s⟩), []) := by
  rw [call_120]
  simp -implicitDefEqProofs only [↓reduceIte, go_sem, Nat.reduceAdd, Nat.reduceSub, Nat.reduceMul, Nat.reduceBEq, Nat.reduceLeDiff, Nat.reduceLT, Nat.reduceEqDiff, reduceCtorEq, Int.reduceBEq, Int.reduceBNe, Int.reduceLT, Int.reduceLE, Int.reduceAdd, Int.reduceSub, Int.reduceMul, Int.reduceNeg, Int.reduceEq, Int.reduceToNat, Tryz.f120, c_within]
  repeat' ((first | refine split_cond (fun hc => ?_) (fun hc => ?_) | refine split_yes (fun hc => ?_) (fun hc => ?_) | refine split_no (fun hc => ?_) (fun hc => ?_)) <;> simp -implicitDefEqProofs only [hc, ↓reduceIte, go_sem, Nat.reduceAdd, Nat.reduceSub, Nat.reduceMul, Nat.reduceBEq, Nat.reduceLeDiff, Nat.reduceLT, Nat.reduceEqDiff, reduceCtorEq, Int.reduceBEq, Int.reduceBNe, Int.reduceLT, Int.reduceLE, Int.reduceAdd, Int.reduceSub, Int.reduceMul, Int.reduceNeg, Int.reduceEq, Int.reduceToNat, c_within])
  · simp_all [rangeS]
  · simp_all [rangeS]
  · simp_all [rangeS]
  · rw [l_range k n s hs _ s.length 0 0 _ ?_ rfl (by omega), List.drop_zero]
    · split
      · simp -implicitDefEqProofs only [↓reduceIte, go_sem, Nat.reduceAdd, Nat.reduceSub, Nat.reduceMul, Nat.reduceBEq, Nat.reduceLeDiff, Nat.reduceLT, Nat.reduceEqDiff, reduceCtorEq, Int.reduceBEq, Int.reduceBNe, Int.reduceLT, Int.reduceLE, Int.reduceAdd, Int.reduceSub, Int.reduceMul, Int.reduceNeg, Int.reduceEq, Int.reduceToNat]
        repeat' ((first | refine split_cond (fun hc => ?_) (fun hc => ?_) | refine split_yes (fun hc => ?_) (fun hc => ?_) | refine split_no (fun hc => ?_) (fun hc => ?_)) <;> simp -implicitDefEqProofs only [hc, ↓reduceIte, go_sem, Nat.reduceAdd, Nat.reduceSub, Nat.reduceMul, Nat.reduceBEq, Nat.reduceLeDiff, Nat.reduceLT, Nat.reduceEqDiff, reduceCtorEq, Int.reduceBEq, Int.reduceBNe, Int.reduceLT, Int.reduceLE, Int.reduceAdd, Int.reduceSub, Int.reduceMul, Int.reduceNeg, Int.reduceEq, Int.reduceToNat])
        simp_all [rangeS]
      · simp_all [rangeS]
    · rfl
def rightS (v : Val) : Bool := formS v && (decide (v.s.length ≤ 100) && rangeS v)
theorem c_right (k n : Int) (s : List UInt8) : R K (.call 55 [V k n s] []) = some (.bool (rightS ⟨k, n, s⟩), []) := by
  by_cases hs : s.length ≤ 100
  · have hs' : (s.length : Int) ≤ 100 := by omega
    rw [call_55]
    simp -implicitDefEqProofs only [↓reduceIte, go_sem, Nat.reduceAdd, Nat.reduceSub, Nat.reduceMul, Nat.reduceBEq, Nat.reduceLeDiff, Nat.reduceLT, Nat.reduceEqDiff, reduceCtorEq, Int.reduceBEq, Int.reduceBNe, Int.reduceLT, Int.reduceLE, Int.reduceAdd, Int.reduceSub, Int.reduceMul, Int.reduceNeg, Int.reduceEq, Int.reduceToNat, Tryz.f55, c_form, c_range k n s hs, hs']
    repeat' ((first | refine split_cond (fun hc => ?_) (fun hc => ?_) | refine split_yes (fun hc => ?_) (fun hc => ?_) | refine split_no (fun hc => ?_) (fun hc => ?_)) <;> simp -implicitDefEqProofs only [hc, ↓reduceIte, go_sem, Nat.reduceAdd, Nat.reduceSub, Nat.reduceMul, Nat.reduceBEq, Nat.reduceLeDiff, Nat.reduceLT, Nat.reduceEqDiff, reduceCtorEq, Int.reduceBEq, Int.reduceBNe, Int.reduceLT, Int.reduceLE, Int.reduceAdd, Int.reduceSub, Int.reduceMul, Int.reduceNeg, Int.reduceEq, Int.reduceToNat, c_form, c_range k n s hs, hs'])
    all_goals simp_all [rightS] <;> omega
  · have hs' : ¬ (s.length : Int) ≤ 100 := by omega
    rw [call_55]
    simp -implicitDefEqProofs only [↓reduceIte, go_sem, Nat.reduceAdd, Nat.reduceSub, Nat.reduceMul, Nat.reduceBEq, Nat.reduceLeDiff, Nat.reduceLT, Nat.reduceEqDiff, reduceCtorEq, Int.reduceBEq, Int.reduceBNe, Int.reduceLT, Int.reduceLE, Int.reduceAdd, Int.reduceSub, Int.reduceMul, Int.reduceNeg, Int.reduceEq, Int.reduceToNat, Tryz.f55, c_form, hs']
    repeat' ((first | refine split_cond (fun hc => ?_) (fun hc => ?_) | refine split_yes (fun hc => ?_) (fun hc => ?_) | refine split_no (fun hc => ?_) (fun hc => ?_)) <;> simp -implicitDefEqProofs only [hc, ↓reduceIte, go_sem, Nat.reduceAdd, Nat.reduceSub, Nat.reduceMul, Nat.reduceBEq, Nat.reduceLeDiff, Nat.reduceLT, Nat.reduceEqDiff, reduceCtorEq, Int.reduceBEq, Int.reduceBNe, Int.reduceLT, Int.reduceLE, Int.reduceAdd, Int.reduceSub, Int.reduceMul, Int.reduceNeg, Int.reduceEq, Int.reduceToNat, c_form, hs'])
    all_goals simp_all [rightS] <;> omega
def plainV (v : Val) : Val := if rightS v = true then v else null
theorem c_plain (k n : Int) (s : List UInt8) : R K (.call 57 [V k n s] []) = some (enc (plainV ⟨k, n, s⟩), []) := by
  rw [call_57]
  simp -implicitDefEqProofs only [↓reduceIte, go_sem, Nat.reduceAdd, Nat.reduceSub, Nat.reduceMul, Nat.reduceBEq, Nat.reduceLeDiff, Nat.reduceLT, Nat.reduceEqDiff, reduceCtorEq, Int.reduceBEq, Int.reduceBNe, Int.reduceLT, Int.reduceLE, Int.reduceAdd, Int.reduceSub, Int.reduceMul, Int.reduceNeg, Int.reduceEq, Int.reduceToNat, Tryz.f57, c_right]
  repeat' ((first | refine split_cond (fun hc => ?_) (fun hc => ?_) | refine split_yes (fun hc => ?_) (fun hc => ?_) | refine split_no (fun hc => ?_) (fun hc => ?_)) <;> simp -implicitDefEqProofs only [hc, ↓reduceIte, go_sem, Nat.reduceAdd, Nat.reduceSub, Nat.reduceMul, Nat.reduceBEq, Nat.reduceLeDiff, Nat.reduceLT, Nat.reduceEqDiff, reduceCtorEq, Int.reduceBEq, Int.reduceBNe, Int.reduceLT, Int.reduceLE, Int.reduceAdd, Int.reduceSub, Int.reduceMul, Int.reduceNeg, Int.reduceEq, Int.reduceToNat, c_right])
  all_goals simp_all [plainV, null]
def boolV (b : Bool) : Val := ⟨1, if b = true then 1 else 0, []⟩
theorem c_boolean (b : Bool) : R K (.call 68 [.bool b] []) = some (enc (boolV b), []) := by
  rw [call_68]
  simp -implicitDefEqProofs only [↓reduceIte, go_sem, Nat.reduceAdd, Nat.reduceSub, Nat.reduceMul, Nat.reduceBEq, Nat.reduceLeDiff, Nat.reduceLT, Nat.reduceEqDiff, reduceCtorEq, Int.reduceBEq, Int.reduceBNe, Int.reduceLT, Int.reduceLE, Int.reduceAdd, Int.reduceSub, Int.reduceMul, Int.reduceNeg, Int.reduceEq, Int.reduceToNat, Tryz.f68]
  repeat' ((first | refine split_cond (fun hc => ?_) (fun hc => ?_) | refine split_yes (fun hc => ?_) (fun hc => ?_) | refine split_no (fun hc => ?_) (fun hc => ?_)) <;> simp -implicitDefEqProofs only [hc, ↓reduceIte, go_sem, Nat.reduceAdd, Nat.reduceSub, Nat.reduceMul, Nat.reduceBEq, Nat.reduceLeDiff, Nat.reduceLT, Nat.reduceEqDiff, reduceCtorEq, Int.reduceBEq, Int.reduceBNe, Int.reduceLT, Int.reduceLE, Int.reduceAdd, Int.reduceSub, Int.reduceMul, Int.reduceNeg, Int.reduceEq, Int.reduceToNat])
  all_goals simp_all [boolV]
theorem r_Truth (b : Bool) : R K (.call 71 [.bool b] []) = some (enc (boolV b), []) := by
  rw [call_71]
  simp -implicitDefEqProofs only [↓reduceIte, go_sem, Nat.reduceAdd, Nat.reduceSub, Nat.reduceMul, Nat.reduceBEq, Nat.reduceLeDiff, Nat.reduceLT, Nat.reduceEqDiff, reduceCtorEq, Int.reduceBEq, Int.reduceBNe, Int.reduceLT, Int.reduceLE, Int.reduceAdd, Int.reduceSub, Int.reduceMul, Int.reduceNeg, Int.reduceEq, Int.reduceToNat, Tryz.f71]
  repeat' ((first | refine split_cond (fun hc => ?_) (fun hc => ?_) | refine split_yes (fun hc => ?_) (fun hc => ?_) | refine split_no (fun hc => ?_) (fun hc => ?_)) <;> simp -implicitDefEqProofs only [hc, ↓reduceIte, go_sem, Nat.reduceAdd, Nat.reduceSub, Nat.reduceMul, Nat.reduceBEq, Nat.reduceLeDiff, Nat.reduceLT, Nat.reduceEqDiff, reduceCtorEq, Int.reduceBEq, Int.reduceBNe, Int.reduceLT, Int.reduceLE, Int.reduceAdd, Int.reduceSub, Int.reduceMul, Int.reduceNeg, Int.reduceEq, Int.reduceToNat])
  all_goals simp_all [boolV]
def isS (v : Val) (b : Bool) : Bool := decide (v = boolV b)
def notS (a : Val) : Val := if isS a true || isS a false then boolV (isS a false) else null
def numberS (k n : Int) : Val := plainV ⟨k, n, []⟩
theorem c_number (k n : Int) : R K (.call 69 [.int .i64 k, .int .i64 n] []) = some (enc (numberS k n), []) := by
  rw [call_69]
  simp -implicitDefEqProofs only [↓reduceIte, go_sem, Nat.reduceAdd, Nat.reduceSub, Nat.reduceMul, Nat.reduceBEq, Nat.reduceLeDiff, Nat.reduceLT, Nat.reduceEqDiff, reduceCtorEq, Int.reduceBEq, Int.reduceBNe, Int.reduceLT, Int.reduceLE, Int.reduceAdd, Int.reduceSub, Int.reduceMul, Int.reduceNeg, Int.reduceEq, Int.reduceToNat, Tryz.f69, c_plain]
  repeat' ((first | refine split_cond (fun hc => ?_) (fun hc => ?_) | refine split_yes (fun hc => ?_) (fun hc => ?_) | refine split_no (fun hc => ?_) (fun hc => ?_)) <;> simp -implicitDefEqProofs only [hc, ↓reduceIte, go_sem, Nat.reduceAdd, Nat.reduceSub, Nat.reduceMul, Nat.reduceBEq, Nat.reduceLeDiff, Nat.reduceLT, Nat.reduceEqDiff, reduceCtorEq, Int.reduceBEq, Int.reduceBNe, Int.reduceLT, Int.reduceLE, Int.reduceAdd, Int.reduceSub, Int.reduceMul, Int.reduceNeg, Int.reduceEq, Int.reduceToNat, c_plain])
  all_goals simp_all [numberS]
def textS (s : List UInt8) : Val := plainV ⟨3, 0, s⟩
theorem row_get {l : List Val} {i : Nat} {v : Val} (h : l[i]? = some v) : at? (l.map rowV) (i : Int) = some (rowV v) := at_get (by simp [h])
theorem next_id {i n : Nat} (h : i < n) (hn : n ≤ 9223372036854775807) : wrapI .i64 ((i : Int) + 1) = ((i + 1 : Nat) : Int) := by rw [wrap_id (by omega) (by omega)]; rfl
theorem some_at {α : Type} {l : List α} {i : Nat} (h : i < l.length) : ∃ x, l[i]? = some x := ⟨l[i], List.getElem?_eq_getElem h⟩
def cmpI (a b : Int) : Int := if a < b then -1 else if b < a then 1 else 0
theorem plain_len (v : Val) (h : (plainV v).k = 3) : (plainV v) = v ∧ v.s.length ≤ 100 ∧ ok7 v.s = true := by
  unfold plainV at h ⊢
  split at h
  · rename_i hr
    have hk : v.k = 3 := by simpa [hr] using h
    simp only [rightS, Bool.and_eq_true, decide_eq_true_eq] at hr
    obtain ⟨h1, h2, h3⟩ := hr
    refine ⟨by simp [rightS, h1, h2, h3], h2, ?_⟩
    simpa [rangeS, hk] using h3
  · simp [null] at h
theorem byteRows_get : ∀ (s : List UInt8) (i : Nat) (b : UInt8), s[i]? = some b → (byteRows s)[i]? = some [.int .u8 (b.toNat : Int)]
  | [], i, b, h => by simp at h
  | c :: r, 0, b, h => by simp at h; subst h; rfl
  | c :: r, i + 1, b, h => by simpa [byteRows] using byteRows_get r i b (by simpa using h)
theorem l_rplain (s : List UInt8) (hs : s.length ≤ 100) (ks : List It) : ∀ (m i : Nat) (j : Int) (B : Code), Loop Tryz.f259 0 B → j = (i : Int) → s.length = i + m →
   RL K (.run 259 0 (.code B :: .lp B (some ([6, 7, 8], [])) 0 :: .blk 0 0 :: ks) [(6, .rows (byteRows s)), (7, .int .i64 s.length), (8, .int .i64 j)] []) =
   if ok7 (s.drop i) = true then R K (.run 259 0 ks [] []) else some (.bool false, [])
  | 0, i, j, B, hB, hj, hm => by
    subst hj
    have h1 : ¬ ((i : Int) < (s.length : Int)) := by omega
    unfold Loop at hB
    simp -implicitDefEqProofs only [↓reduceIte, go_sem, Nat.reduceAdd, Nat.reduceSub, Nat.reduceMul, Nat.reduceBEq, Nat.reduceLeDiff, Nat.reduceLT, Nat.reduceEqDiff, reduceCtorEq, Int.reduceBEq, Int.reduceBNe, Int.reduceLT, Int.reduceLE, Int.reduceAdd, Int.reduceSub, Int.reduceMul, Int.reduceNeg, Int.reduceEq, Int.reduceToNat, Tryz.f259, loopOf] at hB
    subst hB
    rw [RL_eq]
    simp -implicitDefEqProofs only [↓reduceIte, go_sem, Nat.reduceAdd, Nat.reduceSub, Nat.reduceMul, Nat.reduceBEq, Nat.reduceLeDiff, Nat.reduceLT, Nat.reduceEqDiff, reduceCtorEq, Int.reduceBEq, Int.reduceBNe, Int.reduceLT, Int.reduceLE, Int.reduceAdd, Int.reduceSub, Int.reduceMul, Int.reduceNeg, Int.reduceEq, Int.reduceToNat, h1]
    repeat' ((first | refine split_cond (fun hc => ?_) (fun hc => ?_) | refine split_yes (fun hc => ?_) (fun hc => ?_) | refine split_no (fun hc => ?_) (fun hc => ?_)) <;> simp -implicitDefEqProofs only [hc, ↓reduceIte, go_sem, Nat.reduceAdd, Nat.reduceSub, Nat.reduceMul, Nat.reduceBEq, Nat.reduceLeDiff, Nat.reduceLT, Nat.reduceEqDiff, reduceCtorEq, Int.reduceBEq, Int.reduceBNe, Int.reduceLT, Int.reduceLE, Int.reduceAdd, Int.reduceSub, Int.reduceMul, Int.reduceNeg, Int.reduceEq, Int.reduceToNat, h1])
    rw [List.drop_of_length_le (by omega)]
    rfl
  | m + 1, i, j, B, hB, hj, hm => by
    subst hj
    have h1 : ((i : Int) < (s.length : Int)) := by omega
    have hB' := hB
    obtain ⟨b, hb⟩ := some_at (l := s) (i := i) (by omega)
    have hg := at_get (byteRows_get s i b hb)
    have hw := next_id (i := i) (n := s.length) (by omega) (by omega)
    unfold Loop at hB
    simp -implicitDefEqProofs only [↓reduceIte, go_sem, Nat.reduceAdd, Nat.reduceSub, Nat.reduceMul, Nat.reduceBEq, Nat.reduceLeDiff, Nat.reduceLT, Nat.reduceEqDiff, reduceCtorEq, Int.reduceBEq, Int.reduceBNe, Int.reduceLT, Int.reduceLE, Int.reduceAdd, Int.reduceSub, Int.reduceMul, Int.reduceNeg, Int.reduceEq, Int.reduceToNat, Tryz.f259, loopOf] at hB
    subst hB
    rw [RL_eq]
    rw [drop_get hb]
    have ih := l_rplain s hs ks m (i + 1) _ _ hB' rfl (by omega)
    simp -implicitDefEqProofs only [↓reduceIte, go_sem, Nat.reduceAdd, Nat.reduceSub, Nat.reduceMul, Nat.reduceBEq, Nat.reduceLeDiff, Nat.reduceLT, Nat.reduceEqDiff, reduceCtorEq, Int.reduceBEq, Int.reduceBNe, Int.reduceLT, Int.reduceLE, Int.reduceAdd, Int.reduceSub, Int.reduceMul, Int.reduceNeg, Int.reduceEq, Int.reduceToNat, h1, hg, hw]
    repeat' ((first | refine split_cond (fun hc => ?_) (fun hc => ?_) | refine split_yes (fun hc => ?_) (fun hc => ?_) | refine split_no (fun hc => ?_) (fun hc => ?_)) <;> simp -implicitDefEqProofs only [hc, ↓reduceIte, go_sem, Nat.reduceAdd, Nat.reduceSub, Nat.reduceMul, Nat.reduceBEq, Nat.reduceLeDiff, Nat.reduceLT, Nat.reduceEqDiff, reduceCtorEq, Int.reduceBEq, Int.reduceBNe, Int.reduceLT, Int.reduceLE, Int.reduceAdd, Int.reduceSub, Int.reduceMul, Int.reduceNeg, Int.reduceEq, Int.reduceToNat, h1, hg, hw])
    all_goals simp only [decide_eq_true_eq, decide_eq_false_iff_not] at *
    · have : ok7 (b :: s.drop (i + 1)) = false := by simp [ok7_cons]; omega
      simp [this]
    · have : ok7 (b :: s.drop (i + 1)) = false := by simp [ok7_cons]; omega
      simp [this]
    · have : ok7 (b :: s.drop (i + 1)) = ok7 (s.drop (i + 1)) := by
        have : 32 ≤ b.toNat ∧ b.toNat ≤ 126 := by omega
        simp [ok7_cons, this]
      rw [this, ih]
theorem r_plain (s : List UInt8) (hs : s.length ≤ 100) : R K (.call 259 [.str s] []) = some (.bool (ok7 s), []) := by
  rw [call_259]
  simp -implicitDefEqProofs only [↓reduceIte, go_sem, Nat.reduceAdd, Nat.reduceSub, Nat.reduceMul, Nat.reduceBEq, Nat.reduceLeDiff, Nat.reduceLT, Nat.reduceEqDiff, reduceCtorEq, Int.reduceBEq, Int.reduceBNe, Int.reduceLT, Int.reduceLE, Int.reduceAdd, Int.reduceSub, Int.reduceMul, Int.reduceNeg, Int.reduceEq, Int.reduceToNat, Tryz.f259, byteRows_len]
  repeat' ((first | refine split_cond (fun hc => ?_) (fun hc => ?_) | refine split_yes (fun hc => ?_) (fun hc => ?_) | refine split_no (fun hc => ?_) (fun hc => ?_)) <;> simp -implicitDefEqProofs only [hc, ↓reduceIte, go_sem, Nat.reduceAdd, Nat.reduceSub, Nat.reduceMul, Nat.reduceBEq, Nat.reduceLeDiff, Nat.reduceLT, Nat.reduceEqDiff, reduceCtorEq, Int.reduceBEq, Int.reduceBNe, Int.reduceLT, Int.reduceLE, Int.reduceAdd, Int.reduceSub, Int.reduceMul, Int.reduceNeg, Int.reduceEq, Int.reduceToNat, byteRows_len])
  rw [l_rplain s hs _ s.length 0 0 _ ?_ rfl (by omega), List.drop_zero]
  · split
    · simp -implicitDefEqProofs only [↓reduceIte, go_sem, Nat.reduceAdd, Nat.reduceSub, Nat.reduceMul, Nat.reduceBEq, Nat.reduceLeDiff, Nat.reduceLT, Nat.reduceEqDiff, reduceCtorEq, Int.reduceBEq, Int.reduceBNe, Int.reduceLT, Int.reduceLE, Int.reduceAdd, Int.reduceSub, Int.reduceMul, Int.reduceNeg, Int.reduceEq, Int.reduceToNat]
      repeat' ((first | refine split_cond (fun hc => ?_) (fun hc => ?_) | refine split_yes (fun hc => ?_) (fun hc => ?_) | refine split_no (fun hc => ?_) (fun hc => ?_)) <;> simp -implicitDefEqProofs only [hc, ↓reduceIte, go_sem, Nat.reduceAdd, Nat.reduceSub, Nat.reduceMul, Nat.reduceBEq, Nat.reduceLeDiff, Nat.reduceLT, Nat.reduceEqDiff, reduceCtorEq, Int.reduceBEq, Int.reduceBNe, Int.reduceLT, Int.reduceLE, Int.reduceAdd, Int.reduceSub, Int.reduceMul, Int.reduceNeg, Int.reduceEq, Int.reduceToNat])
      simp_all
    · simp_all
  · rfl
def faultS (v : Val) : Int :=
  if !(within v.k 0 4) || (v.k != 3 && v.s != []) || ((v.k == 3 || v.k == 0) && v.n != 0) then 3
  else if 100 < v.s.length then 2
  else if !(ok7 v.s) || (v.k == 1 && !(within v.n 0 1)) || (v.k == 2 && !(within v.n (-999999999999999) 999999999999999)) || (v.k == 4 && !(within v.n 0 253402300799)) then 1
  else 0
theorem r_fault (k n : Int) (s : List UInt8) : R K (.call 193 [.int .i64 0, V k n s] []) = some (.int .i64 (faultS ⟨k, n, s⟩), []) := by
  by_cases hs : s.length ≤ 100
  · have hs' : ¬ (100 < (s.length : Int)) := by omega
    have hs2 : ¬ (100 < s.length) := by omega
    rw [call_193]
    simp -implicitDefEqProofs only [↓reduceIte, go_sem, Nat.reduceAdd, Nat.reduceSub, Nat.reduceMul, Nat.reduceBEq, Nat.reduceLeDiff, Nat.reduceLT, Nat.reduceEqDiff, reduceCtorEq, Int.reduceBEq, Int.reduceBNe, Int.reduceLT, Int.reduceLE, Int.reduceAdd, Int.reduceSub, Int.reduceMul, Int.reduceNeg, Int.reduceEq, Int.reduceToNat, Tryz.f193, r_within, r_plain s hs, hs']
    repeat' ((first | refine split_cond (fun hc => ?_) (fun hc => ?_) | refine split_yes (fun hc => ?_) (fun hc => ?_) | refine split_no (fun hc => ?_) (fun hc => ?_)) <;> simp -implicitDefEqProofs only [hc, ↓reduceIte, go_sem, Nat.reduceAdd, Nat.reduceSub, Nat.reduceMul, Nat.reduceBEq, Nat.reduceLeDiff, Nat.reduceLT, Nat.reduceEqDiff, reduceCtorEq, Int.reduceBEq, Int.reduceBNe, Int.reduceLT, Int.reduceLE, Int.reduceAdd, Int.reduceSub, Int.reduceMul, Int.reduceNeg, Int.reduceEq, Int.reduceToNat, r_within, r_plain s hs, hs'])
    all_goals simp_all [faultS]
  · have hs' : (100 < (s.length : Int)) := by omega
    have hs2 : (100 < s.length) := by omega
    rw [call_193]
    simp -implicitDefEqProofs only [↓reduceIte, go_sem, Nat.reduceAdd, Nat.reduceSub, Nat.reduceMul, Nat.reduceBEq, Nat.reduceLeDiff, Nat.reduceLT, Nat.reduceEqDiff, reduceCtorEq, Int.reduceBEq, Int.reduceBNe, Int.reduceLT, Int.reduceLE, Int.reduceAdd, Int.reduceSub, Int.reduceMul, Int.reduceNeg, Int.reduceEq, Int.reduceToNat, Tryz.f193, r_within, hs']
    repeat' ((first | refine split_cond (fun hc => ?_) (fun hc => ?_) | refine split_yes (fun hc => ?_) (fun hc => ?_) | refine split_no (fun hc => ?_) (fun hc => ?_)) <;> simp -implicitDefEqProofs only [hc, ↓reduceIte, go_sem, Nat.reduceAdd, Nat.reduceSub, Nat.reduceMul, Nat.reduceBEq, Nat.reduceLeDiff, Nat.reduceLT, Nat.reduceEqDiff, reduceCtorEq, Int.reduceBEq, Int.reduceBNe, Int.reduceLT, Int.reduceLE, Int.reduceAdd, Int.reduceSub, Int.reduceMul, Int.reduceNeg, Int.reduceEq, Int.reduceToNat, r_within, hs'])
    all_goals simp_all [faultS]
theorem fault_right (v : Val) : (faultS v = 0) ↔ rightS v = true := by
  obtain ⟨k, n, s⟩ := v
  by_cases h0 : k = 0
  · subst h0
    by_cases h1 : n = 0 <;> by_cases h2 : s = [] <;> simp [faultS, rightS, formS, rangeS, within, ok7, h1, h2]
  · by_cases h3 : k = 3
    · subst h3
      by_cases h1 : n = 0 <;> by_cases h2 : s.length ≤ 100 <;> simp [faultS, rightS, formS, rangeS, within, h1, h2, Nat.not_lt.2, Nat.not_le.1] <;> (try omega) <;> (cases ok7 s <;> simp <;> omega)
    · by_cases h4 : within k 0 4 = true
      · have h5 : within k 1 4 = true := by simp [within] at h4 ⊢; omega
        by_cases h2 : s = []
        · subst h2
          by_cases k1 : k = 1
          · subst k1; simp [faultS, rightS, formS, rangeS, h4, h5, ok7]
          · by_cases k2 : k = 2
            · subst k2; simp [faultS, rightS, formS, rangeS, h4, h5, ok7]
            · by_cases k4 : k = 4
              · subst k4; simp [faultS, rightS, formS, rangeS, h4, h5, ok7]
              · simp [within] at h4; omega
        · simp [faultS, rightS, formS, h0, h3, h2]
      · have h5 : within k 1 4 = false := by simp [within] at h4 ⊢; omega
        simp [faultS, rightS, formS, h0, h3, h4, h5]
theorem r_AnyFault (k n : Int) (s : List UInt8) : R K (.call 129 [V k n s] []) = some (.int .i64 (faultS ⟨k, n, s⟩), []) := by
  rw [call_129]
  simp -implicitDefEqProofs only [↓reduceIte, go_sem, Nat.reduceAdd, Nat.reduceSub, Nat.reduceMul, Nat.reduceBEq, Nat.reduceLeDiff, Nat.reduceLT, Nat.reduceEqDiff, reduceCtorEq, Int.reduceBEq, Int.reduceBNe, Int.reduceLT, Int.reduceLE, Int.reduceAdd, Int.reduceSub, Int.reduceMul, Int.reduceNeg, Int.reduceEq, Int.reduceToNat, Tryz.f129, r_fault]
  repeat' ((first | refine split_cond (fun hc => ?_) (fun hc => ?_) | refine split_yes (fun hc => ?_) (fun hc => ?_) | refine split_no (fun hc => ?_) (fun hc => ?_)) <;> simp -implicitDefEqProofs only [hc, ↓reduceIte, go_sem, Nat.reduceAdd, Nat.reduceSub, Nat.reduceMul, Nat.reduceBEq, Nat.reduceLeDiff, Nat.reduceLT, Nat.reduceEqDiff, reduceCtorEq, Int.reduceBEq, Int.reduceBNe, Int.reduceLT, Int.reduceLE, Int.reduceAdd, Int.reduceSub, Int.reduceMul, Int.reduceNeg, Int.reduceEq, Int.reduceToNat, r_fault])
theorem r_right (k n : Int) (s : List UInt8) : R K (.call 62 [V k n s] []) = some (enc (plainV ⟨k, n, s⟩), []) := by
  have h := fault_right ⟨k, n, s⟩
  rw [call_62]
  simp -implicitDefEqProofs only [↓reduceIte, go_sem, Nat.reduceAdd, Nat.reduceSub, Nat.reduceMul, Nat.reduceBEq, Nat.reduceLeDiff, Nat.reduceLT, Nat.reduceEqDiff, reduceCtorEq, Int.reduceBEq, Int.reduceBNe, Int.reduceLT, Int.reduceLE, Int.reduceAdd, Int.reduceSub, Int.reduceMul, Int.reduceNeg, Int.reduceEq, Int.reduceToNat, Tryz.f62, r_AnyFault]
  repeat' ((first | refine split_cond (fun hc => ?_) (fun hc => ?_) | refine split_yes (fun hc => ?_) (fun hc => ?_) | refine split_no (fun hc => ?_) (fun hc => ?_)) <;> simp -implicitDefEqProofs only [hc, ↓reduceIte, go_sem, Nat.reduceAdd, Nat.reduceSub, Nat.reduceMul, Nat.reduceBEq, Nat.reduceLeDiff, Nat.reduceLT, Nat.reduceEqDiff, reduceCtorEq, Int.reduceBEq, Int.reduceBNe, Int.reduceLT, Int.reduceLE, Int.reduceAdd, Int.reduceSub, Int.reduceMul, Int.reduceNeg, Int.reduceEq, Int.reduceToNat, r_AnyFault])
  all_goals simp_all [plainV, null]
theorem within_iff (n a b : Int) : within n a b = true ↔ a ≤ n ∧ n ≤ b := by simp [within]
theorem right_bounds (v : Val) : let p := plainV v; (0 ≤ p.k ∧ p.k ≤ 4) ∧ (-999999999999999 ≤ p.n ∧ p.n ≤ 999999999999999) ∧ p.s.length ≤ 100 ∧ (p.k ≠ 3 → p.s = []) ∧ (p.k = 1 → p.n = 0 ∨ p.n = 1) ∧ (p.k = 0 → p.n = 0) ∧ (p.k = 3 → p.n = 0) ∧ ok7 p.s = true ∧ (p.k = 4 → 0 ≤ p.n ∧ p.n ≤ 253402300799) := by
  intro p
  by_cases hr : rightS v = true
  · have hp : p = v := by simp [p, plainV, hr]
    rw [hp]
    have hf := (fault_right v).2 hr
    unfold faultS at hf
    simp only [rightS, Bool.and_eq_true, decide_eq_true_eq] at hr
    obtain ⟨h1, h2, h3⟩ := hr
    unfold rangeS at h3
    unfold formS at h1
    by_cases k0 : v.k = 0
    · simp [k0] at h1 h3
      refine ⟨by omega, by omega, by simp [h1.2], by simp [h1.2], by omega, by omega, by omega, by simpa using h3, by omega⟩
    · by_cases k3 : v.k = 3
      · simp [k3] at h1 h3
        exact ⟨by omega, by omega, h2, by simp [k3], by omega, by omega, by omega, h3, by omega⟩
      · simp [k0, k3] at h1
        obtain ⟨h4, h5⟩ := h1
        rw [within_iff] at h4
        have hk : v.k = 1 ∨ v.k = 2 ∨ v.k = 4 := by omega
        rw [h5] at h3 ⊢
        rcases hk with hk | hk | hk <;> simp [hk, within_iff] at h3 <;> (refine ⟨by omega, by omega, by simp, by simp, by omega, by omega, by omega, rfl, by omega⟩)
  · have hp : p = null := by simp [p, plainV, hr]
    rw [hp]
    simp [null, ok7]
theorem r_sign (n : Int) : R K (.call 132 [.int .i64 n] []) = some (.int .i64 (if n < 0 then -1 else if 0 < n then 1 else 0), []) := by
  rw [call_132]
  simp -implicitDefEqProofs only [↓reduceIte, go_sem, Nat.reduceAdd, Nat.reduceSub, Nat.reduceMul, Nat.reduceBEq, Nat.reduceLeDiff, Nat.reduceLT, Nat.reduceEqDiff, reduceCtorEq, Int.reduceBEq, Int.reduceBNe, Int.reduceLT, Int.reduceLE, Int.reduceAdd, Int.reduceSub, Int.reduceMul, Int.reduceNeg, Int.reduceEq, Int.reduceToNat, Tryz.f132]
  repeat' ((first | refine split_cond (fun hc => ?_) (fun hc => ?_) | refine split_yes (fun hc => ?_) (fun hc => ?_) | refine split_no (fun hc => ?_) (fun hc => ?_)) <;> simp -implicitDefEqProofs only [hc, ↓reduceIte, go_sem, Nat.reduceAdd, Nat.reduceSub, Nat.reduceMul, Nat.reduceBEq, Nat.reduceLeDiff, Nat.reduceLT, Nat.reduceEqDiff, reduceCtorEq, Int.reduceBEq, Int.reduceBNe, Int.reduceLT, Int.reduceLE, Int.reduceAdd, Int.reduceSub, Int.reduceMul, Int.reduceNeg, Int.reduceEq, Int.reduceToNat])
  simp only [Prod.mk.injEq, AV.int.injEq, true_and, and_true]
  split <;> split <;> (try split) <;> (try split) <;> omega
def comparedS (a b : Val) : Int := if cmpI (plainV a).k (plainV b).k ≠ 0 then cmpI (plainV a).k (plainV b).k else if (plainV a).k = 3 then Lib.compareBytes (plainV a).s (plainV b).s else cmpI (plainV a).n (plainV b).n
theorem sign_sub (a b : Int) (h1 : -999999999999999 ≤ a ∧ a ≤ 999999999999999) (h2 : -999999999999999 ≤ b ∧ b ≤ 999999999999999) : (if wrapI .i64 (a - b) < 0 then -1 else if 0 < wrapI .i64 (a - b) then 1 else 0) = cmpI a b := by
  rw [wrap_id (by omega) (by omega)]
  unfold cmpI
  split <;> split <;> (try split) <;> (try split) <;> omega
theorem r_Compare (a b : List UInt8) : R K (.call 133 [.str a, .str b] []) = some (.int .i64 (Lib.compareBytes a b), []) := R_prim rfl
theorem r_Compared (k n : Int) (s : List UInt8) (k' n' : Int) (s' : List UInt8) : R K (.call 79 [V k n s, V k' n' s'] []) = some (.int .i64 (comparedS ⟨k, n, s⟩ ⟨k', n', s'⟩), []) := by
  obtain ⟨b1, b2, _⟩ := right_bounds ⟨k, n, s⟩
  obtain ⟨b1', b2', _⟩ := right_bounds ⟨k', n', s'⟩
  have e1 := sign_sub _ _ (show -999999999999999 ≤ (plainV ⟨k, n, s⟩).k ∧ (plainV ⟨k, n, s⟩).k ≤ 999999999999999 by omega) (show -999999999999999 ≤ (plainV ⟨k', n', s'⟩).k ∧ (plainV ⟨k', n', s'⟩).k ≤ 999999999999999 by omega)
  have e2 := sign_sub _ _ b2 b2'
  rw [call_79]
  simp -implicitDefEqProofs only [↓reduceIte, go_sem, Nat.reduceAdd, Nat.reduceSub, Nat.reduceMul, Nat.reduceBEq, Nat.reduceLeDiff, Nat.reduceLT, Nat.reduceEqDiff, reduceCtorEq, Int.reduceBEq, Int.reduceBNe, Int.reduceLT, Int.reduceLE, Int.reduceAdd, Int.reduceSub, Int.reduceMul, Int.reduceNeg, Int.reduceEq, Int.reduceToNat, Tryz.f79, r_right, r_sign, e1, e2, r_Compare]
  repeat' ((first | refine split_cond (fun hc => ?_) (fun hc => ?_) | refine split_yes (fun hc => ?_) (fun hc => ?_) | refine split_no (fun hc => ?_) (fun hc => ?_)) <;> simp -implicitDefEqProofs only [hc, ↓reduceIte, go_sem, Nat.reduceAdd, Nat.reduceSub, Nat.reduceMul, Nat.reduceBEq, Nat.reduceLeDiff, Nat.reduceLT, Nat.reduceEqDiff, reduceCtorEq, Int.reduceBEq, Int.reduceBNe, Int.reduceLT, Int.reduceLE, Int.reduceAdd, Int.reduceSub, Int.reduceMul, Int.reduceNeg, Int.reduceEq, Int.reduceToNat, r_right, r_sign, e1, e2, r_Compare])
  all_goals simp_all [comparedS]
def alikeB (a b : Val) : Bool := a.k == b.k && a.k != 0
theorem r_alike (k n : Int) (s : List UInt8) (k' n' : Int) (s' : List UInt8) : R K (.call 84 [V k n s, V k' n' s'] []) = some (.bool (alikeB ⟨k, n, s⟩ ⟨k', n', s'⟩), []) := by
  rw [call_84]
  simp -implicitDefEqProofs only [↓reduceIte, go_sem, Nat.reduceAdd, Nat.reduceSub, Nat.reduceMul, Nat.reduceBEq, Nat.reduceLeDiff, Nat.reduceLT, Nat.reduceEqDiff, reduceCtorEq, Int.reduceBEq, Int.reduceBNe, Int.reduceLT, Int.reduceLE, Int.reduceAdd, Int.reduceSub, Int.reduceMul, Int.reduceNeg, Int.reduceEq, Int.reduceToNat, Tryz.f84]
  repeat' ((first | refine split_cond (fun hc => ?_) (fun hc => ?_) | refine split_yes (fun hc => ?_) (fun hc => ?_) | refine split_no (fun hc => ?_) (fun hc => ?_)) <;> simp -implicitDefEqProofs only [hc, ↓reduceIte, go_sem, Nat.reduceAdd, Nat.reduceSub, Nat.reduceMul, Nat.reduceBEq, Nat.reduceLeDiff, Nat.reduceLT, Nat.reduceEqDiff, reduceCtorEq, Int.reduceBEq, Int.reduceBNe, Int.reduceLT, Int.reduceLE, Int.reduceAdd, Int.reduceSub, Int.reduceMul, Int.reduceNeg, Int.reduceEq, Int.reduceToNat])
  all_goals simp_all [alikeB]
def tri (v : Val) : Int := if v = boolV true then 2 else if v = boolV false then 0 else 1
theorem tri_of (v : Val) : (if (plainV v).k = 1 then wrapI .i64 (2 * (plainV v).n) else 1) = tri v := by
  obtain ⟨_, _, _, b4, b5, _⟩ := right_bounds v
  by_cases hk : (plainV v).k = 1
  · rw [if_pos hk]
    have hv : plainV v = v := by
      unfold plainV at hk ⊢
      split
      · rfl
      · rename_i h; simp [h, null] at hk
    rw [hv] at hk b4 b5 ⊢
    have hs := b4 (by omega)
    obtain ⟨k, n, s⟩ := v
    simp only at hk hs b5 ⊢
    subst hk hs
    rcases b5 rfl with h | h <;> subst h <;> rfl
  · rw [if_neg hk]
    unfold tri
    have ht : v ≠ boolV true := by rintro rfl; exact hk rfl
    have hf : v ≠ boolV false := by rintro rfl; exact hk rfl
    rw [if_neg ht, if_neg hf]
theorem r_third (k n : Int) (s : List UInt8) : R K (.call 78 [V k n s] []) = some (.int .i64 (tri ⟨k, n, s⟩), []) := by
  have h := tri_of ⟨k, n, s⟩
  rw [call_78]
  simp -implicitDefEqProofs only [↓reduceIte, go_sem, Nat.reduceAdd, Nat.reduceSub, Nat.reduceMul, Nat.reduceBEq, Nat.reduceLeDiff, Nat.reduceLT, Nat.reduceEqDiff, reduceCtorEq, Int.reduceBEq, Int.reduceBNe, Int.reduceLT, Int.reduceLE, Int.reduceAdd, Int.reduceSub, Int.reduceMul, Int.reduceNeg, Int.reduceEq, Int.reduceToNat, Tryz.f78, r_right]
  repeat' ((first | refine split_cond (fun hc => ?_) (fun hc => ?_) | refine split_yes (fun hc => ?_) (fun hc => ?_) | refine split_no (fun hc => ?_) (fun hc => ?_)) <;> simp -implicitDefEqProofs only [hc, ↓reduceIte, go_sem, Nat.reduceAdd, Nat.reduceSub, Nat.reduceMul, Nat.reduceBEq, Nat.reduceLeDiff, Nat.reduceLT, Nat.reduceEqDiff, reduceCtorEq, Int.reduceBEq, Int.reduceBNe, Int.reduceLT, Int.reduceLE, Int.reduceAdd, Int.reduceSub, Int.reduceMul, Int.reduceNeg, Int.reduceEq, Int.reduceToNat, r_right])
  all_goals simp_all
def fromTri (n : Int) : Val := if n = 1 then null else boolV (n == 2)
theorem r_fromThird (n : Int) : R K (.call 77 [.int .i64 n] []) = some (enc (fromTri n), []) := by
  rw [call_77]
  simp -implicitDefEqProofs only [↓reduceIte, go_sem, Nat.reduceAdd, Nat.reduceSub, Nat.reduceMul, Nat.reduceBEq, Nat.reduceLeDiff, Nat.reduceLT, Nat.reduceEqDiff, reduceCtorEq, Int.reduceBEq, Int.reduceBNe, Int.reduceLT, Int.reduceLE, Int.reduceAdd, Int.reduceSub, Int.reduceMul, Int.reduceNeg, Int.reduceEq, Int.reduceToNat, Tryz.f77, r_Truth]
  repeat' ((first | refine split_cond (fun hc => ?_) (fun hc => ?_) | refine split_yes (fun hc => ?_) (fun hc => ?_) | refine split_no (fun hc => ?_) (fun hc => ?_)) <;> simp -implicitDefEqProofs only [hc, ↓reduceIte, go_sem, Nat.reduceAdd, Nat.reduceSub, Nat.reduceMul, Nat.reduceBEq, Nat.reduceLeDiff, Nat.reduceLT, Nat.reduceEqDiff, reduceCtorEq, Int.reduceBEq, Int.reduceBNe, Int.reduceLT, Int.reduceLE, Int.reduceAdd, Int.reduceSub, Int.reduceMul, Int.reduceNeg, Int.reduceEq, Int.reduceToNat, r_Truth])
  all_goals simp_all [fromTri, null]
theorem tri_bounds (v : Val) : 0 ≤ tri v ∧ tri v ≤ 2 := by unfold tri; split <;> (try split) <;> omega
theorem r_Oper1 (n : Int) (k1 n1 : Int) (s1 : List UInt8) (k2 n2 : Int) (s2 : List UInt8) : R K (.call 21 [.int .i64 1, .int .i64 n, .rows [[.int .i64 k1, .int .i64 n1, .str s1], [.int .i64 k2, .int .i64 n2, .str s2]]] []) = some (enc (fromTri (2 - tri (plainV ⟨k1, n1, s1⟩))), []) := by
  have hb := tri_bounds (plainV ⟨k1, n1, s1⟩)
  have hw : wrapI .i64 (2 - tri (plainV ⟨k1, n1, s1⟩)) = 2 - tri (plainV ⟨k1, n1, s1⟩) := wrap_id (by omega) (by omega)
  rw [call_21]
  simp -implicitDefEqProofs only [↓reduceIte, go_sem, Nat.reduceAdd, Nat.reduceSub, Nat.reduceMul, Nat.reduceBEq, Nat.reduceLeDiff, Nat.reduceLT, Nat.reduceEqDiff, reduceCtorEq, Int.reduceBEq, Int.reduceBNe, Int.reduceLT, Int.reduceLE, Int.reduceAdd, Int.reduceSub, Int.reduceMul, Int.reduceNeg, Int.reduceEq, Int.reduceToNat, Tryz.f21]
  repeat' ((first | refine split_cond (fun hc => ?_) (fun hc => ?_) | refine split_yes (fun hc => ?_) (fun hc => ?_) | refine split_no (fun hc => ?_) (fun hc => ?_)) <;> simp -implicitDefEqProofs only [hc, ↓reduceIte, go_sem, Nat.reduceAdd, Nat.reduceSub, Nat.reduceMul, Nat.reduceBEq, Nat.reduceLeDiff, Nat.reduceLT, Nat.reduceEqDiff, reduceCtorEq, Int.reduceBEq, Int.reduceBNe, Int.reduceLT, Int.reduceLE, Int.reduceAdd, Int.reduceSub, Int.reduceMul, Int.reduceNeg, Int.reduceEq, Int.reduceToNat])
  rw [RL_eq]
  simp -implicitDefEqProofs only [↓reduceIte, go_sem, Nat.reduceAdd, Nat.reduceSub, Nat.reduceMul, Nat.reduceBEq, Nat.reduceLeDiff, Nat.reduceLT, Nat.reduceEqDiff, reduceCtorEq, Int.reduceBEq, Int.reduceBNe, Int.reduceLT, Int.reduceLE, Int.reduceAdd, Int.reduceSub, Int.reduceMul, Int.reduceNeg, Int.reduceEq, Int.reduceToNat, r_right, at?]
  repeat' ((first | refine split_cond (fun hc => ?_) (fun hc => ?_) | refine split_yes (fun hc => ?_) (fun hc => ?_) | refine split_no (fun hc => ?_) (fun hc => ?_)) <;> simp -implicitDefEqProofs only [hc, ↓reduceIte, go_sem, Nat.reduceAdd, Nat.reduceSub, Nat.reduceMul, Nat.reduceBEq, Nat.reduceLeDiff, Nat.reduceLT, Nat.reduceEqDiff, reduceCtorEq, Int.reduceBEq, Int.reduceBNe, Int.reduceLT, Int.reduceLE, Int.reduceAdd, Int.reduceSub, Int.reduceMul, Int.reduceNeg, Int.reduceEq, Int.reduceToNat, r_right, at?])
  rw [RL_eq]
  simp -implicitDefEqProofs only [↓reduceIte, go_sem, Nat.reduceAdd, Nat.reduceSub, Nat.reduceMul, Nat.reduceBEq, Nat.reduceLeDiff, Nat.reduceLT, Nat.reduceEqDiff, reduceCtorEq, Int.reduceBEq, Int.reduceBNe, Int.reduceLT, Int.reduceLE, Int.reduceAdd, Int.reduceSub, Int.reduceMul, Int.reduceNeg, Int.reduceEq, Int.reduceToNat, r_right, at?]
  repeat' ((first | refine split_cond (fun hc => ?_) (fun hc => ?_) | refine split_yes (fun hc => ?_) (fun hc => ?_) | refine split_no (fun hc => ?_) (fun hc => ?_)) <;> simp -implicitDefEqProofs only [hc, ↓reduceIte, go_sem, Nat.reduceAdd, Nat.reduceSub, Nat.reduceMul, Nat.reduceBEq, Nat.reduceLeDiff, Nat.reduceLT, Nat.reduceEqDiff, reduceCtorEq, Int.reduceBEq, Int.reduceBNe, Int.reduceLT, Int.reduceLE, Int.reduceAdd, Int.reduceSub, Int.reduceMul, Int.reduceNeg, Int.reduceEq, Int.reduceToNat, r_right, at?])
  rw [RL_eq]
  simp -implicitDefEqProofs only [↓reduceIte, go_sem, Nat.reduceAdd, Nat.reduceSub, Nat.reduceMul, Nat.reduceBEq, Nat.reduceLeDiff, Nat.reduceLT, Nat.reduceEqDiff, reduceCtorEq, Int.reduceBEq, Int.reduceBNe, Int.reduceLT, Int.reduceLE, Int.reduceAdd, Int.reduceSub, Int.reduceMul, Int.reduceNeg, Int.reduceEq, Int.reduceToNat, r_right, at?, r_third, r_fromThird, r_Compared, r_Truth, r_alike]
  repeat' ((first | refine split_cond (fun hc => ?_) (fun hc => ?_) | refine split_yes (fun hc => ?_) (fun hc => ?_) | refine split_no (fun hc => ?_) (fun hc => ?_)) <;> simp -implicitDefEqProofs only [hc, ↓reduceIte, go_sem, Nat.reduceAdd, Nat.reduceSub, Nat.reduceMul, Nat.reduceBEq, Nat.reduceLeDiff, Nat.reduceLT, Nat.reduceEqDiff, reduceCtorEq, Int.reduceBEq, Int.reduceBNe, Int.reduceLT, Int.reduceLE, Int.reduceAdd, Int.reduceSub, Int.reduceMul, Int.reduceNeg, Int.reduceEq, Int.reduceToNat, r_right, at?, r_third, r_fromThird, r_Compared, r_Truth, r_alike])
  rw [hw]
theorem r_values : R K (.call 15 [] []) = some (.bool true, []) := R_of_runN (n := 30000) (by kernel_rfl)
theorem tri_cases (v : Val) : (v = boolV true ∧ tri v = 2) ∨ (v = boolV false ∧ tri v = 0) ∨ (v ≠ boolV true ∧ v ≠ boolV false ∧ tri v = 1) := by
  unfold tri
  by_cases h1 : v = boolV true
  · exact .inl ⟨h1, by rw [if_pos h1]⟩
  · by_cases h2 : v = boolV false
    · exact .inr (.inl ⟨h2, by rw [if_neg h1, if_pos h2]⟩)
    · exact .inr (.inr ⟨h1, h2, by rw [if_neg h1, if_neg h2]⟩)
theorem plain_bool (b : Bool) : plainV (boolV b) = boolV b := by cases b <;> rfl
theorem plain_or (v : Val) : plainV v = v ∨ plainV v = null := by
  unfold plainV
  split
  · exact .inl rfl
  · exact .inr rfl
theorem tri_plain (v : Val) : tri (plainV v) = tri v := by
  rcases tri_cases v with ⟨h, _⟩ | ⟨h, _⟩ | ⟨h1, h2, h3⟩
  · rw [h, plain_bool]
  · rw [h, plain_bool]
  · rcases plain_or v with h | h
    · rw [h]
    · rw [h, h3]; rfl
theorem not_law (a : Val) : notS a = fromTri (2 - tri (plainV a)) := by
  rw [tri_plain]
  rcases tri_cases a with ⟨h, ht⟩ | ⟨h, ht⟩ | ⟨h1, h2, ht⟩
  · subst h; rfl
  · subst h; rfl
  · rw [ht]; simp [notS, isS, h1, h2, fromTri]
theorem o1 (n k1 n1 : Int) (s1 : List UInt8) (k2 n2 : Int) (s2 : List UInt8) : R K (.call 21 [.int .i64 1, .int .i64 n, .rows [[.int .i64 k1, .int .i64 n1, .str s1], [.int .i64 k2, .int .i64 n2, .str s2]]] []) = some (enc (notS ⟨k1, n1, s1⟩), []) := by
  rw [r_Oper1, ← not_law]
theorem r_Number (n : Int) : R K (.call 73 [.int .i64 n] []) = some (enc (numberS 2 n), []) := by
  rw [call_73]
  simp -implicitDefEqProofs only [↓reduceIte, go_sem, Nat.reduceAdd, Nat.reduceSub, Nat.reduceMul, Nat.reduceBEq, Nat.reduceLeDiff, Nat.reduceLT, Nat.reduceEqDiff, reduceCtorEq, Int.reduceBEq, Int.reduceBNe, Int.reduceLT, Int.reduceLE, Int.reduceAdd, Int.reduceSub, Int.reduceMul, Int.reduceNeg, Int.reduceEq, Int.reduceToNat, Tryz.f73, r_right]
  repeat' ((first | refine split_cond (fun hc => ?_) (fun hc => ?_) | refine split_yes (fun hc => ?_) (fun hc => ?_) | refine split_no (fun hc => ?_) (fun hc => ?_)) <;> simp -implicitDefEqProofs only [hc, ↓reduceIte, go_sem, Nat.reduceAdd, Nat.reduceSub, Nat.reduceMul, Nat.reduceBEq, Nat.reduceLeDiff, Nat.reduceLT, Nat.reduceEqDiff, reduceCtorEq, Int.reduceBEq, Int.reduceBNe, Int.reduceLT, Int.reduceLE, Int.reduceAdd, Int.reduceSub, Int.reduceMul, Int.reduceNeg, Int.reduceEq, Int.reduceToNat, r_right])
  all_goals simp [numberS]
theorem r_moment (n : Int) : R K (.call 72 [.int .i64 n] []) = some (enc (numberS 4 n), []) := by
  rw [call_72]
  simp -implicitDefEqProofs only [↓reduceIte, go_sem, Nat.reduceAdd, Nat.reduceSub, Nat.reduceMul, Nat.reduceBEq, Nat.reduceLeDiff, Nat.reduceLT, Nat.reduceEqDiff, reduceCtorEq, Int.reduceBEq, Int.reduceBNe, Int.reduceLT, Int.reduceLE, Int.reduceAdd, Int.reduceSub, Int.reduceMul, Int.reduceNeg, Int.reduceEq, Int.reduceToNat, Tryz.f72, r_right]
  repeat' ((first | refine split_cond (fun hc => ?_) (fun hc => ?_) | refine split_yes (fun hc => ?_) (fun hc => ?_) | refine split_no (fun hc => ?_) (fun hc => ?_)) <;> simp -implicitDefEqProofs only [hc, ↓reduceIte, go_sem, Nat.reduceAdd, Nat.reduceSub, Nat.reduceMul, Nat.reduceBEq, Nat.reduceLeDiff, Nat.reduceLT, Nat.reduceEqDiff, reduceCtorEq, Int.reduceBEq, Int.reduceBNe, Int.reduceLT, Int.reduceLE, Int.reduceAdd, Int.reduceSub, Int.reduceMul, Int.reduceNeg, Int.reduceEq, Int.reduceToNat, r_right])
  all_goals simp [numberS]
theorem ascii_ok7 {s : List UInt8} (h : ok7 s = true) : ascii s = true := by
  simp only [ascii, ok7, List.all_eq_true, Bool.and_eq_true, decide_eq_true_eq] at h ⊢
  intro x hx
  have := (h x hx).2
  omega
theorem r_word (s : List UInt8) : R K (.call 121 [.str s] []) = some (enc (textS s), []) := by
  rw [call_121]
  simp -implicitDefEqProofs only [↓reduceIte, go_sem, Nat.reduceAdd, Nat.reduceSub, Nat.reduceMul, Nat.reduceBEq, Nat.reduceLeDiff, Nat.reduceLT, Nat.reduceEqDiff, reduceCtorEq, Int.reduceBEq, Int.reduceBNe, Int.reduceLT, Int.reduceLE, Int.reduceAdd, Int.reduceSub, Int.reduceMul, Int.reduceNeg, Int.reduceEq, Int.reduceToNat, Tryz.f121, r_right]
  repeat' ((first | refine split_cond (fun hc => ?_) (fun hc => ?_) | refine split_yes (fun hc => ?_) (fun hc => ?_) | refine split_no (fun hc => ?_) (fun hc => ?_)) <;> simp -implicitDefEqProofs only [hc, ↓reduceIte, go_sem, Nat.reduceAdd, Nat.reduceSub, Nat.reduceMul, Nat.reduceBEq, Nat.reduceLeDiff, Nat.reduceLT, Nat.reduceEqDiff, reduceCtorEq, Int.reduceBEq, Int.reduceBNe, Int.reduceLT, Int.reduceLE, Int.reduceAdd, Int.reduceSub, Int.reduceMul, Int.reduceNeg, Int.reduceEq, Int.reduceToNat, r_right])
  all_goals simp [textS]
theorem plain3 (v : Val) (h : (plainV v).k = 3) : (plainV v).s.length ≤ 100 ∧ ascii (plainV v).s = true := by
  obtain ⟨h1, h2, h3⟩ := plain_len v h
  rw [h1]
  exact ⟨h2, ascii_ok7 h3⟩
theorem at_zero {α : Type} (x : α) (l : List α) : at? (x :: l) (0 : Int) = some x := rfl
theorem u8_lit (c : UInt8) (k : Nat) (hk : k < 256) : (((c.toNat : Nat) : Int) == (k : Int)) = (c == UInt8.ofNat k) := by
  rw [Bool.eq_iff_iff]
  simp only [beq_iff_eq]
  constructor
  · intro h
    refine UInt8.toNat.inj ?_
    rw [UInt8.toNat_ofNat']
    omega
  · rintro rfl
    rw [UInt8.toNat_ofNat']
    omega
attribute [go_sem] callIn conv convL reach posOf sub renB renL ren back afterIn outer List.contains_cons List.contains_nil List.map_cons List.map_nil
@[go_sem] theorem size_none {α : Type} : (#[] : Array α).size = 0 := rfl
theorem tm (a b : Int) (h : 0 ≤ a) : a.tmod b = a % b := Int.tmod_eq_emod_of_nonneg h
theorem td (a b : Int) (h : 0 ≤ a) : a.tdiv b = a / b := Int.tdiv_eq_ediv_of_nonneg h
def leapS (y : Int) : Bool := (y % 4 == 0 && !(y % 100 == 0)) || y % 400 == 0
def mdS (y m : Int) : Int := if m = 2 then (if leapS y = true then 29 else 28) else if m = 4 ∨ m = 6 ∨ m = 9 ∨ m = 11 then 30 else 31
def ydS (y : Int) : Int := 365 * (y - 1970) + (y - 1) / 4 - (y - 1) / 100 + (y - 1) / 400 - 477
def lenS (y : Int) : Int := if leapS y = true then 366 else 365
theorem leap_iff (y : Int) : leapS y = true ↔ (y % 4 = 0 ∧ y % 100 ≠ 0) ∨ y % 400 = 0 := by simp [leapS]
theorem yd_next (y : Int) : ydS (y + 1) = ydS y + lenS y := by
  unfold ydS lenS
  by_cases h : leapS y = true
  · rw [if_pos h]
    rw [leap_iff] at h
    omega
  · rw [if_neg h]
    rw [leap_iff] at h
    omega
theorem len_pos (y : Int) : 365 ≤ lenS y ∧ lenS y ≤ 366 := by unfold lenS; split <;> omega
theorem md_pos (y m : Int) : 28 ≤ mdS y m ∧ mdS y m ≤ 31 := by unfold mdS; repeat' split <;> omega
theorem yd_mono_nat (y : Int) : ∀ k : Nat, ydS y + k * 365 ≤ ydS (y + k)
  | 0 => by simp
  | k + 1 => by
    have ih := yd_mono_nat y k
    have e := yd_next (y + k)
    have l := len_pos (y + k)
    have : y + ((k + 1 : Nat) : Int) = y + k + 1 := by omega
    rw [this]
    omega
theorem yd_mono {y z : Int} (h : y ≤ z) : ydS y + (z - y) * 365 ≤ ydS z := by
  obtain ⟨k, rfl⟩ : ∃ k : Nat, z = y + k := ⟨(z - y).toNat, by omega⟩
  have := yd_mono_nat y k
  have e : y + (k : Int) - y = k := by omega
  rw [e]
  exact this
theorem yd0 : ydS 1970 = 0 := by decide
theorem year_ex : ∀ d : Nat, ∃ z : Int, 1970 ≤ z ∧ ydS z ≤ d ∧ (d : Int) < ydS (z + 1)
  | 0 => ⟨1970, by omega, by rw [yd0]; simp, by rw [yd_next, yd0]; have := len_pos 1970; omega⟩
  | d + 1 => by
    obtain ⟨z, h1, h2, h3⟩ := year_ex d
    by_cases h : ((d + 1 : Nat) : Int) < ydS (z + 1)
    · exact ⟨z, h1, by omega, h⟩
    · refine ⟨z + 1, by omega, by omega, ?_⟩
      have := yd_next (z + 1)
      have := len_pos (z + 1)
      omega
noncomputable def yearS (d : Int) : Int := Classical.choose (year_ex d.toNat)
theorem year_spec {d : Int} (h : 0 ≤ d) : 1970 ≤ yearS d ∧ ydS (yearS d) ≤ d ∧ d < ydS (yearS d + 1) := by
  have hc := Classical.choose_spec (year_ex d.toNat)
  obtain ⟨h1, h2, h3⟩ := hc
  unfold yearS
  refine ⟨h1, ?_, ?_⟩
  · omega
  · omega
theorem year_le {d y : Int} (h : 0 ≤ d) (hy : d < ydS (y + 1)) : yearS d ≤ y := by
  rcases Int.lt_or_le y (yearS d) with hl | hl
  · have := (year_spec h).2.1
    have := yd_mono (y := y + 1) (z := yearS d) (by omega)
    omega
  · exact hl
theorem year_ge {d y : Int} (h : 0 ≤ d) (hy : ydS y ≤ d) : y ≤ yearS d := by
  rcases Int.lt_or_le (yearS d) y with hl | hl
  · have := (year_spec h).2.2
    have := yd_mono (y := yearS d + 1) (z := y) (by omega)
    omega
  · exact hl
theorem yd_top : ydS (9999 + 1) = 2932897 := by decide
theorem year_max {d : Int} (h : 0 ≤ d) (hd : d ≤ 2932896) : yearS d ≤ 9999 := year_le h (by rw [yd_top]; omega)
theorem yd_up : ∀ k : Nat, ydS (1970 + k) ≤ k * 366
  | 0 => by rw [show (1970 : Int) + ((0 : Nat) : Int) = 1970 from rfl, yd0]; simp
  | k + 1 => by
    have ih := yd_up k
    have e := yd_next (1970 + k)
    have l := len_pos (1970 + k)
    have : (1970 : Int) + ((k + 1 : Nat) : Int) = 1970 + k + 1 := by omega
    rw [this]
    omega
theorem year_low {d : Int} (h : 0 ≤ d) : 1970 + d / 366 ≤ yearS d := by
  refine year_ge h ?_
  have := yd_up (d / 366).toNat
  have e : (((d / 366).toNat : Nat) : Int) = d / 366 := by omega
  rw [e] at this
  omega
def monthUp : Nat → Int → Int → Int → Int × Int
  | 0, _, m, r => (m, r)
  | f + 1, y, m, r => if mdS y m ≤ r then monthUp f y (m + 1) (r - mdS y m) else (m, r)
def restS : Nat → Int → Int → Int
  | 0, _, _ => 0
  | f + 1, y, m => mdS y m + restS f y (m + 1)
theorem rest_len (y : Int) : restS 12 y 1 = lenS y := by
  cases h : leapS y <;> simp [restS, mdS, lenS, h]
theorem month_bounds (y : Int) : ∀ (f : Nat) (m r : Int), 0 ≤ r → r < restS f y m → m ≤ (monthUp f y m r).1 ∧ (monthUp f y m r).1 < m + f ∧ 0 ≤ (monthUp f y m r).2 ∧ (monthUp f y m r).2 < mdS y (monthUp f y m r).1
  | 0, m, r, h0, h1 => by simp only [restS] at h1; omega
  | f + 1, m, r, h0, h1 => by
    simp only [restS] at h1
    simp only [monthUp]
    split
    · rename_i h
      have ih := month_bounds y f (m + 1) (r - mdS y m) (by omega) (by omega)
      refine ⟨by omega, by omega, ih.2.2.1, ih.2.2.2⟩
    · rename_i h
      refine ⟨Int.le_refl _, by simp only; omega, h0, ?_⟩
      simp only
      omega
def aheadS : Nat → Int → Int
  | 0, _ => 0
  | k + 1, y => aheadS k y + mdS y (k + 1 : Nat)
noncomputable def ymS (n : Int) : Int × Int := monthUp 12 (yearS (n / 86400)) 1 (n / 86400 - ydS (yearS (n / 86400)))
noncomputable def dateS (n : Int) : List Int := [yearS (n / 86400), (ymS n).1, (ymS n).2 + 1, n % 86400 / 3600, n % 86400 % 3600 / 60, n % 86400 % 60]
theorem date_bounds {n : Int} (h0 : 0 ≤ n) (h1 : n ≤ 253402300799) : 1970 ≤ yearS (n / 86400) ∧ yearS (n / 86400) ≤ 9999 ∧ 1 ≤ (ymS n).1 ∧ (ymS n).1 ≤ 12 ∧ 0 ≤ (ymS n).2 ∧ (ymS n).2 < mdS (yearS (n / 86400)) (ymS n).1 := by
  have hd : 0 ≤ n / 86400 := by omega
  have hs := year_spec hd
  have hm := year_max hd (by omega)
  have hn := yd_next (yearS (n / 86400))
  have hb := month_bounds (yearS (n / 86400)) 12 1 (n / 86400 - ydS (yearS (n / 86400))) (by omega) (by rw [rest_len]; omega)
  refine ⟨hs.1, hm, hb.1, ?_, hb.2.2.1, hb.2.2.2⟩
  have := hb.2.1
  unfold ymS
  omega
theorem dec_first (u : Nat) : ∃ c r, Lib.decDigits u = c :: r ∧ 48 ≤ c.toNat ∧ c.toNat ≤ 57 := by
  induction u using Nat.strongRecOn with
  | _ u ih =>
    by_cases h : u < 10
    · refine ⟨UInt8.ofNat (48 + u), [], ?_, ?_, ?_⟩
      · rw [Lib.decDigits, dif_pos h]
      · have : (UInt8.ofNat (48 + u)).toNat = 48 + u := by simp [UInt8.toNat_ofNat']; omega
        omega
      · have : (UInt8.ofNat (48 + u)).toNat = 48 + u := by simp [UInt8.toNat_ofNat']; omega
        omega
    · obtain ⟨c, r, e, h1, h2⟩ := ih (u / 10) (by omega)
      exact ⟨c, r ++ [UInt8.ofNat (48 + u % 10)], by rw [Lib.decDigits, dif_neg h, e]; rfl, h1, h2⟩
theorem itoa_first (n : Int) : ∃ c r, Lib.itoa n = c :: r ∧ (c = 45 ∨ (48 ≤ c.toNat ∧ c.toNat ≤ 57)) := by
  unfold Lib.itoa
  split
  · exact ⟨45, _, rfl, .inl rfl⟩
  · obtain ⟨c, r, e, h⟩ := dec_first n.toNat
    exact ⟨c, r, e, .inr h⟩
abbrev bNull : List UInt8 := [110, 117, 108, 108]
abbrev bTrue : List UInt8 := [116, 114, 117, 101]
abbrev bFalse : List UInt8 := [102, 97, 108, 115, 101]
theorem fmt_bool (b : Bool) : Lib.formatBool b = if b = true then bTrue else bFalse := by cases b <;> decide +kernel
def padS (n : Int) (d : Nat) : List UInt8 := Lib.repeatL [48] (d - (Lib.itoa n).length) ++ Lib.itoa n
noncomputable def dtextS (n : Int) : List UInt8 := padS (yearS (n / 86400)) 4 ++ [45] ++ padS (ymS n).1 2 ++ [45] ++ padS ((ymS n).2 + 1) 2 ++ [84] ++ padS (n % 86400 / 3600) 2 ++ [58] ++ padS (n % 86400 % 3600 / 60) 2 ++ [58] ++ padS (n % 86400 % 60) 2
noncomputable def showS (v : Val) : List UInt8 :=
  if (plainV v).k = 1 then Lib.formatBool ((plainV v).n == 1) else if (plainV v).k = 2 then Lib.itoa (plainV v).n else if (plainV v).k = 3 then [39] ++ Lib.replaceAll (plainV v).s [39] [39, 39] ++ [39]
  else if (plainV v).k = 4 then [64] ++ dtextS (plainV v).n else bNull
def atoiN (s : List UInt8) : Option Int := match Lib.atoiAll s with
  | .ok v => some v
  | _ => none
def daysS (y m d : Int) : Int := ydS y + aheadS (m - 1).toNat y + d - 1
def dateV (y m d h mi s : Int) : Val := if 1970 ≤ y ∧ y ≤ 9999 ∧ 1 ≤ m ∧ m ≤ 12 ∧ 1 ≤ d ∧ d ≤ mdS y m ∧ 0 ≤ h ∧ h ≤ 23 ∧ 0 ≤ mi ∧ mi ≤ 59 ∧ 0 ≤ s ∧ s ≤ 59 then numberS 4 (daysS y m d * 86400 + h * 3600 + mi * 60 + s) else null
def sixS (s : List UInt8) : Option (Int × Int × Int × Int × Int × Int) :=
  match atoiN (cut s 0 4), atoiN (cut s 5 7), atoiN (cut s 8 10), atoiN (cut s 11 13), atoiN (cut s 14 16), atoiN (cut s 17 19) with
  | some a, some b, some c, some d, some e, some f => some (a, b, c, d, e, f)
  | _, _, _, _, _, _ => none
noncomputable def dreadS (s : List UInt8) : Val :=
  if s.length = 19 then match sixS s with
    | some (a, b, c, d, e, f) => if (dateV a b c d e f).k = 0 ∨ dtextS (dateV a b c d e f).n ≠ s then null else dateV a b c d e f
    | none => null
  else null
noncomputable def candS (s : List UInt8) : Val :=
  if s = bTrue ∨ s = bFalse then boolV (decide (s = bTrue))
  else if 2 ≤ s.length ∧ s[0]? = some 39 ∧ s[s.length - 1]? = some 39 then ⟨3, 0, Lib.replaceAll (cut s 1 (s.length - 1)) [39, 39] [39]⟩
  else if Lib.hasPrefix s [64] = true then dreadS (s.drop 1)
  else match atoiN s with
    | some n => ⟨2, n, []⟩
    | none => null
noncomputable def readS (s : List UInt8) : Val × Int := if rightS (candS s) = true ∧ showS (candS s) = s then (candS s, 0) else (null, 14)
noncomputable def candsS (s : List UInt8) : List Val :=
  [null, boolV true, boolV false] ++ (match atoiN s with
    | some n => [numberS 2 n]
    | none => []) ++ (if 1 < s.length ∧ s[0]? = some 39 then [textS (Lib.replaceAll (cut s 1 (s.length - 1)) [39, 39] [39])] else []) ++
  (if (dreadS (Lib.trimPrefix s [64])).k = 4 then [dreadS (Lib.trimPrefix s [64])] else [])
noncomputable def readRS (s : List UInt8) : Val × Int := match (candsS s).find? fun v => showS v == s with
  | some v => (v, 0)
  | none => (null, 14)
theorem plain_of_right {v : Val} (h : rightS v = true) : plainV v = v := by unfold plainV; exact if_pos h
theorem plain_null : plainV null = null := by decide
theorem show_null : showS null = bNull := by simp only [showS, plain_null]; simp [null]
theorem right_bool (b : Bool) : rightS (boolV b) = true := by cases b <;> decide
theorem right_null : rightS null = true := by decide
theorem show_bool (b : Bool) : showS (boolV b) = if b = true then bTrue else bFalse := by
  have := plain_of_right (right_bool b)
  cases b
  · simp only [showS, this]; simp [boolV, fmt_bool]
  · simp only [showS, this]; simp [boolV, fmt_bool]
theorem number_cases (k n : Int) : numberS k n = null ∨ (numberS k n = ⟨k, n, []⟩ ∧ rightS ⟨k, n, []⟩ = true) := by
  unfold numberS plainV
  split
  · rename_i h; exact .inr ⟨rfl, h⟩
  · exact .inl rfl
theorem text_cases (s : List UInt8) : textS s = null ∨ (textS s = ⟨3, 0, s⟩ ∧ rightS ⟨3, 0, s⟩ = true) := by
  unfold textS plainV
  split
  · rename_i h; exact .inr ⟨rfl, h⟩
  · exact .inl rfl
theorem show_int {n : Int} (h : rightS ⟨2, n, []⟩ = true) : showS ⟨2, n, []⟩ = Lib.itoa n := by simp [showS, plain_of_right h]
theorem show_text {s : List UInt8} (h : rightS ⟨3, 0, s⟩ = true) : showS ⟨3, 0, s⟩ = [39] ++ Lib.replaceAll s [39] [39, 39] ++ [39] := by simp [showS, plain_of_right h]
theorem date_cases (a b c d e f : Int) : dateV a b c d e f = null ∨ ((dateV a b c d e f).k = 4 ∧ (dateV a b c d e f).s = [] ∧ rightS (dateV a b c d e f) = true) := by
  unfold dateV
  split
  · rcases number_cases 4 (daysS a b c * 86400 + d * 3600 + e * 60 + f) with h | ⟨h, h2⟩
    · exact .inl h
    · rw [h]; exact .inr ⟨rfl, rfl, h2⟩
  · exact .inl rfl
theorem dread_cases (s : List UInt8) : dreadS s = null ∨ ((dreadS s).k = 4 ∧ rightS (dreadS s) = true ∧ dtextS (dreadS s).n = s) := by
  unfold dreadS
  split
  · split
    · rename_i a b c d e f _
      split
      · exact .inl rfl
      · rename_i h
        rcases date_cases a b c d e f with h2 | h2
        · rw [h2] at h; simp [null] at h
        · exact .inr ⟨h2.1, h2.2.2, by simpa using (not_or.1 h).2⟩
    · exact .inl rfl
  · exact .inl rfl
theorem show_moment {v : Val} (hk : v.k = 4) (hr : rightS v = true) : showS v = 64 :: dtextS v.n := by
  simp [showS, plain_of_right hr, hk]
theorem atoi_null : atoiN bNull = none := by decide +kernel
theorem cand_null : candS bNull = null := by
  unfold candS
  rw [if_neg (by decide), if_neg (by decide), if_neg (by decide), atoi_null]
theorem pre_at (r : List UInt8) : Lib.hasPrefix (64 :: r) [64] = true := by simp [Lib.hasPrefix]
theorem pre_no (c : UInt8) (r : List UInt8) (h : c ≠ 64) : Lib.hasPrefix (c :: r) [64] = false := by
  have : (64 == c) = false := by simpa using Ne.symm h
  simp [Lib.hasPrefix, List.isPrefixOf, this]
theorem cands_cand {s : List UInt8} {v : Val} (hv : v ∈ candsS s) (hs : showS v = s) : v = candS s ∧ rightS (candS s) = true := by
  unfold candsS at hv
  simp only [List.mem_append, List.mem_cons, List.not_mem_nil, or_false] at hv
  have hn : v = null → v = candS s ∧ rightS (candS s) = true := by
    rintro rfl
    rw [show_null] at hs
    rw [← hs, cand_null]
    exact ⟨rfl, right_null⟩
  rcases hv with (((rfl | rfl | rfl) | hv) | hv) | hv
  · exact hn rfl
  · rw [show_bool] at hs
    have hs : bTrue = s := by simpa using hs
    have : candS s = boolV true := by rw [← hs]; unfold candS; rw [if_pos (by decide)]; rfl
    rw [this]; exact ⟨rfl, right_bool _⟩
  · rw [show_bool] at hs
    have hs : bFalse = s := by simpa using hs
    have : candS s = boolV false := by rw [← hs]; unfold candS; rw [if_pos (by decide)]; rfl
    rw [this]; exact ⟨rfl, right_bool _⟩
  · cases ha : atoiN s with
    | none => rw [ha] at hv; simp at hv
    | some n =>
      rw [ha] at hv
      simp only [List.mem_cons, List.not_mem_nil, or_false] at hv
      subst hv
      rcases number_cases 2 n with h | ⟨h, hr⟩
      · exact hn h
      · rw [h] at hs ⊢
        rw [show_int hr] at hs
        obtain ⟨c, r, e, hc⟩ := itoa_first n
        rw [hs] at e
        have h45 : (45 : UInt8).toNat = 45 := rfl
        have hc39 : c ≠ 39 := by rintro rfl; rcases hc with hc | hc; · simp at hc
                                 · simp at hc
        have hc64 : c ≠ 64 := by rintro rfl; rcases hc with hc | hc; · simp at hc
                                 · simp at hc
        have hct : c ≠ 116 := by rintro rfl; rcases hc with hc | hc; · simp at hc
                                 · simp at hc
        have hcf : c ≠ 102 := by rintro rfl; rcases hc with hc | hc; · simp at hc
                                 · simp at hc
        have : candS s = ⟨2, n, []⟩ := by
          unfold candS
          rw [ha, if_neg (by rw [e]; simp [hct, hcf]), if_neg (by rw [e]; simp [hc39]), if_neg (by rw [e, pre_no c r hc64]; simp)]
        rw [this]; exact ⟨rfl, hr⟩
  · by_cases hq : 1 < s.length ∧ s[0]? = some 39
    · rw [if_pos hq] at hv
      simp only [List.mem_cons, List.not_mem_nil, or_false] at hv
      subst hv
      rcases text_cases (Lib.replaceAll (cut s 1 (s.length - 1)) [39, 39] [39]) with h | ⟨h, hr⟩
      · exact hn h
      · rw [h] at hs ⊢
        rw [show_text hr] at hs
        have hlast : s[s.length - 1]? = some 39 := by
          rw [← hs]
          simp
        have hne : s[0]? = some 39 := hq.2
        have : candS s = ⟨3, 0, Lib.replaceAll (cut s 1 (s.length - 1)) [39, 39] [39]⟩ := by
          unfold candS
          rw [if_neg (by rintro (rfl | rfl) <;> simp at hne), if_pos ⟨hq.1, hne, hlast⟩]
        rw [this]; exact ⟨rfl, hr⟩
    · rw [if_neg hq] at hv; simp at hv
  · by_cases hm : (dreadS (Lib.trimPrefix s [64])).k = 4
    · rw [if_pos hm] at hv
      simp only [List.mem_cons, List.not_mem_nil, or_false] at hv
      rcases dread_cases (Lib.trimPrefix s [64]) with h | ⟨h1, h2, h3⟩
      · rw [h] at hm; simp [null] at hm
      · rw [← hv] at h1 h2 h3
        rw [show_moment h1 h2] at hs
        have e : Lib.trimPrefix s [64] = dtextS v.n := h3.symm
        have : candS s = v := by
          unfold candS
          rw [if_neg (by rw [← hs]; simp), if_neg (by rw [← hs]; simp), if_pos (by rw [← hs]; exact pre_at _), hv, e, ← hs]
          rfl
        rw [this]; exact ⟨rfl, h2⟩
    · rw [if_neg hm] at hv; simp at hv
theorem cand_cands {s : List UInt8} (hr : rightS (candS s) = true) : candS s ∈ candsS s := by
  by_cases h1 : s = bTrue ∨ s = bFalse
  · have e : candS s = boolV (decide (s = bTrue)) := by unfold candS; rw [if_pos h1]
    rw [e]
    unfold candsS
    cases decide (s = bTrue) <;> simp
  · by_cases h2 : 2 ≤ s.length ∧ s[0]? = some 39 ∧ s[s.length - 1]? = some 39
    · have e : candS s = ⟨3, 0, Lib.replaceAll (cut s 1 (s.length - 1)) [39, 39] [39]⟩ := by unfold candS; rw [if_neg h1, if_pos h2]
      rw [e] at hr ⊢
      have : textS (Lib.replaceAll (cut s 1 (s.length - 1)) [39, 39] [39]) = ⟨3, 0, Lib.replaceAll (cut s 1 (s.length - 1)) [39, 39] [39]⟩ := plain_of_right hr
      unfold candsS
      rw [if_pos (show 1 < s.length ∧ s[0]? = some 39 from ⟨h2.1, h2.2.1⟩), this]
      simp
    · by_cases h3 : Lib.hasPrefix s [64] = true
      · have e : candS s = dreadS (s.drop 1) := by unfold candS; rw [if_neg h1, if_neg h2, if_pos h3]
        have et : Lib.trimPrefix s [64] = s.drop 1 := by unfold Lib.trimPrefix; rw [if_pos h3]; rfl
        rw [e]
        rcases dread_cases (s.drop 1) with h | ⟨h4, _, _⟩
        · rw [h]; unfold candsS; simp
        · unfold candsS
          rw [et, if_pos h4]; simp
      · cases ha : atoiN s with
        | none =>
          have e : candS s = null := by unfold candS; rw [if_neg h1, if_neg h2, if_neg h3, ha]
          rw [e]; unfold candsS; simp
        | some n =>
          have e : candS s = ⟨2, n, []⟩ := by unfold candS; rw [if_neg h1, if_neg h2, if_neg h3, ha]
          rw [e] at hr ⊢
          have : numberS 2 n = ⟨2, n, []⟩ := plain_of_right hr
          unfold candsS
          rw [ha]
          simp only [this]; simp
theorem read_law (s : List UInt8) : readRS s = readS s := by
  unfold readRS
  cases hf : (candsS s).find? fun v => showS v == s with
  | some v =>
    have h1 := List.mem_of_find?_eq_some hf
    have h2 := List.find?_some hf
    simp only [beq_iff_eq] at h2
    obtain ⟨rfl, hr⟩ := cands_cand h1 h2
    unfold readS
    rw [if_pos ⟨hr, h2⟩]
  | none =>
    unfold readS
    rw [if_neg]
    rintro ⟨hr, hs⟩
    have := List.find?_eq_none.1 hf _ (cand_cands hr)
    simp [hs] at this
theorem cand_true : candS bTrue = boolV true := by unfold candS; rw [if_pos (by decide)]; rfl
theorem cand_false : candS bFalse = boolV false := by unfold candS; rw [if_pos (by decide)]; rfl
theorem plain_right (v : Val) : rightS (plainV v) = true := by
  unfold plainV
  split
  · assumption
  · exact right_null
theorem c_leap (y : Int) (h : 0 ≤ y) : R K (.call 258 [.int .i64 y] []) = some (.bool (leapS y), []) := by
  rw [call_258]
  simp -implicitDefEqProofs only [↓reduceIte, go_sem, Nat.reduceAdd, Nat.reduceSub, Nat.reduceMul, Nat.reduceBEq, Nat.reduceLeDiff, Nat.reduceLT, Nat.reduceEqDiff, reduceCtorEq, Int.reduceBEq, Int.reduceBNe, Int.reduceLT, Int.reduceLE, Int.reduceAdd, Int.reduceSub, Int.reduceMul, Int.reduceNeg, Int.reduceEq, Int.reduceToNat, Tryz.f258, tm y _ h]
  repeat' ((first | refine split_cond (fun hc => ?_) (fun hc => ?_) | refine split_yes (fun hc => ?_) (fun hc => ?_) | refine split_no (fun hc => ?_) (fun hc => ?_)) <;> simp -implicitDefEqProofs only [hc, ↓reduceIte, go_sem, Nat.reduceAdd, Nat.reduceSub, Nat.reduceMul, Nat.reduceBEq, Nat.reduceLeDiff, Nat.reduceLT, Nat.reduceEqDiff, reduceCtorEq, Int.reduceBEq, Int.reduceBNe, Int.reduceLT, Int.reduceLE, Int.reduceAdd, Int.reduceSub, Int.reduceMul, Int.reduceNeg, Int.reduceEq, Int.reduceToNat, tm y _ h])
  all_goals simp_all [leapS]
theorem r_leap (y : Int) (h : 0 ≤ y) : R K (.call 260 [.int .i64 y] []) = some (.bool (leapS y), []) := by
  rw [call_260]
  simp -implicitDefEqProofs only [↓reduceIte, go_sem, Nat.reduceAdd, Nat.reduceSub, Nat.reduceMul, Nat.reduceBEq, Nat.reduceLeDiff, Nat.reduceLT, Nat.reduceEqDiff, reduceCtorEq, Int.reduceBEq, Int.reduceBNe, Int.reduceLT, Int.reduceLE, Int.reduceAdd, Int.reduceSub, Int.reduceMul, Int.reduceNeg, Int.reduceEq, Int.reduceToNat, Tryz.f260, tm y _ h]
  repeat' ((first | refine split_cond (fun hc => ?_) (fun hc => ?_) | refine split_yes (fun hc => ?_) (fun hc => ?_) | refine split_no (fun hc => ?_) (fun hc => ?_)) <;> simp -implicitDefEqProofs only [hc, ↓reduceIte, go_sem, Nat.reduceAdd, Nat.reduceSub, Nat.reduceMul, Nat.reduceBEq, Nat.reduceLeDiff, Nat.reduceLT, Nat.reduceEqDiff, reduceCtorEq, Int.reduceBEq, Int.reduceBNe, Int.reduceLT, Int.reduceLE, Int.reduceAdd, Int.reduceSub, Int.reduceMul, Int.reduceNeg, Int.reduceEq, Int.reduceToNat, tm y _ h])
  all_goals simp_all [leapS]
theorem c_md (y m : Int) (h : 0 ≤ y) : R K (.call 192 [.int .i64 y, .int .i64 m] []) = some (.int .i64 (mdS y m), []) := by
  rw [call_192]
  simp -implicitDefEqProofs only [↓reduceIte, go_sem, Nat.reduceAdd, Nat.reduceSub, Nat.reduceMul, Nat.reduceBEq, Nat.reduceLeDiff, Nat.reduceLT, Nat.reduceEqDiff, reduceCtorEq, Int.reduceBEq, Int.reduceBNe, Int.reduceLT, Int.reduceLE, Int.reduceAdd, Int.reduceSub, Int.reduceMul, Int.reduceNeg, Int.reduceEq, Int.reduceToNat, Tryz.f192, c_leap y h]
  repeat' ((first | refine split_cond (fun hc => ?_) (fun hc => ?_) | refine split_yes (fun hc => ?_) (fun hc => ?_) | refine split_no (fun hc => ?_) (fun hc => ?_)) <;> simp -implicitDefEqProofs only [hc, ↓reduceIte, go_sem, Nat.reduceAdd, Nat.reduceSub, Nat.reduceMul, Nat.reduceBEq, Nat.reduceLeDiff, Nat.reduceLT, Nat.reduceEqDiff, reduceCtorEq, Int.reduceBEq, Int.reduceBNe, Int.reduceLT, Int.reduceLE, Int.reduceAdd, Int.reduceSub, Int.reduceMul, Int.reduceNeg, Int.reduceEq, Int.reduceToNat, c_leap y h])
  all_goals simp_all [mdS]
theorem r_md (y m : Int) (h : 0 ≤ y) : R K (.call 195 [.int .i64 y, .int .i64 m] []) = some (.int .i64 (mdS y m), []) := by
  rw [call_195]
  simp -implicitDefEqProofs only [↓reduceIte, go_sem, Nat.reduceAdd, Nat.reduceSub, Nat.reduceMul, Nat.reduceBEq, Nat.reduceLeDiff, Nat.reduceLT, Nat.reduceEqDiff, reduceCtorEq, Int.reduceBEq, Int.reduceBNe, Int.reduceLT, Int.reduceLE, Int.reduceAdd, Int.reduceSub, Int.reduceMul, Int.reduceNeg, Int.reduceEq, Int.reduceToNat, Tryz.f195, r_leap y h]
  repeat' ((first | refine split_cond (fun hc => ?_) (fun hc => ?_) | refine split_yes (fun hc => ?_) (fun hc => ?_) | refine split_no (fun hc => ?_) (fun hc => ?_)) <;> simp -implicitDefEqProofs only [hc, ↓reduceIte, go_sem, Nat.reduceAdd, Nat.reduceSub, Nat.reduceMul, Nat.reduceBEq, Nat.reduceLeDiff, Nat.reduceLT, Nat.reduceEqDiff, reduceCtorEq, Int.reduceBEq, Int.reduceBNe, Int.reduceLT, Int.reduceLE, Int.reduceAdd, Int.reduceSub, Int.reduceMul, Int.reduceNeg, Int.reduceEq, Int.reduceToNat, r_leap y h])
  all_goals simp_all [mdS]
theorem r_yearDays (y : Int) (h : 0 ≤ y) : R K (.call 194 [.int .i64 y] []) = some (.int .i64 (lenS y), []) := by
  rw [call_194]
  simp -implicitDefEqProofs only [↓reduceIte, go_sem, Nat.reduceAdd, Nat.reduceSub, Nat.reduceMul, Nat.reduceBEq, Nat.reduceLeDiff, Nat.reduceLT, Nat.reduceEqDiff, reduceCtorEq, Int.reduceBEq, Int.reduceBNe, Int.reduceLT, Int.reduceLE, Int.reduceAdd, Int.reduceSub, Int.reduceMul, Int.reduceNeg, Int.reduceEq, Int.reduceToNat, Tryz.f194, r_leap y h]
  repeat' ((first | refine split_cond (fun hc => ?_) (fun hc => ?_) | refine split_yes (fun hc => ?_) (fun hc => ?_) | refine split_no (fun hc => ?_) (fun hc => ?_)) <;> simp -implicitDefEqProofs only [hc, ↓reduceIte, go_sem, Nat.reduceAdd, Nat.reduceSub, Nat.reduceMul, Nat.reduceBEq, Nat.reduceLeDiff, Nat.reduceLT, Nat.reduceEqDiff, reduceCtorEq, Int.reduceBEq, Int.reduceBNe, Int.reduceLT, Int.reduceLE, Int.reduceAdd, Int.reduceSub, Int.reduceMul, Int.reduceNeg, Int.reduceEq, Int.reduceToNat, r_leap y h])
  all_goals simp_all [lenS]
theorem c_yd (y : Int) (h : 1 ≤ y) (h2 : y ≤ 100000) : R K (.call 191 [.int .i64 y] []) = some (.int .i64 (ydS y), []) := by
  have e1 : wrapI .i64 (y - 1) = y - 1 := wrap_id (by omega) (by omega)
  have e2 : wrapI .i64 (y - 1970) = y - 1970 := wrap_id (by omega) (by omega)
  have e3 : wrapI .i64 (365 * (y - 1970)) = 365 * (y - 1970) := wrap_id (by omega) (by omega)
  have e4 : wrapI .i64 ((y - 1).tdiv 4) = (y - 1) / 4 := by rw [td _ _ (by omega)]; exact wrap_id (by omega) (by omega)
  have e5 : wrapI .i64 (365 * (y - 1970) + (y - 1) / 4) = 365 * (y - 1970) + (y - 1) / 4 := wrap_id (by omega) (by omega)
  have e6 : wrapI .i64 ((y - 1).tdiv 100) = (y - 1) / 100 := by rw [td _ _ (by omega)]; exact wrap_id (by omega) (by omega)
  have e7 : wrapI .i64 (365 * (y - 1970) + (y - 1) / 4 - (y - 1) / 100) = 365 * (y - 1970) + (y - 1) / 4 - (y - 1) / 100 := wrap_id (by omega) (by omega)
  have e8 : wrapI .i64 ((y - 1).tdiv 400) = (y - 1) / 400 := by rw [td _ _ (by omega)]; exact wrap_id (by omega) (by omega)
  have e9 : wrapI .i64 (365 * (y - 1970) + (y - 1) / 4 - (y - 1) / 100 + (y - 1) / 400) = 365 * (y - 1970) + (y - 1) / 4 - (y - 1) / 100 + (y - 1) / 400 := wrap_id (by omega) (by omega)
  have e10 : wrapI .i64 (365 * (y - 1970) + (y - 1) / 4 - (y - 1) / 100 + (y - 1) / 400 - 477) = ydS y := by unfold ydS; exact wrap_id (by omega) (by omega)
  rw [call_191]
  simp -implicitDefEqProofs only [↓reduceIte, go_sem, Nat.reduceAdd, Nat.reduceSub, Nat.reduceMul, Nat.reduceBEq, Nat.reduceLeDiff, Nat.reduceLT, Nat.reduceEqDiff, reduceCtorEq, Int.reduceBEq, Int.reduceBNe, Int.reduceLT, Int.reduceLE, Int.reduceAdd, Int.reduceSub, Int.reduceMul, Int.reduceNeg, Int.reduceEq, Int.reduceToNat, Tryz.f191, e1, e2, e3, e4, e5, e6, e7, e8, e9, e10]
  repeat' ((first | refine split_cond (fun hc => ?_) (fun hc => ?_) | refine split_yes (fun hc => ?_) (fun hc => ?_) | refine split_no (fun hc => ?_) (fun hc => ?_)) <;> simp -implicitDefEqProofs only [hc, ↓reduceIte, go_sem, Nat.reduceAdd, Nat.reduceSub, Nat.reduceMul, Nat.reduceBEq, Nat.reduceLeDiff, Nat.reduceLT, Nat.reduceEqDiff, reduceCtorEq, Int.reduceBEq, Int.reduceBNe, Int.reduceLT, Int.reduceLE, Int.reduceAdd, Int.reduceSub, Int.reduceMul, Int.reduceNeg, Int.reduceEq, Int.reduceToNat, e1, e2, e3, e4, e5, e6, e7, e8, e9, e10])
abbrev I (n : Int) : AV := .int .i64 n
theorem yd_lt {y : Int} (h : y ≤ 9999) : ydS (y + 1) ≤ 2932897 := by
  have := yd_mono (y := y + 1) (z := 9999 + 1) (by omega)
  rw [yd_top] at this
  omega
theorem l_dateOf0 (d rest z : Int) (h1 : ydS z ≤ d) (h2 : d < ydS (z + 1)) (hz : z ≤ 9999) (ks : List It) : ∀ (m : Nat) (y : Int) (B : Code), Loop Tryz.f127 0 B → y + m = z → 1970 ≤ y →
   RL K (.run 127 0 (.code B :: .lp B (some ([2, 3, 4, 5], [])) 1 :: .blk 0 1 :: ks) [(2, .ptr 0 0), (3, I d), (4, I rest), (5, I y)] [.cells [I 0, I 0, I 0, I 0, I 0, I 0]]) =
   R K (.run 127 0 ks [(2, .ptr 0 0), (3, I d), (4, I rest), (5, I z)] [.cells [I 0, I 0, I 0, I 0, I 0, I 0]])
  | 0, y, B, hB, hm, hy => by
    have hzy : y = z := by omega
    subst hzy
    have e1 : wrapI .i64 (y + 1) = y + 1 := wrap_id (by omega) (by omega)
    have e2 := c_yd (y + 1) (by omega) (by omega)
    have e3 : decide (ydS (y + 1) ≤ d) = false := by simp; omega
    unfold Loop at hB
    simp -implicitDefEqProofs only [↓reduceIte, go_sem, Nat.reduceAdd, Nat.reduceSub, Nat.reduceMul, Nat.reduceBEq, Nat.reduceLeDiff, Nat.reduceLT, Nat.reduceEqDiff, reduceCtorEq, Int.reduceBEq, Int.reduceBNe, Int.reduceLT, Int.reduceLE, Int.reduceAdd, Int.reduceSub, Int.reduceMul, Int.reduceNeg, Int.reduceEq, Int.reduceToNat, Tryz.f127, loopOf] at hB
    subst hB
    rw [RL_eq]
    simp -implicitDefEqProofs only [↓reduceIte, go_sem, Nat.reduceAdd, Nat.reduceSub, Nat.reduceMul, Nat.reduceBEq, Nat.reduceLeDiff, Nat.reduceLT, Nat.reduceEqDiff, reduceCtorEq, Int.reduceBEq, Int.reduceBNe, Int.reduceLT, Int.reduceLE, Int.reduceAdd, Int.reduceSub, Int.reduceMul, Int.reduceNeg, Int.reduceEq, Int.reduceToNat, e1, e2, e3]
    repeat' ((first | refine split_cond (fun hc => ?_) (fun hc => ?_) | refine split_yes (fun hc => ?_) (fun hc => ?_) | refine split_no (fun hc => ?_) (fun hc => ?_)) <;> simp -implicitDefEqProofs only [hc, ↓reduceIte, go_sem, Nat.reduceAdd, Nat.reduceSub, Nat.reduceMul, Nat.reduceBEq, Nat.reduceLeDiff, Nat.reduceLT, Nat.reduceEqDiff, reduceCtorEq, Int.reduceBEq, Int.reduceBNe, Int.reduceLT, Int.reduceLE, Int.reduceAdd, Int.reduceSub, Int.reduceMul, Int.reduceNeg, Int.reduceEq, Int.reduceToNat, e1, e2, e3])
  | m + 1, y, B, hB, hm, hy => by
    have hB' := hB
    have e1 : wrapI .i64 (y + 1) = y + 1 := wrap_id (by omega) (by omega)
    have e2 := c_yd (y + 1) (by omega) (by omega)
    have e3 : decide (ydS (y + 1) ≤ d) = true := by
      have := yd_mono (y := y + 1) (z := z) (by omega)
      simp; omega
    have ih := l_dateOf0 d rest z h1 h2 hz ks m (y + 1) B hB' (by omega) (by omega)
    unfold Loop at hB
    simp -implicitDefEqProofs only [↓reduceIte, go_sem, Nat.reduceAdd, Nat.reduceSub, Nat.reduceMul, Nat.reduceBEq, Nat.reduceLeDiff, Nat.reduceLT, Nat.reduceEqDiff, reduceCtorEq, Int.reduceBEq, Int.reduceBNe, Int.reduceLT, Int.reduceLE, Int.reduceAdd, Int.reduceSub, Int.reduceMul, Int.reduceNeg, Int.reduceEq, Int.reduceToNat, Tryz.f127, loopOf] at hB
    subst hB
    rw [RL_eq]
    simp -implicitDefEqProofs only [↓reduceIte, go_sem, Nat.reduceAdd, Nat.reduceSub, Nat.reduceMul, Nat.reduceBEq, Nat.reduceLeDiff, Nat.reduceLT, Nat.reduceEqDiff, reduceCtorEq, Int.reduceBEq, Int.reduceBNe, Int.reduceLT, Int.reduceLE, Int.reduceAdd, Int.reduceSub, Int.reduceMul, Int.reduceNeg, Int.reduceEq, Int.reduceToNat, e1, e2, e3, ih]
    repeat' ((first | refine split_cond (fun hc => ?_) (fun hc => ?_) | refine split_yes (fun hc => ?_) (fun hc => ?_) | refine split_no (fun hc => ?_) (fun hc => ?_)) <;> simp -implicitDefEqProofs only [hc, ↓reduceIte, go_sem, Nat.reduceAdd, Nat.reduceSub, Nat.reduceMul, Nat.reduceBEq, Nat.reduceLeDiff, Nat.reduceLT, Nat.reduceEqDiff, reduceCtorEq, Int.reduceBEq, Int.reduceBNe, Int.reduceLT, Int.reduceLE, Int.reduceAdd, Int.reduceSub, Int.reduceMul, Int.reduceNeg, Int.reduceEq, Int.reduceToNat, e1, e2, e3, ih])
theorem md_wrap (y m r : Int) (h0 : 0 ≤ r) (h1 : r ≤ 400) : wrapI .i64 (r - mdS y m) = r - mdS y m := by
  have := md_pos y m
  exact wrap_id (by omega) (by omega)
theorem l_dateOf2 (y rest : Int) (h0 : 0 ≤ y) (ks : List It) : ∀ (f : Nat) (m r : Int) (B : Code), Loop Tryz.f127 2 B → 0 ≤ r → r < restS f y m → r ≤ 400 → 0 ≤ m → m + f ≤ 100 →
   RL K (.run 127 0 (.code B :: .lp B (some ([2, 3, 4, 5, 6], [])) 1 :: .blk 2 1 :: ks) [(2, .ptr 0 0), (3, I r), (4, I rest), (5, I y), (6, I m)] [.cells [I 0, I 0, I 0, I 0, I 0, I 0]]) =
   R K (.run 127 0 ks [(2, .ptr 0 0), (3, I (monthUp f y m r).2), (4, I rest), (5, I y), (6, I (monthUp f y m r).1)] [.cells [I 0, I 0, I 0, I 0, I 0, I 0]])
  | 0, m, r, B, hB, hr, hl, _, _, _ => by simp only [restS] at hl; omega
  | f + 1, m, r, B, hB, hr, hl, hr4, hm0, hm => by
    have hB' := hB
    simp only [restS] at hl
    have e1 := c_md y m h0
    have e2 := md_wrap y m r hr hr4
    have e3 : wrapI .i64 (m + 1) = m + 1 := wrap_id (by omega) (by omega)
    have hp := md_pos y m
    by_cases h : mdS y m ≤ r
    · have e4 : decide (mdS y m ≤ r) = true := by simp [h]
      have ih := l_dateOf2 y rest h0 ks f (m + 1) (r - mdS y m) B hB' (by omega) (by omega) (by omega) (by omega) (by omega)
      have e5 : monthUp (f + 1) y m r = monthUp f y (m + 1) (r - mdS y m) := by simp only [monthUp]; rw [if_pos h]
      rw [e5]
      unfold Loop at hB
      simp -implicitDefEqProofs only [↓reduceIte, go_sem, Nat.reduceAdd, Nat.reduceSub, Nat.reduceMul, Nat.reduceBEq, Nat.reduceLeDiff, Nat.reduceLT, Nat.reduceEqDiff, reduceCtorEq, Int.reduceBEq, Int.reduceBNe, Int.reduceLT, Int.reduceLE, Int.reduceAdd, Int.reduceSub, Int.reduceMul, Int.reduceNeg, Int.reduceEq, Int.reduceToNat, Tryz.f127, loopOf] at hB
      subst hB
      rw [RL_eq]
      simp -implicitDefEqProofs only [↓reduceIte, go_sem, Nat.reduceAdd, Nat.reduceSub, Nat.reduceMul, Nat.reduceBEq, Nat.reduceLeDiff, Nat.reduceLT, Nat.reduceEqDiff, reduceCtorEq, Int.reduceBEq, Int.reduceBNe, Int.reduceLT, Int.reduceLE, Int.reduceAdd, Int.reduceSub, Int.reduceMul, Int.reduceNeg, Int.reduceEq, Int.reduceToNat, e1, e2, e3, e4, ih]
      repeat' ((first | refine split_cond (fun hc => ?_) (fun hc => ?_) | refine split_yes (fun hc => ?_) (fun hc => ?_) | refine split_no (fun hc => ?_) (fun hc => ?_)) <;> simp -implicitDefEqProofs only [hc, ↓reduceIte, go_sem, Nat.reduceAdd, Nat.reduceSub, Nat.reduceMul, Nat.reduceBEq, Nat.reduceLeDiff, Nat.reduceLT, Nat.reduceEqDiff, reduceCtorEq, Int.reduceBEq, Int.reduceBNe, Int.reduceLT, Int.reduceLE, Int.reduceAdd, Int.reduceSub, Int.reduceMul, Int.reduceNeg, Int.reduceEq, Int.reduceToNat, e1, e2, e3, e4, ih])
    · have e4 : decide (mdS y m ≤ r) = false := by simpa using h
      have e5 : monthUp (f + 1) y m r = (m, r) := by simp only [monthUp]; rw [if_neg h]
      rw [e5]
      unfold Loop at hB
      simp -implicitDefEqProofs only [↓reduceIte, go_sem, Nat.reduceAdd, Nat.reduceSub, Nat.reduceMul, Nat.reduceBEq, Nat.reduceLeDiff, Nat.reduceLT, Nat.reduceEqDiff, reduceCtorEq, Int.reduceBEq, Int.reduceBNe, Int.reduceLT, Int.reduceLE, Int.reduceAdd, Int.reduceSub, Int.reduceMul, Int.reduceNeg, Int.reduceEq, Int.reduceToNat, Tryz.f127, loopOf] at hB
      subst hB
      rw [RL_eq]
      simp -implicitDefEqProofs only [↓reduceIte, go_sem, Nat.reduceAdd, Nat.reduceSub, Nat.reduceMul, Nat.reduceBEq, Nat.reduceLeDiff, Nat.reduceLT, Nat.reduceEqDiff, reduceCtorEq, Int.reduceBEq, Int.reduceBNe, Int.reduceLT, Int.reduceLE, Int.reduceAdd, Int.reduceSub, Int.reduceMul, Int.reduceNeg, Int.reduceEq, Int.reduceToNat, e1, e4]
      repeat' ((first | refine split_cond (fun hc => ?_) (fun hc => ?_) | refine split_yes (fun hc => ?_) (fun hc => ?_) | refine split_no (fun hc => ?_) (fun hc => ?_)) <;> simp -implicitDefEqProofs only [hc, ↓reduceIte, go_sem, Nat.reduceAdd, Nat.reduceSub, Nat.reduceMul, Nat.reduceBEq, Nat.reduceLeDiff, Nat.reduceLT, Nat.reduceEqDiff, reduceCtorEq, Int.reduceBEq, Int.reduceBNe, Int.reduceLT, Int.reduceLE, Int.reduceAdd, Int.reduceSub, Int.reduceMul, Int.reduceNeg, Int.reduceEq, Int.reduceToNat, e1, e4])
theorem c_dateOf (n : Int) (h0 : 0 ≤ n) (h1 : n ≤ 253402300799) : R K (.call 127 [I n] []) = some (.agg ((dateS n).map I), []) := by
  have hb := date_bounds h0 h1
  have hs := year_spec (d := n / 86400) (by omega)
  have hlow := year_low (d := n / 86400) (by omega)
  have hlen := yd_next (yearS (n / 86400))
  have hlp := len_pos (yearS (n / 86400))
  have e1 : wrapI .i64 (n.tdiv 86400) = n / 86400 := by rw [td _ _ h0]; exact wrap_id (by omega) (by omega)
  have e2 : n.tmod 86400 = n % 86400 := tm _ _ h0
  have e3 : wrapI .i64 ((n / 86400).tdiv 366) = n / 86400 / 366 := by rw [td _ _ (by omega)]; exact wrap_id (by omega) (by omega)
  have e4 : wrapI .i64 (1970 + n / 86400 / 366) = 1970 + n / 86400 / 366 := wrap_id (by omega) (by omega)
  have e5 := c_yd (yearS (n / 86400)) (by omega) (by omega)
  have e6 : wrapI .i64 (n / 86400 - ydS (yearS (n / 86400))) = n / 86400 - ydS (yearS (n / 86400)) := wrap_id (by omega) (by omega)
  have e7 : wrapI .i64 ((ymS n).2 + 1) = (ymS n).2 + 1 := by have := md_pos (yearS (n / 86400)) (ymS n).1; exact wrap_id (by omega) (by omega)
  have e8 : wrapI .i64 ((n % 86400).tdiv 3600) = n % 86400 / 3600 := by rw [td _ _ (by omega)]; exact wrap_id (by omega) (by omega)
  have e9 : (n % 86400).tmod 3600 = n % 86400 % 3600 := tm _ _ (by omega)
  have e10 : wrapI .i64 ((n % 86400 % 3600).tdiv 60) = n % 86400 % 3600 / 60 := by rw [td _ _ (by omega)]; exact wrap_id (by omega) (by omega)
  have e11 : (n % 86400).tmod 60 = n % 86400 % 60 := tm _ _ (by omega)
  have hm : monthUp 12 (yearS (n / 86400)) 1 (n / 86400 - ydS (yearS (n / 86400))) = ymS n := rfl
  rw [call_127]
  simp -implicitDefEqProofs only [↓reduceIte, go_sem, Nat.reduceAdd, Nat.reduceSub, Nat.reduceMul, Nat.reduceBEq, Nat.reduceLeDiff, Nat.reduceLT, Nat.reduceEqDiff, reduceCtorEq, Int.reduceBEq, Int.reduceBNe, Int.reduceLT, Int.reduceLE, Int.reduceAdd, Int.reduceSub, Int.reduceMul, Int.reduceNeg, Int.reduceEq, Int.reduceToNat, Tryz.f127, e1, e2, e3, e4]
  repeat' ((first | refine split_cond (fun hc => ?_) (fun hc => ?_) | refine split_yes (fun hc => ?_) (fun hc => ?_) | refine split_no (fun hc => ?_) (fun hc => ?_)) <;> simp -implicitDefEqProofs only [hc, ↓reduceIte, go_sem, Nat.reduceAdd, Nat.reduceSub, Nat.reduceMul, Nat.reduceBEq, Nat.reduceLeDiff, Nat.reduceLT, Nat.reduceEqDiff, reduceCtorEq, Int.reduceBEq, Int.reduceBNe, Int.reduceLT, Int.reduceLE, Int.reduceAdd, Int.reduceSub, Int.reduceMul, Int.reduceNeg, Int.reduceEq, Int.reduceToNat, e1, e2, e3, e4])
  rw [l_dateOf0 (n / 86400) (n % 86400) (yearS (n / 86400)) hs.2.1 hs.2.2 hb.2.1 _ (yearS (n / 86400) - (1970 + n / 86400 / 366)).toNat _ _ ?_ (by omega) (by omega)]
  · simp -implicitDefEqProofs only [↓reduceIte, go_sem, Nat.reduceAdd, Nat.reduceSub, Nat.reduceMul, Nat.reduceBEq, Nat.reduceLeDiff, Nat.reduceLT, Nat.reduceEqDiff, reduceCtorEq, Int.reduceBEq, Int.reduceBNe, Int.reduceLT, Int.reduceLE, Int.reduceAdd, Int.reduceSub, Int.reduceMul, Int.reduceNeg, Int.reduceEq, Int.reduceToNat, e5, e6]
    repeat' ((first | refine split_cond (fun hc => ?_) (fun hc => ?_) | refine split_yes (fun hc => ?_) (fun hc => ?_) | refine split_no (fun hc => ?_) (fun hc => ?_)) <;> simp -implicitDefEqProofs only [hc, ↓reduceIte, go_sem, Nat.reduceAdd, Nat.reduceSub, Nat.reduceMul, Nat.reduceBEq, Nat.reduceLeDiff, Nat.reduceLT, Nat.reduceEqDiff, reduceCtorEq, Int.reduceBEq, Int.reduceBNe, Int.reduceLT, Int.reduceLE, Int.reduceAdd, Int.reduceSub, Int.reduceMul, Int.reduceNeg, Int.reduceEq, Int.reduceToNat, e5, e6])
    rw [l_dateOf2 (yearS (n / 86400)) (n % 86400) (by omega) _ 12 1 _ _ ?_ (by omega) (by rw [rest_len]; omega) (by omega) (by omega) (by omega), hm]
    · simp -implicitDefEqProofs only [↓reduceIte, go_sem, Nat.reduceAdd, Nat.reduceSub, Nat.reduceMul, Nat.reduceBEq, Nat.reduceLeDiff, Nat.reduceLT, Nat.reduceEqDiff, reduceCtorEq, Int.reduceBEq, Int.reduceBNe, Int.reduceLT, Int.reduceLE, Int.reduceAdd, Int.reduceSub, Int.reduceMul, Int.reduceNeg, Int.reduceEq, Int.reduceToNat, e7, e8, e9, e10, e11]
      repeat' ((first | refine split_cond (fun hc => ?_) (fun hc => ?_) | refine split_yes (fun hc => ?_) (fun hc => ?_) | refine split_no (fun hc => ?_) (fun hc => ?_)) <;> simp -implicitDefEqProofs only [hc, ↓reduceIte, go_sem, Nat.reduceAdd, Nat.reduceSub, Nat.reduceMul, Nat.reduceBEq, Nat.reduceLeDiff, Nat.reduceLT, Nat.reduceEqDiff, reduceCtorEq, Int.reduceBEq, Int.reduceBNe, Int.reduceLT, Int.reduceLE, Int.reduceAdd, Int.reduceSub, Int.reduceMul, Int.reduceNeg, Int.reduceEq, Int.reduceToNat, e7, e8, e9, e10, e11])
      rfl
    · rfl
  · rfl
theorem l_parts0 (d n z : Int) (h1 : ydS z ≤ d) (h2 : d < ydS (z + 1)) (hz : z ≤ 9999) (hd : 0 ≤ d ∧ d ≤ 3000000) (ks : List It) : ∀ (m : Nat) (y : Int) (B : Code), Loop Tryz.f130 0 B → y + m = z → 1970 ≤ y →
   RL K (.run 130 0 (.code B :: .lp B (some ([0, 2, 3, 4, 5], [])) 1 :: .blk 0 1 :: ks) [(0, I n), (2, .ptr 0 0), (3, I (d - ydS y)), (4, I y), (5, I 1)] [.cells [I 0, I 0, I 0, I 0, I 0, I 0]]) =
   R K (.run 130 0 ks [(0, I n), (2, .ptr 0 0), (3, I (d - ydS z)), (4, I z), (5, I 1)] [.cells [I 0, I 0, I 0, I 0, I 0, I 0]])
  | 0, y, B, hB, hm, hy => by
    have hzy : y = z := by omega
    subst hzy
    have e2 := r_yearDays y (by omega)
    have e3 : decide (lenS y ≤ d - ydS y) = false := by have := yd_next y; simp; omega
    unfold Loop at hB
    simp -implicitDefEqProofs only [↓reduceIte, go_sem, Nat.reduceAdd, Nat.reduceSub, Nat.reduceMul, Nat.reduceBEq, Nat.reduceLeDiff, Nat.reduceLT, Nat.reduceEqDiff, reduceCtorEq, Int.reduceBEq, Int.reduceBNe, Int.reduceLT, Int.reduceLE, Int.reduceAdd, Int.reduceSub, Int.reduceMul, Int.reduceNeg, Int.reduceEq, Int.reduceToNat, Tryz.f130, loopOf] at hB
    subst hB
    rw [RL_eq]
    simp -implicitDefEqProofs only [↓reduceIte, go_sem, Nat.reduceAdd, Nat.reduceSub, Nat.reduceMul, Nat.reduceBEq, Nat.reduceLeDiff, Nat.reduceLT, Nat.reduceEqDiff, reduceCtorEq, Int.reduceBEq, Int.reduceBNe, Int.reduceLT, Int.reduceLE, Int.reduceAdd, Int.reduceSub, Int.reduceMul, Int.reduceNeg, Int.reduceEq, Int.reduceToNat, e2, e3]
    repeat' ((first | refine split_cond (fun hc => ?_) (fun hc => ?_) | refine split_yes (fun hc => ?_) (fun hc => ?_) | refine split_no (fun hc => ?_) (fun hc => ?_)) <;> simp -implicitDefEqProofs only [hc, ↓reduceIte, go_sem, Nat.reduceAdd, Nat.reduceSub, Nat.reduceMul, Nat.reduceBEq, Nat.reduceLeDiff, Nat.reduceLT, Nat.reduceEqDiff, reduceCtorEq, Int.reduceBEq, Int.reduceBNe, Int.reduceLT, Int.reduceLE, Int.reduceAdd, Int.reduceSub, Int.reduceMul, Int.reduceNeg, Int.reduceEq, Int.reduceToNat, e2, e3])
  | m + 1, y, B, hB, hm, hy => by
    have hB' := hB
    have e1 : wrapI .i64 (y + 1) = y + 1 := wrap_id (by omega) (by omega)
    have e2 := r_yearDays y (by omega)
    have en := yd_next y
    have el := len_pos y
    have em := yd_mono (y := y + 1) (z := z) (by omega)
    have e3 : decide (lenS y ≤ d - ydS y) = true := by rw [decide_eq_true_eq]; omega
    have e0 := yd_mono (y := 1970) (z := y) hy
    rw [yd0] at e0
    have e4 : wrapI .i64 (d - ydS y - lenS y) = d - ydS (y + 1) := by rw [wrap_id (by omega) (by omega)]; omega
    have ih := l_parts0 d n z h1 h2 hz hd ks m (y + 1) B hB' (by omega) (by omega)
    unfold Loop at hB
    simp -implicitDefEqProofs only [↓reduceIte, go_sem, Nat.reduceAdd, Nat.reduceSub, Nat.reduceMul, Nat.reduceBEq, Nat.reduceLeDiff, Nat.reduceLT, Nat.reduceEqDiff, reduceCtorEq, Int.reduceBEq, Int.reduceBNe, Int.reduceLT, Int.reduceLE, Int.reduceAdd, Int.reduceSub, Int.reduceMul, Int.reduceNeg, Int.reduceEq, Int.reduceToNat, Tryz.f130, loopOf] at hB
    subst hB
    rw [RL_eq]
    simp -implicitDefEqProofs only [↓reduceIte, go_sem, Nat.reduceAdd, Nat.reduceSub, Nat.reduceMul, Nat.reduceBEq, Nat.reduceLeDiff, Nat.reduceLT, Nat.reduceEqDiff, reduceCtorEq, Int.reduceBEq, Int.reduceBNe, Int.reduceLT, Int.reduceLE, Int.reduceAdd, Int.reduceSub, Int.reduceMul, Int.reduceNeg, Int.reduceEq, Int.reduceToNat, e1, e2, e3, e4, ih]
    repeat' ((first | refine split_cond (fun hc => ?_) (fun hc => ?_) | refine split_yes (fun hc => ?_) (fun hc => ?_) | refine split_no (fun hc => ?_) (fun hc => ?_)) <;> simp -implicitDefEqProofs only [hc, ↓reduceIte, go_sem, Nat.reduceAdd, Nat.reduceSub, Nat.reduceMul, Nat.reduceBEq, Nat.reduceLeDiff, Nat.reduceLT, Nat.reduceEqDiff, reduceCtorEq, Int.reduceBEq, Int.reduceBNe, Int.reduceLT, Int.reduceLE, Int.reduceAdd, Int.reduceSub, Int.reduceMul, Int.reduceNeg, Int.reduceEq, Int.reduceToNat, e1, e2, e3, e4, ih])
theorem l_parts2 (y n : Int) (h0 : 0 ≤ y) (ks : List It) : ∀ (f : Nat) (m r : Int) (B : Code), Loop Tryz.f130 2 B → 0 ≤ r → r < restS f y m → r ≤ 400 → 0 ≤ m → m + f ≤ 100 →
   RL K (.run 130 0 (.code B :: .lp B (some ([0, 2, 3, 4, 5], [])) 1 :: .blk 2 1 :: ks) [(0, I n), (2, .ptr 0 0), (3, I r), (4, I y), (5, I m)] [.cells [I 0, I 0, I 0, I 0, I 0, I 0]]) =
   R K (.run 130 0 ks [(0, I n), (2, .ptr 0 0), (3, I (monthUp f y m r).2), (4, I y), (5, I (monthUp f y m r).1)] [.cells [I 0, I 0, I 0, I 0, I 0, I 0]])
  | 0, m, r, B, hB, hr, hl, _, _, _ => by simp only [restS] at hl; omega
  | f + 1, m, r, B, hB, hr, hl, hr4, hm0, hm => by
    have hB' := hB
    simp only [restS] at hl
    have e1 := r_md y m h0
    have e2 := md_wrap y m r hr hr4
    have e3 : wrapI .i64 (m + 1) = m + 1 := wrap_id (by omega) (by omega)
    have hp := md_pos y m
    by_cases h : mdS y m ≤ r
    · have e4 : decide (mdS y m ≤ r) = true := by simp [h]
      have ih := l_parts2 y n h0 ks f (m + 1) (r - mdS y m) B hB' (by omega) (by omega) (by omega) (by omega) (by omega)
      have e5 : monthUp (f + 1) y m r = monthUp f y (m + 1) (r - mdS y m) := by simp only [monthUp]; rw [if_pos h]
      rw [e5]
      unfold Loop at hB
      simp -implicitDefEqProofs only [↓reduceIte, go_sem, Nat.reduceAdd, Nat.reduceSub, Nat.reduceMul, Nat.reduceBEq, Nat.reduceLeDiff, Nat.reduceLT, Nat.reduceEqDiff, reduceCtorEq, Int.reduceBEq, Int.reduceBNe, Int.reduceLT, Int.reduceLE, Int.reduceAdd, Int.reduceSub, Int.reduceMul, Int.reduceNeg, Int.reduceEq, Int.reduceToNat, Tryz.f130, loopOf] at hB
      subst hB
      rw [RL_eq]
      simp -implicitDefEqProofs only [↓reduceIte, go_sem, Nat.reduceAdd, Nat.reduceSub, Nat.reduceMul, Nat.reduceBEq, Nat.reduceLeDiff, Nat.reduceLT, Nat.reduceEqDiff, reduceCtorEq, Int.reduceBEq, Int.reduceBNe, Int.reduceLT, Int.reduceLE, Int.reduceAdd, Int.reduceSub, Int.reduceMul, Int.reduceNeg, Int.reduceEq, Int.reduceToNat, e1, e2, e3, e4, ih]
      repeat' ((first | refine split_cond (fun hc => ?_) (fun hc => ?_) | refine split_yes (fun hc => ?_) (fun hc => ?_) | refine split_no (fun hc => ?_) (fun hc => ?_)) <;> simp -implicitDefEqProofs only [hc, ↓reduceIte, go_sem, Nat.reduceAdd, Nat.reduceSub, Nat.reduceMul, Nat.reduceBEq, Nat.reduceLeDiff, Nat.reduceLT, Nat.reduceEqDiff, reduceCtorEq, Int.reduceBEq, Int.reduceBNe, Int.reduceLT, Int.reduceLE, Int.reduceAdd, Int.reduceSub, Int.reduceMul, Int.reduceNeg, Int.reduceEq, Int.reduceToNat, e1, e2, e3, e4, ih])
    · have e4 : decide (mdS y m ≤ r) = false := by simpa using h
      have e5 : monthUp (f + 1) y m r = (m, r) := by simp only [monthUp]; rw [if_neg h]
      rw [e5]
      unfold Loop at hB
      simp -implicitDefEqProofs only [↓reduceIte, go_sem, Nat.reduceAdd, Nat.reduceSub, Nat.reduceMul, Nat.reduceBEq, Nat.reduceLeDiff, Nat.reduceLT, Nat.reduceEqDiff, reduceCtorEq, Int.reduceBEq, Int.reduceBNe, Int.reduceLT, Int.reduceLE, Int.reduceAdd, Int.reduceSub, Int.reduceMul, Int.reduceNeg, Int.reduceEq, Int.reduceToNat, Tryz.f130, loopOf] at hB
      subst hB
      rw [RL_eq]
      simp -implicitDefEqProofs only [↓reduceIte, go_sem, Nat.reduceAdd, Nat.reduceSub, Nat.reduceMul, Nat.reduceBEq, Nat.reduceLeDiff, Nat.reduceLT, Nat.reduceEqDiff, reduceCtorEq, Int.reduceBEq, Int.reduceBNe, Int.reduceLT, Int.reduceLE, Int.reduceAdd, Int.reduceSub, Int.reduceMul, Int.reduceNeg, Int.reduceEq, Int.reduceToNat, e1, e4]
      repeat' ((first | refine split_cond (fun hc => ?_) (fun hc => ?_) | refine split_yes (fun hc => ?_) (fun hc => ?_) | refine split_no (fun hc => ?_) (fun hc => ?_)) <;> simp -implicitDefEqProofs only [hc, ↓reduceIte, go_sem, Nat.reduceAdd, Nat.reduceSub, Nat.reduceMul, Nat.reduceBEq, Nat.reduceLeDiff, Nat.reduceLT, Nat.reduceEqDiff, reduceCtorEq, Int.reduceBEq, Int.reduceBNe, Int.reduceLT, Int.reduceLE, Int.reduceAdd, Int.reduceSub, Int.reduceMul, Int.reduceNeg, Int.reduceEq, Int.reduceToNat, e1, e4])
theorem r_parts (n : Int) (h0 : 0 ≤ n) (h1 : n ≤ 253402300799) : R K (.call 130 [I n] []) = some (.agg ((dateS n).reverse.map I), []) := by
  have hb := date_bounds h0 h1
  have hs := year_spec (d := n / 86400) (by omega)
  have hlen := yd_next (yearS (n / 86400))
  have hlp := len_pos (yearS (n / 86400))
  have e1 : wrapI .i64 (n.tdiv 86400) = n / 86400 := by rw [td _ _ h0]; exact wrap_id (by omega) (by omega)
  have e7 : wrapI .i64 ((ymS n).2 + 1) = (ymS n).2 + 1 := by have := md_pos (yearS (n / 86400)) (ymS n).1; exact wrap_id (by omega) (by omega)
  have e8 : n.tmod 60 = n % 86400 % 60 := by rw [tm _ _ h0]; omega
  have e9 : wrapI .i64 (n.tdiv 60) = n / 60 := by rw [td _ _ h0]; exact wrap_id (by omega) (by omega)
  have e10 : (n / 60).tmod 60 = n % 86400 % 3600 / 60 := by rw [tm _ _ (by omega)]; omega
  have e11 : wrapI .i64 (n.tdiv 3600) = n / 3600 := by rw [td _ _ h0]; exact wrap_id (by omega) (by omega)
  have e12 : (n / 3600).tmod 24 = n % 86400 / 3600 := by rw [tm _ _ (by omega)]; omega
  have hm : monthUp 12 (yearS (n / 86400)) 1 (n / 86400 - ydS (yearS (n / 86400))) = ymS n := rfl
  have e13 : n / 86400 = n / 86400 - ydS 1970 := by rw [yd0]; omega
  rw [call_130]
  simp -implicitDefEqProofs only [↓reduceIte, go_sem, Nat.reduceAdd, Nat.reduceSub, Nat.reduceMul, Nat.reduceBEq, Nat.reduceLeDiff, Nat.reduceLT, Nat.reduceEqDiff, reduceCtorEq, Int.reduceBEq, Int.reduceBNe, Int.reduceLT, Int.reduceLE, Int.reduceAdd, Int.reduceSub, Int.reduceMul, Int.reduceNeg, Int.reduceEq, Int.reduceToNat, Tryz.f130, e1]
  repeat' ((first | refine split_cond (fun hc => ?_) (fun hc => ?_) | refine split_yes (fun hc => ?_) (fun hc => ?_) | refine split_no (fun hc => ?_) (fun hc => ?_)) <;> simp -implicitDefEqProofs only [hc, ↓reduceIte, go_sem, Nat.reduceAdd, Nat.reduceSub, Nat.reduceMul, Nat.reduceBEq, Nat.reduceLeDiff, Nat.reduceLT, Nat.reduceEqDiff, reduceCtorEq, Int.reduceBEq, Int.reduceBNe, Int.reduceLT, Int.reduceLE, Int.reduceAdd, Int.reduceSub, Int.reduceMul, Int.reduceNeg, Int.reduceEq, Int.reduceToNat, e1])
  have l0 := l_parts0 (n / 86400) n (yearS (n / 86400)) hs.2.1 hs.2.2 hb.2.1 ⟨by omega, by omega⟩
  rw [show ((.int .i64 (n / 86400)) : AV) = I (n / 86400 - ydS 1970) from congrArg I e13]
  rw [l0 _ (yearS (n / 86400) - 1970).toNat 1970 _ ?_ (by omega) (by omega)]
  · simp -implicitDefEqProofs only [↓reduceIte, go_sem, Nat.reduceAdd, Nat.reduceSub, Nat.reduceMul, Nat.reduceBEq, Nat.reduceLeDiff, Nat.reduceLT, Nat.reduceEqDiff, reduceCtorEq, Int.reduceBEq, Int.reduceBNe, Int.reduceLT, Int.reduceLE, Int.reduceAdd, Int.reduceSub, Int.reduceMul, Int.reduceNeg, Int.reduceEq, Int.reduceToNat]
    repeat' ((first | refine split_cond (fun hc => ?_) (fun hc => ?_) | refine split_yes (fun hc => ?_) (fun hc => ?_) | refine split_no (fun hc => ?_) (fun hc => ?_)) <;> simp -implicitDefEqProofs only [hc, ↓reduceIte, go_sem, Nat.reduceAdd, Nat.reduceSub, Nat.reduceMul, Nat.reduceBEq, Nat.reduceLeDiff, Nat.reduceLT, Nat.reduceEqDiff, reduceCtorEq, Int.reduceBEq, Int.reduceBNe, Int.reduceLT, Int.reduceLE, Int.reduceAdd, Int.reduceSub, Int.reduceMul, Int.reduceNeg, Int.reduceEq, Int.reduceToNat])
    rw [l_parts2 (yearS (n / 86400)) n (by omega) _ 12 1 _ _ ?_ (by omega) (by rw [rest_len]; omega) (by omega) (by omega) (by omega), hm]
    · simp -implicitDefEqProofs only [↓reduceIte, go_sem, Nat.reduceAdd, Nat.reduceSub, Nat.reduceMul, Nat.reduceBEq, Nat.reduceLeDiff, Nat.reduceLT, Nat.reduceEqDiff, reduceCtorEq, Int.reduceBEq, Int.reduceBNe, Int.reduceLT, Int.reduceLE, Int.reduceAdd, Int.reduceSub, Int.reduceMul, Int.reduceNeg, Int.reduceEq, Int.reduceToNat, e7, e8, e9, e10, e11, e12]
      repeat' ((first | refine split_cond (fun hc => ?_) (fun hc => ?_) | refine split_yes (fun hc => ?_) (fun hc => ?_) | refine split_no (fun hc => ?_) (fun hc => ?_)) <;> simp -implicitDefEqProofs only [hc, ↓reduceIte, go_sem, Nat.reduceAdd, Nat.reduceSub, Nat.reduceMul, Nat.reduceBEq, Nat.reduceLeDiff, Nat.reduceLT, Nat.reduceEqDiff, reduceCtorEq, Int.reduceBEq, Int.reduceBNe, Int.reduceLT, Int.reduceLE, Int.reduceAdd, Int.reduceSub, Int.reduceMul, Int.reduceNeg, Int.reduceEq, Int.reduceToNat, e7, e8, e9, e10, e11, e12])
      rfl
    · rfl
  · rfl
theorem ahead_bounds (y : Int) : ∀ k : Nat, 0 ≤ aheadS k y ∧ aheadS k y ≤ 31 * k
  | 0 => by simp [aheadS]
  | k + 1 => by
    have ih := ahead_bounds y k
    have := md_pos y ((k + 1 : Nat) : Int)
    simp only [aheadS]
    omega
theorem l_Date (y m h mi s base : Int) (h0 : 0 ≤ y) (hm1 : 1 ≤ m) (hm2 : m ≤ 12) (hb : 0 ≤ base ∧ base ≤ 3000000) (ks : List It) : ∀ (j k : Nat) (B : Code), Loop Tryz.f183 0 B → ((k + j + 1 : Nat) : Int) = m →
   RL K (.run 183 0 (.code B :: .lp B (some ([0, 1, 3, 4, 5, 12, 13, 14], [])) 1 :: .blk 0 1 :: ks) [(0, I y), (1, I m), (3, I h), (4, I mi), (5, I s), (12, .ptr 0 0), (13, I (base + aheadS k y)), (14, I ((k + 1 : Nat) : Int))] [.cells [I 0, I 0, .str []]]) =
   R K (.run 183 0 ks [(3, I h), (4, I mi), (5, I s), (12, .ptr 0 0), (13, I (base + aheadS (m - 1).toNat y))] [.cells [I 0, I 0, .str []]])
  | 0, k, B, hB, hj => by
    have e1 : decide (((k + 1 : Nat) : Int) < m) = false := by simp; omega
    have e2 : (m - 1).toNat = k := by omega
    rw [e2]
    unfold Loop at hB
    simp -implicitDefEqProofs only [↓reduceIte, go_sem, Nat.reduceAdd, Nat.reduceSub, Nat.reduceMul, Nat.reduceBEq, Nat.reduceLeDiff, Nat.reduceLT, Nat.reduceEqDiff, reduceCtorEq, Int.reduceBEq, Int.reduceBNe, Int.reduceLT, Int.reduceLE, Int.reduceAdd, Int.reduceSub, Int.reduceMul, Int.reduceNeg, Int.reduceEq, Int.reduceToNat, Tryz.f183, loopOf] at hB
    subst hB
    rw [RL_eq]
    simp -implicitDefEqProofs only [↓reduceIte, go_sem, Nat.reduceAdd, Nat.reduceSub, Nat.reduceMul, Nat.reduceBEq, Nat.reduceLeDiff, Nat.reduceLT, Nat.reduceEqDiff, reduceCtorEq, Int.reduceBEq, Int.reduceBNe, Int.reduceLT, Int.reduceLE, Int.reduceAdd, Int.reduceSub, Int.reduceMul, Int.reduceNeg, Int.reduceEq, Int.reduceToNat, e1]
    repeat' ((first | refine split_cond (fun hc => ?_) (fun hc => ?_) | refine split_yes (fun hc => ?_) (fun hc => ?_) | refine split_no (fun hc => ?_) (fun hc => ?_)) <;> simp -implicitDefEqProofs only [hc, ↓reduceIte, go_sem, Nat.reduceAdd, Nat.reduceSub, Nat.reduceMul, Nat.reduceBEq, Nat.reduceLeDiff, Nat.reduceLT, Nat.reduceEqDiff, reduceCtorEq, Int.reduceBEq, Int.reduceBNe, Int.reduceLT, Int.reduceLE, Int.reduceAdd, Int.reduceSub, Int.reduceMul, Int.reduceNeg, Int.reduceEq, Int.reduceToNat, e1])
  | j + 1, k, B, hB, hj => by
    have hB' := hB
    have e1 : decide (((k + 1 : Nat) : Int) < m) = true := by rw [decide_eq_true_eq]; omega
    have e2 := c_md y ((k + 1 : Nat) : Int) h0
    have e3 : wrapI .i64 (((k + 1 : Nat) : Int) + 1) = ((k + 1 + 1 : Nat) : Int) := next_id (i := k + 1) (n := 1000) (by omega) (by omega)
    have ha := ahead_bounds y k
    have hp := md_pos y ((k + 1 : Nat) : Int)
    have e4 : wrapI .i64 (base + aheadS k y + mdS y ((k + 1 : Nat) : Int)) = base + aheadS (k + 1) y := by
      rw [wrap_id (by omega) (by omega)]; simp only [aheadS]; omega
    have ih := l_Date y m h mi s base h0 hm1 hm2 hb ks j (k + 1) B hB' (by omega)
    unfold Loop at hB
    simp -implicitDefEqProofs only [↓reduceIte, go_sem, Nat.reduceAdd, Nat.reduceSub, Nat.reduceMul, Nat.reduceBEq, Nat.reduceLeDiff, Nat.reduceLT, Nat.reduceEqDiff, reduceCtorEq, Int.reduceBEq, Int.reduceBNe, Int.reduceLT, Int.reduceLE, Int.reduceAdd, Int.reduceSub, Int.reduceMul, Int.reduceNeg, Int.reduceEq, Int.reduceToNat, Tryz.f183, loopOf] at hB
    subst hB
    rw [RL_eq]
    simp -implicitDefEqProofs only [↓reduceIte, go_sem, Nat.reduceAdd, Nat.reduceSub, Nat.reduceMul, Nat.reduceBEq, Nat.reduceLeDiff, Nat.reduceLT, Nat.reduceEqDiff, reduceCtorEq, Int.reduceBEq, Int.reduceBNe, Int.reduceLT, Int.reduceLE, Int.reduceAdd, Int.reduceSub, Int.reduceMul, Int.reduceNeg, Int.reduceEq, Int.reduceToNat, e1, e2, e3, e4, ih]
    repeat' ((first | refine split_cond (fun hc => ?_) (fun hc => ?_) | refine split_yes (fun hc => ?_) (fun hc => ?_) | refine split_no (fun hc => ?_) (fun hc => ?_)) <;> simp -implicitDefEqProofs only [hc, ↓reduceIte, go_sem, Nat.reduceAdd, Nat.reduceSub, Nat.reduceMul, Nat.reduceBEq, Nat.reduceLeDiff, Nat.reduceLT, Nat.reduceEqDiff, reduceCtorEq, Int.reduceBEq, Int.reduceBNe, Int.reduceLT, Int.reduceLE, Int.reduceAdd, Int.reduceSub, Int.reduceMul, Int.reduceNeg, Int.reduceEq, Int.reduceToNat, e1, e2, e3, e4, ih])
theorem l_Dated0 (y m h mi s base : Int) (h0 : 1970 ≤ y) (hy : y ≤ 9999) (hb : 0 ≤ base ∧ base ≤ 100) (ks : List It) : ∀ (j : Nat) (k : Int) (B : Code), Loop Tryz.f136 0 B → k + j = y → 1970 ≤ k →
   RL K (.run 136 0 (.code B :: .lp B (some ([0, 1, 3, 4, 5, 12, 13, 14], [])) 1 :: .blk 0 1 :: ks) [(0, I y), (1, I m), (3, I h), (4, I mi), (5, I s), (12, .ptr 0 0), (13, I (base + ydS k)), (14, I k)] [.cells [I 0, I 0, .str []]]) =
   R K (.run 136 0 ks [(0, I y), (1, I m), (3, I h), (4, I mi), (5, I s), (12, .ptr 0 0), (13, I (base + ydS y))] [.cells [I 0, I 0, .str []]])
  | 0, k, B, hB, hj, hk => by
    have hky : k = y := by omega
    subst hky
    have e1 : decide (k < k) = false := by simp
    unfold Loop at hB
    simp -implicitDefEqProofs only [↓reduceIte, go_sem, Nat.reduceAdd, Nat.reduceSub, Nat.reduceMul, Nat.reduceBEq, Nat.reduceLeDiff, Nat.reduceLT, Nat.reduceEqDiff, reduceCtorEq, Int.reduceBEq, Int.reduceBNe, Int.reduceLT, Int.reduceLE, Int.reduceAdd, Int.reduceSub, Int.reduceMul, Int.reduceNeg, Int.reduceEq, Int.reduceToNat, Tryz.f136, loopOf] at hB
    subst hB
    rw [RL_eq]
    simp -implicitDefEqProofs only [↓reduceIte, go_sem, Nat.reduceAdd, Nat.reduceSub, Nat.reduceMul, Nat.reduceBEq, Nat.reduceLeDiff, Nat.reduceLT, Nat.reduceEqDiff, reduceCtorEq, Int.reduceBEq, Int.reduceBNe, Int.reduceLT, Int.reduceLE, Int.reduceAdd, Int.reduceSub, Int.reduceMul, Int.reduceNeg, Int.reduceEq, Int.reduceToNat, e1]
    repeat' ((first | refine split_cond (fun hc => ?_) (fun hc => ?_) | refine split_yes (fun hc => ?_) (fun hc => ?_) | refine split_no (fun hc => ?_) (fun hc => ?_)) <;> simp -implicitDefEqProofs only [hc, ↓reduceIte, go_sem, Nat.reduceAdd, Nat.reduceSub, Nat.reduceMul, Nat.reduceBEq, Nat.reduceLeDiff, Nat.reduceLT, Nat.reduceEqDiff, reduceCtorEq, Int.reduceBEq, Int.reduceBNe, Int.reduceLT, Int.reduceLE, Int.reduceAdd, Int.reduceSub, Int.reduceMul, Int.reduceNeg, Int.reduceEq, Int.reduceToNat, e1])
  | j + 1, k, B, hB, hj, hk => by
    have hB' := hB
    have e1 : decide (k < y) = true := by rw [decide_eq_true_eq]; omega
    have e2 := r_yearDays k (by omega)
    have e3 : wrapI .i64 (k + 1) = k + 1 := wrap_id (by omega) (by omega)
    have en := yd_next k
    have el := len_pos k
    have et := yd_lt (y := k) (by omega)
    have e0 := yd_mono (y := 1970) (z := k) hk
    rw [yd0] at e0
    have e4 : wrapI .i64 (base + ydS k + lenS k) = base + ydS (k + 1) := by
      rw [wrap_id (by omega) (by omega)]; omega
    have ih := l_Dated0 y m h mi s base h0 hy hb ks j (k + 1) B hB' (by omega) (by omega)
    unfold Loop at hB
    simp -implicitDefEqProofs only [↓reduceIte, go_sem, Nat.reduceAdd, Nat.reduceSub, Nat.reduceMul, Nat.reduceBEq, Nat.reduceLeDiff, Nat.reduceLT, Nat.reduceEqDiff, reduceCtorEq, Int.reduceBEq, Int.reduceBNe, Int.reduceLT, Int.reduceLE, Int.reduceAdd, Int.reduceSub, Int.reduceMul, Int.reduceNeg, Int.reduceEq, Int.reduceToNat, Tryz.f136, loopOf] at hB
    subst hB
    rw [RL_eq]
    simp -implicitDefEqProofs only [↓reduceIte, go_sem, Nat.reduceAdd, Nat.reduceSub, Nat.reduceMul, Nat.reduceBEq, Nat.reduceLeDiff, Nat.reduceLT, Nat.reduceEqDiff, reduceCtorEq, Int.reduceBEq, Int.reduceBNe, Int.reduceLT, Int.reduceLE, Int.reduceAdd, Int.reduceSub, Int.reduceMul, Int.reduceNeg, Int.reduceEq, Int.reduceToNat, e1, e2, e3, e4, ih]
    repeat' ((first | refine split_cond (fun hc => ?_) (fun hc => ?_) | refine split_yes (fun hc => ?_) (fun hc => ?_) | refine split_no (fun hc => ?_) (fun hc => ?_)) <;> simp -implicitDefEqProofs only [hc, ↓reduceIte, go_sem, Nat.reduceAdd, Nat.reduceSub, Nat.reduceMul, Nat.reduceBEq, Nat.reduceLeDiff, Nat.reduceLT, Nat.reduceEqDiff, reduceCtorEq, Int.reduceBEq, Int.reduceBNe, Int.reduceLT, Int.reduceLE, Int.reduceAdd, Int.reduceSub, Int.reduceMul, Int.reduceNeg, Int.reduceEq, Int.reduceToNat, e1, e2, e3, e4, ih])
theorem l_Dated2 (y m h mi s base : Int) (h0 : 0 ≤ y) (hm1 : 1 ≤ m) (hm2 : m ≤ 12) (hb : 0 ≤ base ∧ base ≤ 3000000) (ks : List It) : ∀ (j k : Nat) (B : Code), Loop Tryz.f136 2 B → ((k + j + 1 : Nat) : Int) = m →
   RL K (.run 136 0 (.code B :: .lp B (some ([0, 1, 3, 4, 5, 12, 13, 15], [])) 1 :: .blk 2 1 :: ks) [(0, I y), (1, I m), (3, I h), (4, I mi), (5, I s), (12, .ptr 0 0), (13, I (base + aheadS k y)), (15, I ((k + 1 : Nat) : Int))] [.cells [I 0, I 0, .str []]]) =
   R K (.run 136 0 ks [(3, I h), (4, I mi), (5, I s), (12, .ptr 0 0), (13, I (base + aheadS (m - 1).toNat y))] [.cells [I 0, I 0, .str []]])
  | 0, k, B, hB, hj => by
    have e1 : decide (((k + 1 : Nat) : Int) < m) = false := by simp; omega
    have e2 : (m - 1).toNat = k := by omega
    rw [e2]
    unfold Loop at hB
    simp -implicitDefEqProofs only [↓reduceIte, go_sem, Nat.reduceAdd, Nat.reduceSub, Nat.reduceMul, Nat.reduceBEq, Nat.reduceLeDiff, Nat.reduceLT, Nat.reduceEqDiff, reduceCtorEq, Int.reduceBEq, Int.reduceBNe, Int.reduceLT, Int.reduceLE, Int.reduceAdd, Int.reduceSub, Int.reduceMul, Int.reduceNeg, Int.reduceEq, Int.reduceToNat, Tryz.f136, loopOf] at hB
    subst hB
    rw [RL_eq]
    simp -implicitDefEqProofs only [↓reduceIte, go_sem, Nat.reduceAdd, Nat.reduceSub, Nat.reduceMul, Nat.reduceBEq, Nat.reduceLeDiff, Nat.reduceLT, Nat.reduceEqDiff, reduceCtorEq, Int.reduceBEq, Int.reduceBNe, Int.reduceLT, Int.reduceLE, Int.reduceAdd, Int.reduceSub, Int.reduceMul, Int.reduceNeg, Int.reduceEq, Int.reduceToNat, e1]
    repeat' ((first | refine split_cond (fun hc => ?_) (fun hc => ?_) | refine split_yes (fun hc => ?_) (fun hc => ?_) | refine split_no (fun hc => ?_) (fun hc => ?_)) <;> simp -implicitDefEqProofs only [hc, ↓reduceIte, go_sem, Nat.reduceAdd, Nat.reduceSub, Nat.reduceMul, Nat.reduceBEq, Nat.reduceLeDiff, Nat.reduceLT, Nat.reduceEqDiff, reduceCtorEq, Int.reduceBEq, Int.reduceBNe, Int.reduceLT, Int.reduceLE, Int.reduceAdd, Int.reduceSub, Int.reduceMul, Int.reduceNeg, Int.reduceEq, Int.reduceToNat, e1])
  | j + 1, k, B, hB, hj => by
    have hB' := hB
    have e1 : decide (((k + 1 : Nat) : Int) < m) = true := by rw [decide_eq_true_eq]; omega
    have e2 := r_md y ((k + 1 : Nat) : Int) h0
    have e3 : wrapI .i64 (((k + 1 : Nat) : Int) + 1) = ((k + 1 + 1 : Nat) : Int) := next_id (i := k + 1) (n := 1000) (by omega) (by omega)
    have ha := ahead_bounds y k
    have hp := md_pos y ((k + 1 : Nat) : Int)
    have e4 : wrapI .i64 (base + aheadS k y + mdS y ((k + 1 : Nat) : Int)) = base + aheadS (k + 1) y := by
      rw [wrap_id (by omega) (by omega)]; simp only [aheadS]; omega
    have ih := l_Dated2 y m h mi s base h0 hm1 hm2 hb ks j (k + 1) B hB' (by omega)
    unfold Loop at hB
    simp -implicitDefEqProofs only [↓reduceIte, go_sem, Nat.reduceAdd, Nat.reduceSub, Nat.reduceMul, Nat.reduceBEq, Nat.reduceLeDiff, Nat.reduceLT, Nat.reduceEqDiff, reduceCtorEq, Int.reduceBEq, Int.reduceBNe, Int.reduceLT, Int.reduceLE, Int.reduceAdd, Int.reduceSub, Int.reduceMul, Int.reduceNeg, Int.reduceEq, Int.reduceToNat, Tryz.f136, loopOf] at hB
    subst hB
    rw [RL_eq]
    simp -implicitDefEqProofs only [↓reduceIte, go_sem, Nat.reduceAdd, Nat.reduceSub, Nat.reduceMul, Nat.reduceBEq, Nat.reduceLeDiff, Nat.reduceLT, Nat.reduceEqDiff, reduceCtorEq, Int.reduceBEq, Int.reduceBNe, Int.reduceLT, Int.reduceLE, Int.reduceAdd, Int.reduceSub, Int.reduceMul, Int.reduceNeg, Int.reduceEq, Int.reduceToNat, e1, e2, e3, e4, ih]
    repeat' ((first | refine split_cond (fun hc => ?_) (fun hc => ?_) | refine split_yes (fun hc => ?_) (fun hc => ?_) | refine split_no (fun hc => ?_) (fun hc => ?_)) <;> simp -implicitDefEqProofs only [hc, ↓reduceIte, go_sem, Nat.reduceAdd, Nat.reduceSub, Nat.reduceMul, Nat.reduceBEq, Nat.reduceLeDiff, Nat.reduceLT, Nat.reduceEqDiff, reduceCtorEq, Int.reduceBEq, Int.reduceBNe, Int.reduceLT, Int.reduceLE, Int.reduceAdd, Int.reduceSub, Int.reduceMul, Int.reduceNeg, Int.reduceEq, Int.reduceToNat, e1, e2, e3, e4, ih])
theorem wit_iff (x a b : Int) : within x a b = true ↔ a ≤ x ∧ x ≤ b := by simp [within]
theorem within_no {x a b : Int} (h : ¬ (a ≤ x ∧ x ≤ b)) : within x a b = false := by
  rw [Bool.eq_false_iff]; exact fun e => h ((wit_iff x a b).1 e)
theorem dateV_no {y m d h mi s : Int} (H : ¬ (1970 ≤ y ∧ y ≤ 9999 ∧ 1 ≤ m ∧ m ≤ 12 ∧ 1 ≤ d ∧ d ≤ mdS y m ∧ 0 ≤ h ∧ h ≤ 23 ∧ 0 ≤ mi ∧ mi ≤ 59 ∧ 0 ≤ s ∧ s ≤ 59)) : dateV y m d h mi s = null := if_neg H
theorem c_Date (y m d h mi s : Int) : R K (.call 183 [I y, I m, I d, I h, I mi, I s] []) = some (enc (dateV y m d h mi s), []) := by
  by_cases hy : ¬ (1970 ≤ y ∧ y ≤ 9999)
  · rw [dateV_no (by omega)]
    have w := within_no hy
    rw [call_183]
    simp -implicitDefEqProofs only [↓reduceIte, go_sem, Nat.reduceAdd, Nat.reduceSub, Nat.reduceMul, Nat.reduceBEq, Nat.reduceLeDiff, Nat.reduceLT, Nat.reduceEqDiff, reduceCtorEq, Int.reduceBEq, Int.reduceBNe, Int.reduceLT, Int.reduceLE, Int.reduceAdd, Int.reduceSub, Int.reduceMul, Int.reduceNeg, Int.reduceEq, Int.reduceToNat, Tryz.f183, c_within, w]
    repeat' ((first | refine split_cond (fun hc => ?_) (fun hc => ?_) | refine split_yes (fun hc => ?_) (fun hc => ?_) | refine split_no (fun hc => ?_) (fun hc => ?_)) <;> simp -implicitDefEqProofs only [hc, ↓reduceIte, go_sem, Nat.reduceAdd, Nat.reduceSub, Nat.reduceMul, Nat.reduceBEq, Nat.reduceLeDiff, Nat.reduceLT, Nat.reduceEqDiff, reduceCtorEq, Int.reduceBEq, Int.reduceBNe, Int.reduceLT, Int.reduceLE, Int.reduceAdd, Int.reduceSub, Int.reduceMul, Int.reduceNeg, Int.reduceEq, Int.reduceToNat, c_within, w])
    rfl
  have hy := Decidable.not_not.1 hy
  have wy := (wit_iff y 1970 9999).2 hy
  by_cases hm : ¬ (1 ≤ m ∧ m ≤ 12)
  · rw [dateV_no (by omega)]
    have w := within_no hm
    rw [call_183]
    simp -implicitDefEqProofs only [↓reduceIte, go_sem, Nat.reduceAdd, Nat.reduceSub, Nat.reduceMul, Nat.reduceBEq, Nat.reduceLeDiff, Nat.reduceLT, Nat.reduceEqDiff, reduceCtorEq, Int.reduceBEq, Int.reduceBNe, Int.reduceLT, Int.reduceLE, Int.reduceAdd, Int.reduceSub, Int.reduceMul, Int.reduceNeg, Int.reduceEq, Int.reduceToNat, Tryz.f183, c_within, wy, w]
    repeat' ((first | refine split_cond (fun hc => ?_) (fun hc => ?_) | refine split_yes (fun hc => ?_) (fun hc => ?_) | refine split_no (fun hc => ?_) (fun hc => ?_)) <;> simp -implicitDefEqProofs only [hc, ↓reduceIte, go_sem, Nat.reduceAdd, Nat.reduceSub, Nat.reduceMul, Nat.reduceBEq, Nat.reduceLeDiff, Nat.reduceLT, Nat.reduceEqDiff, reduceCtorEq, Int.reduceBEq, Int.reduceBNe, Int.reduceLT, Int.reduceLE, Int.reduceAdd, Int.reduceSub, Int.reduceMul, Int.reduceNeg, Int.reduceEq, Int.reduceToNat, c_within, wy, w])
    rfl
  have hm := Decidable.not_not.1 hm
  have wm := (wit_iff m 1 12).2 hm
  have e1 := c_md y m (by omega)
  by_cases hd : ¬ (1 ≤ d ∧ d ≤ mdS y m)
  · rw [dateV_no (by omega)]
    have w := within_no hd
    rw [call_183]
    simp -implicitDefEqProofs only [↓reduceIte, go_sem, Nat.reduceAdd, Nat.reduceSub, Nat.reduceMul, Nat.reduceBEq, Nat.reduceLeDiff, Nat.reduceLT, Nat.reduceEqDiff, reduceCtorEq, Int.reduceBEq, Int.reduceBNe, Int.reduceLT, Int.reduceLE, Int.reduceAdd, Int.reduceSub, Int.reduceMul, Int.reduceNeg, Int.reduceEq, Int.reduceToNat, Tryz.f183, c_within, wy, wm, e1, w]
    repeat' ((first | refine split_cond (fun hc => ?_) (fun hc => ?_) | refine split_yes (fun hc => ?_) (fun hc => ?_) | refine split_no (fun hc => ?_) (fun hc => ?_)) <;> simp -implicitDefEqProofs only [hc, ↓reduceIte, go_sem, Nat.reduceAdd, Nat.reduceSub, Nat.reduceMul, Nat.reduceBEq, Nat.reduceLeDiff, Nat.reduceLT, Nat.reduceEqDiff, reduceCtorEq, Int.reduceBEq, Int.reduceBNe, Int.reduceLT, Int.reduceLE, Int.reduceAdd, Int.reduceSub, Int.reduceMul, Int.reduceNeg, Int.reduceEq, Int.reduceToNat, c_within, wy, wm, e1, w])
    rfl
  have hd := Decidable.not_not.1 hd
  have wd := (wit_iff d 1 (mdS y m)).2 hd
  by_cases hh : ¬ (0 ≤ h ∧ h ≤ 23)
  · rw [dateV_no (by omega)]
    have w := within_no hh
    rw [call_183]
    simp -implicitDefEqProofs only [↓reduceIte, go_sem, Nat.reduceAdd, Nat.reduceSub, Nat.reduceMul, Nat.reduceBEq, Nat.reduceLeDiff, Nat.reduceLT, Nat.reduceEqDiff, reduceCtorEq, Int.reduceBEq, Int.reduceBNe, Int.reduceLT, Int.reduceLE, Int.reduceAdd, Int.reduceSub, Int.reduceMul, Int.reduceNeg, Int.reduceEq, Int.reduceToNat, Tryz.f183, c_within, wy, wm, e1, wd, w]
    repeat' ((first | refine split_cond (fun hc => ?_) (fun hc => ?_) | refine split_yes (fun hc => ?_) (fun hc => ?_) | refine split_no (fun hc => ?_) (fun hc => ?_)) <;> simp -implicitDefEqProofs only [hc, ↓reduceIte, go_sem, Nat.reduceAdd, Nat.reduceSub, Nat.reduceMul, Nat.reduceBEq, Nat.reduceLeDiff, Nat.reduceLT, Nat.reduceEqDiff, reduceCtorEq, Int.reduceBEq, Int.reduceBNe, Int.reduceLT, Int.reduceLE, Int.reduceAdd, Int.reduceSub, Int.reduceMul, Int.reduceNeg, Int.reduceEq, Int.reduceToNat, c_within, wy, wm, e1, wd, w])
    rfl
  have hh := Decidable.not_not.1 hh
  have wh := (wit_iff h 0 23).2 hh
  by_cases hi : ¬ (0 ≤ mi ∧ mi ≤ 59)
  · rw [dateV_no (by omega)]
    have w := within_no hi
    rw [call_183]
    simp -implicitDefEqProofs only [↓reduceIte, go_sem, Nat.reduceAdd, Nat.reduceSub, Nat.reduceMul, Nat.reduceBEq, Nat.reduceLeDiff, Nat.reduceLT, Nat.reduceEqDiff, reduceCtorEq, Int.reduceBEq, Int.reduceBNe, Int.reduceLT, Int.reduceLE, Int.reduceAdd, Int.reduceSub, Int.reduceMul, Int.reduceNeg, Int.reduceEq, Int.reduceToNat, Tryz.f183, c_within, wy, wm, e1, wd, wh, w]
    repeat' ((first | refine split_cond (fun hc => ?_) (fun hc => ?_) | refine split_yes (fun hc => ?_) (fun hc => ?_) | refine split_no (fun hc => ?_) (fun hc => ?_)) <;> simp -implicitDefEqProofs only [hc, ↓reduceIte, go_sem, Nat.reduceAdd, Nat.reduceSub, Nat.reduceMul, Nat.reduceBEq, Nat.reduceLeDiff, Nat.reduceLT, Nat.reduceEqDiff, reduceCtorEq, Int.reduceBEq, Int.reduceBNe, Int.reduceLT, Int.reduceLE, Int.reduceAdd, Int.reduceSub, Int.reduceMul, Int.reduceNeg, Int.reduceEq, Int.reduceToNat, c_within, wy, wm, e1, wd, wh, w])
    rfl
  have hi := Decidable.not_not.1 hi
  have wi := (wit_iff mi 0 59).2 hi
  by_cases hs : ¬ (0 ≤ s ∧ s ≤ 59)
  · rw [dateV_no (by omega)]
    have w := within_no hs
    rw [call_183]
    simp -implicitDefEqProofs only [↓reduceIte, go_sem, Nat.reduceAdd, Nat.reduceSub, Nat.reduceMul, Nat.reduceBEq, Nat.reduceLeDiff, Nat.reduceLT, Nat.reduceEqDiff, reduceCtorEq, Int.reduceBEq, Int.reduceBNe, Int.reduceLT, Int.reduceLE, Int.reduceAdd, Int.reduceSub, Int.reduceMul, Int.reduceNeg, Int.reduceEq, Int.reduceToNat, Tryz.f183, c_within, wy, wm, e1, wd, wh, wi, w]
    repeat' ((first | refine split_cond (fun hc => ?_) (fun hc => ?_) | refine split_yes (fun hc => ?_) (fun hc => ?_) | refine split_no (fun hc => ?_) (fun hc => ?_)) <;> simp -implicitDefEqProofs only [hc, ↓reduceIte, go_sem, Nat.reduceAdd, Nat.reduceSub, Nat.reduceMul, Nat.reduceBEq, Nat.reduceLeDiff, Nat.reduceLT, Nat.reduceEqDiff, reduceCtorEq, Int.reduceBEq, Int.reduceBNe, Int.reduceLT, Int.reduceLE, Int.reduceAdd, Int.reduceSub, Int.reduceMul, Int.reduceNeg, Int.reduceEq, Int.reduceToNat, c_within, wy, wm, e1, wd, wh, wi, w])
    rfl
  have hs := Decidable.not_not.1 hs
  have ws := (wit_iff s 0 59).2 hs
  have hv : dateV y m d h mi s = numberS 4 (daysS y m d * 86400 + h * 3600 + mi * 60 + s) := if_pos ⟨hy.1, hy.2, hm.1, hm.2, hd.1, hd.2, hh.1, hh.2, hi.1, hi.2, hs.1, hs.2⟩
  have e0 := yd_mono (y := 1970) (z := y) hy.1
  rw [yd0] at e0
  have et := yd_lt hy.2
  have en := yd_next y
  have el := len_pos y
  have em := md_pos y m
  have ea := ahead_bounds y (m - 1).toNat
  have e2 := c_yd y (by omega) (by omega)
  have e3 : wrapI .i64 (ydS y + d) = ydS y + d := wrap_id (by omega) (by omega)
  have e4 : wrapI .i64 (ydS y + d - 1) = ydS y + d - 1 + aheadS 0 y := by rw [wrap_id (by omega) (by omega)]; simp [aheadS]
  have e5 : wrapI .i64 ((ydS y + d - 1 + aheadS (m - 1).toNat y) * 86400) = daysS y m d * 86400 := by rw [wrap_id (by omega) (by omega)]; unfold daysS; omega
  have e6 : wrapI .i64 (h * 3600) = h * 3600 := wrap_id (by omega) (by omega)
  have e7 : wrapI .i64 (daysS y m d * 86400 + h * 3600) = daysS y m d * 86400 + h * 3600 := wrap_id (by unfold daysS; omega) (by unfold daysS; omega)
  have e8 : wrapI .i64 (mi * 60) = mi * 60 := wrap_id (by omega) (by omega)
  have e9 : wrapI .i64 (daysS y m d * 86400 + h * 3600 + mi * 60) = daysS y m d * 86400 + h * 3600 + mi * 60 := wrap_id (by unfold daysS; omega) (by unfold daysS; omega)
  have e10 : wrapI .i64 (daysS y m d * 86400 + h * 3600 + mi * 60 + s) = daysS y m d * 86400 + h * 3600 + mi * 60 + s := wrap_id (by unfold daysS; omega) (by unfold daysS; omega)
  rw [hv]
  rw [call_183]
  simp -implicitDefEqProofs only [↓reduceIte, go_sem, Nat.reduceAdd, Nat.reduceSub, Nat.reduceMul, Nat.reduceBEq, Nat.reduceLeDiff, Nat.reduceLT, Nat.reduceEqDiff, reduceCtorEq, Int.reduceBEq, Int.reduceBNe, Int.reduceLT, Int.reduceLE, Int.reduceAdd, Int.reduceSub, Int.reduceMul, Int.reduceNeg, Int.reduceEq, Int.reduceToNat, Tryz.f183, c_within, wy, wm, e1, wd, wh, wi, ws, e2, e3, e4]
  repeat' ((first | refine split_cond (fun hc => ?_) (fun hc => ?_) | refine split_yes (fun hc => ?_) (fun hc => ?_) | refine split_no (fun hc => ?_) (fun hc => ?_)) <;> simp -implicitDefEqProofs only [hc, ↓reduceIte, go_sem, Nat.reduceAdd, Nat.reduceSub, Nat.reduceMul, Nat.reduceBEq, Nat.reduceLeDiff, Nat.reduceLT, Nat.reduceEqDiff, reduceCtorEq, Int.reduceBEq, Int.reduceBNe, Int.reduceLT, Int.reduceLE, Int.reduceAdd, Int.reduceSub, Int.reduceMul, Int.reduceNeg, Int.reduceEq, Int.reduceToNat, c_within, wy, wm, e1, wd, wh, wi, ws, e2, e3, e4])
  have ld := l_Date y m h mi s (ydS y + d - 1) (by omega) hm.1 hm.2 ⟨by omega, by omega⟩
  have ld := fun ks B hB => ld ks (m - 1).toNat 0 B hB (by omega)
  rw [show ((0 + 1 : Nat) : Int) = 1 from rfl] at ld
  rw [ld _ _ ?_]
  · simp -implicitDefEqProofs only [↓reduceIte, go_sem, Nat.reduceAdd, Nat.reduceSub, Nat.reduceMul, Nat.reduceBEq, Nat.reduceLeDiff, Nat.reduceLT, Nat.reduceEqDiff, reduceCtorEq, Int.reduceBEq, Int.reduceBNe, Int.reduceLT, Int.reduceLE, Int.reduceAdd, Int.reduceSub, Int.reduceMul, Int.reduceNeg, Int.reduceEq, Int.reduceToNat, e5, e6, e7, e8, e9, e10, c_number]
    repeat' ((first | refine split_cond (fun hc => ?_) (fun hc => ?_) | refine split_yes (fun hc => ?_) (fun hc => ?_) | refine split_no (fun hc => ?_) (fun hc => ?_)) <;> simp -implicitDefEqProofs only [hc, ↓reduceIte, go_sem, Nat.reduceAdd, Nat.reduceSub, Nat.reduceMul, Nat.reduceBEq, Nat.reduceLeDiff, Nat.reduceLT, Nat.reduceEqDiff, reduceCtorEq, Int.reduceBEq, Int.reduceBNe, Int.reduceLT, Int.reduceLE, Int.reduceAdd, Int.reduceSub, Int.reduceMul, Int.reduceNeg, Int.reduceEq, Int.reduceToNat, e5, e6, e7, e8, e9, e10, c_number])
  · rfl
theorem r_Dated (y m d h mi s : Int) : R K (.call 136 [I y, I m, I d, I h, I mi, I s] []) = some (enc (dateV y m d h mi s), []) := by
  by_cases hy : ¬ (1970 ≤ y ∧ y ≤ 9999)
  · rw [dateV_no (by omega)]
    have w := within_no hy
    rw [call_136]
    simp -implicitDefEqProofs only [↓reduceIte, go_sem, Nat.reduceAdd, Nat.reduceSub, Nat.reduceMul, Nat.reduceBEq, Nat.reduceLeDiff, Nat.reduceLT, Nat.reduceEqDiff, reduceCtorEq, Int.reduceBEq, Int.reduceBNe, Int.reduceLT, Int.reduceLE, Int.reduceAdd, Int.reduceSub, Int.reduceMul, Int.reduceNeg, Int.reduceEq, Int.reduceToNat, Tryz.f136, r_within, w]
    repeat' ((first | refine split_cond (fun hc => ?_) (fun hc => ?_) | refine split_yes (fun hc => ?_) (fun hc => ?_) | refine split_no (fun hc => ?_) (fun hc => ?_)) <;> simp -implicitDefEqProofs only [hc, ↓reduceIte, go_sem, Nat.reduceAdd, Nat.reduceSub, Nat.reduceMul, Nat.reduceBEq, Nat.reduceLeDiff, Nat.reduceLT, Nat.reduceEqDiff, reduceCtorEq, Int.reduceBEq, Int.reduceBNe, Int.reduceLT, Int.reduceLE, Int.reduceAdd, Int.reduceSub, Int.reduceMul, Int.reduceNeg, Int.reduceEq, Int.reduceToNat, r_within, w])
    rfl
  have hy := Decidable.not_not.1 hy
  have wy := (wit_iff y 1970 9999).2 hy
  by_cases hm : ¬ (1 ≤ m ∧ m ≤ 12)
  · rw [dateV_no (by omega)]
    have w := within_no hm
    rw [call_136]
    simp -implicitDefEqProofs only [↓reduceIte, go_sem, Nat.reduceAdd, Nat.reduceSub, Nat.reduceMul, Nat.reduceBEq, Nat.reduceLeDiff, Nat.reduceLT, Nat.reduceEqDiff, reduceCtorEq, Int.reduceBEq, Int.reduceBNe, Int.reduceLT, Int.reduceLE, Int.reduceAdd, Int.reduceSub, Int.reduceMul, Int.reduceNeg, Int.reduceEq, Int.reduceToNat, Tryz.f136, r_within, wy, w]
    repeat' ((first | refine split_cond (fun hc => ?_) (fun hc => ?_) | refine split_yes (fun hc => ?_) (fun hc => ?_) | refine split_no (fun hc => ?_) (fun hc => ?_)) <;> simp -implicitDefEqProofs only [hc, ↓reduceIte, go_sem, Nat.reduceAdd, Nat.reduceSub, Nat.reduceMul, Nat.reduceBEq, Nat.reduceLeDiff, Nat.reduceLT, Nat.reduceEqDiff, reduceCtorEq, Int.reduceBEq, Int.reduceBNe, Int.reduceLT, Int.reduceLE, Int.reduceAdd, Int.reduceSub, Int.reduceMul, Int.reduceNeg, Int.reduceEq, Int.reduceToNat, r_within, wy, w])
    rfl
  have hm := Decidable.not_not.1 hm
  have wm := (wit_iff m 1 12).2 hm
  have e1 := r_md y m (by omega)
  by_cases hd : ¬ (1 ≤ d ∧ d ≤ mdS y m)
  · rw [dateV_no (by omega)]
    have w := within_no hd
    rw [call_136]
    simp -implicitDefEqProofs only [↓reduceIte, go_sem, Nat.reduceAdd, Nat.reduceSub, Nat.reduceMul, Nat.reduceBEq, Nat.reduceLeDiff, Nat.reduceLT, Nat.reduceEqDiff, reduceCtorEq, Int.reduceBEq, Int.reduceBNe, Int.reduceLT, Int.reduceLE, Int.reduceAdd, Int.reduceSub, Int.reduceMul, Int.reduceNeg, Int.reduceEq, Int.reduceToNat, Tryz.f136, r_within, wy, wm, e1, w]
    repeat' ((first | refine split_cond (fun hc => ?_) (fun hc => ?_) | refine split_yes (fun hc => ?_) (fun hc => ?_) | refine split_no (fun hc => ?_) (fun hc => ?_)) <;> simp -implicitDefEqProofs only [hc, ↓reduceIte, go_sem, Nat.reduceAdd, Nat.reduceSub, Nat.reduceMul, Nat.reduceBEq, Nat.reduceLeDiff, Nat.reduceLT, Nat.reduceEqDiff, reduceCtorEq, Int.reduceBEq, Int.reduceBNe, Int.reduceLT, Int.reduceLE, Int.reduceAdd, Int.reduceSub, Int.reduceMul, Int.reduceNeg, Int.reduceEq, Int.reduceToNat, r_within, wy, wm, e1, w])
    rfl
  have hd := Decidable.not_not.1 hd
  have wd := (wit_iff d 1 (mdS y m)).2 hd
  by_cases hh : ¬ (0 ≤ h ∧ h ≤ 23)
  · rw [dateV_no (by omega)]
    have w := within_no hh
    rw [call_136]
    simp -implicitDefEqProofs only [↓reduceIte, go_sem, Nat.reduceAdd, Nat.reduceSub, Nat.reduceMul, Nat.reduceBEq, Nat.reduceLeDiff, Nat.reduceLT, Nat.reduceEqDiff, reduceCtorEq, Int.reduceBEq, Int.reduceBNe, Int.reduceLT, Int.reduceLE, Int.reduceAdd, Int.reduceSub, Int.reduceMul, Int.reduceNeg, Int.reduceEq, Int.reduceToNat, Tryz.f136, r_within, wy, wm, e1, wd, w]
    repeat' ((first | refine split_cond (fun hc => ?_) (fun hc => ?_) | refine split_yes (fun hc => ?_) (fun hc => ?_) | refine split_no (fun hc => ?_) (fun hc => ?_)) <;> simp -implicitDefEqProofs only [hc, ↓reduceIte, go_sem, Nat.reduceAdd, Nat.reduceSub, Nat.reduceMul, Nat.reduceBEq, Nat.reduceLeDiff, Nat.reduceLT, Nat.reduceEqDiff, reduceCtorEq, Int.reduceBEq, Int.reduceBNe, Int.reduceLT, Int.reduceLE, Int.reduceAdd, Int.reduceSub, Int.reduceMul, Int.reduceNeg, Int.reduceEq, Int.reduceToNat, r_within, wy, wm, e1, wd, w])
    rfl
  have hh := Decidable.not_not.1 hh
  have wh := (wit_iff h 0 23).2 hh
  by_cases hi : ¬ (0 ≤ mi ∧ mi ≤ 59)
  · rw [dateV_no (by omega)]
    have w := within_no hi
    rw [call_136]
    simp -implicitDefEqProofs only [↓reduceIte, go_sem, Nat.reduceAdd, Nat.reduceSub, Nat.reduceMul, Nat.reduceBEq, Nat.reduceLeDiff, Nat.reduceLT, Nat.reduceEqDiff, reduceCtorEq, Int.reduceBEq, Int.reduceBNe, Int.reduceLT, Int.reduceLE, Int.reduceAdd, Int.reduceSub, Int.reduceMul, Int.reduceNeg, Int.reduceEq, Int.reduceToNat, Tryz.f136, r_within, wy, wm, e1, wd, wh, w]
    repeat' ((first | refine split_cond (fun hc => ?_) (fun hc => ?_) | refine split_yes (fun hc => ?_) (fun hc => ?_) | refine split_no (fun hc => ?_) (fun hc => ?_)) <;> simp -implicitDefEqProofs only [hc, ↓reduceIte, go_sem, Nat.reduceAdd, Nat.reduceSub, Nat.reduceMul, Nat.reduceBEq, Nat.reduceLeDiff, Nat.reduceLT, Nat.reduceEqDiff, reduceCtorEq, Int.reduceBEq, Int.reduceBNe, Int.reduceLT, Int.reduceLE, Int.reduceAdd, Int.reduceSub, Int.reduceMul, Int.reduceNeg, Int.reduceEq, Int.reduceToNat, r_within, wy, wm, e1, wd, wh, w])
    rfl
  have hi := Decidable.not_not.1 hi
  have wi := (wit_iff mi 0 59).2 hi
  by_cases hs : ¬ (0 ≤ s ∧ s ≤ 59)
  · rw [dateV_no (by omega)]
    have w := within_no hs
    rw [call_136]
    simp -implicitDefEqProofs only [↓reduceIte, go_sem, Nat.reduceAdd, Nat.reduceSub, Nat.reduceMul, Nat.reduceBEq, Nat.reduceLeDiff, Nat.reduceLT, Nat.reduceEqDiff, reduceCtorEq, Int.reduceBEq, Int.reduceBNe, Int.reduceLT, Int.reduceLE, Int.reduceAdd, Int.reduceSub, Int.reduceMul, Int.reduceNeg, Int.reduceEq, Int.reduceToNat, Tryz.f136, r_within, wy, wm, e1, wd, wh, wi, w]
    repeat' ((first | refine split_cond (fun hc => ?_) (fun hc => ?_) | refine split_yes (fun hc => ?_) (fun hc => ?_) | refine split_no (fun hc => ?_) (fun hc => ?_)) <;> simp -implicitDefEqProofs only [hc, ↓reduceIte, go_sem, Nat.reduceAdd, Nat.reduceSub, Nat.reduceMul, Nat.reduceBEq, Nat.reduceLeDiff, Nat.reduceLT, Nat.reduceEqDiff, reduceCtorEq, Int.reduceBEq, Int.reduceBNe, Int.reduceLT, Int.reduceLE, Int.reduceAdd, Int.reduceSub, Int.reduceMul, Int.reduceNeg, Int.reduceEq, Int.reduceToNat, r_within, wy, wm, e1, wd, wh, wi, w])
    rfl
  have hs := Decidable.not_not.1 hs
  have ws := (wit_iff s 0 59).2 hs
  have hv : dateV y m d h mi s = numberS 4 (daysS y m d * 86400 + h * 3600 + mi * 60 + s) := if_pos ⟨hy.1, hy.2, hm.1, hm.2, hd.1, hd.2, hh.1, hh.2, hi.1, hi.2, hs.1, hs.2⟩
  have e0 := yd_mono (y := 1970) (z := y) hy.1
  rw [yd0] at e0
  have et := yd_lt hy.2
  have en := yd_next y
  have el := len_pos y
  have em := md_pos y m
  have ea := ahead_bounds y (m - 1).toNat
  have e4 : wrapI .i64 (d - 1) = d - 1 + ydS 1970 := by rw [wrap_id (by omega) (by omega), yd0]; omega
  have e5 : d - 1 + ydS y = d - 1 + ydS y + aheadS 0 y := by simp [aheadS]
  have e6 : wrapI .i64 ((d - 1 + ydS y + aheadS (m - 1).toNat y) * 24) = daysS y m d * 24 := by rw [wrap_id (by omega) (by omega)]; unfold daysS; omega
  have e7 : wrapI .i64 (daysS y m d * 24 + h) = daysS y m d * 24 + h := wrap_id (by unfold daysS; omega) (by unfold daysS; omega)
  have e8 : wrapI .i64 ((daysS y m d * 24 + h) * 60) = daysS y m d * 1440 + h * 60 := by rw [wrap_id (by unfold daysS; omega) (by unfold daysS; omega)]; omega
  have e9 : wrapI .i64 (daysS y m d * 1440 + h * 60 + mi) = daysS y m d * 1440 + h * 60 + mi := wrap_id (by unfold daysS; omega) (by unfold daysS; omega)
  have e10 : wrapI .i64 ((daysS y m d * 1440 + h * 60 + mi) * 60) = daysS y m d * 86400 + h * 3600 + mi * 60 := by rw [wrap_id (by unfold daysS; omega) (by unfold daysS; omega)]; omega
  have e11 : wrapI .i64 (daysS y m d * 86400 + h * 3600 + mi * 60 + s) = daysS y m d * 86400 + h * 3600 + mi * 60 + s := wrap_id (by unfold daysS; omega) (by unfold daysS; omega)
  rw [hv]
  rw [call_136]
  simp -implicitDefEqProofs only [↓reduceIte, go_sem, Nat.reduceAdd, Nat.reduceSub, Nat.reduceMul, Nat.reduceBEq, Nat.reduceLeDiff, Nat.reduceLT, Nat.reduceEqDiff, reduceCtorEq, Int.reduceBEq, Int.reduceBNe, Int.reduceLT, Int.reduceLE, Int.reduceAdd, Int.reduceSub, Int.reduceMul, Int.reduceNeg, Int.reduceEq, Int.reduceToNat, Tryz.f136, r_within, wy, wm, e1, wd, wh, wi, ws, e4]
  repeat' ((first | refine split_cond (fun hc => ?_) (fun hc => ?_) | refine split_yes (fun hc => ?_) (fun hc => ?_) | refine split_no (fun hc => ?_) (fun hc => ?_)) <;> simp -implicitDefEqProofs only [hc, ↓reduceIte, go_sem, Nat.reduceAdd, Nat.reduceSub, Nat.reduceMul, Nat.reduceBEq, Nat.reduceLeDiff, Nat.reduceLT, Nat.reduceEqDiff, reduceCtorEq, Int.reduceBEq, Int.reduceBNe, Int.reduceLT, Int.reduceLE, Int.reduceAdd, Int.reduceSub, Int.reduceMul, Int.reduceNeg, Int.reduceEq, Int.reduceToNat, r_within, wy, wm, e1, wd, wh, wi, ws, e4])
  have l0 := l_Dated0 y m h mi s (d - 1) hy.1 hy.2 ⟨by omega, by omega⟩
  rw [l0 _ (y - 1970).toNat 1970 _ ?_ (by omega) (by omega)]
  · simp -implicitDefEqProofs only [↓reduceIte, go_sem, Nat.reduceAdd, Nat.reduceSub, Nat.reduceMul, Nat.reduceBEq, Nat.reduceLeDiff, Nat.reduceLT, Nat.reduceEqDiff, reduceCtorEq, Int.reduceBEq, Int.reduceBNe, Int.reduceLT, Int.reduceLE, Int.reduceAdd, Int.reduceSub, Int.reduceMul, Int.reduceNeg, Int.reduceEq, Int.reduceToNat]
    repeat' ((first | refine split_cond (fun hc => ?_) (fun hc => ?_) | refine split_yes (fun hc => ?_) (fun hc => ?_) | refine split_no (fun hc => ?_) (fun hc => ?_)) <;> simp -implicitDefEqProofs only [hc, ↓reduceIte, go_sem, Nat.reduceAdd, Nat.reduceSub, Nat.reduceMul, Nat.reduceBEq, Nat.reduceLeDiff, Nat.reduceLT, Nat.reduceEqDiff, reduceCtorEq, Int.reduceBEq, Int.reduceBNe, Int.reduceLT, Int.reduceLE, Int.reduceAdd, Int.reduceSub, Int.reduceMul, Int.reduceNeg, Int.reduceEq, Int.reduceToNat])
    rw [e5]
    have l2 := l_Dated2 y m h mi s (d - 1 + ydS y) (by omega) hm.1 hm.2 ⟨by omega, by omega⟩
    have l2 := fun ks B hB => l2 ks (m - 1).toNat 0 B hB (by omega)
    rw [show ((0 + 1 : Nat) : Int) = 1 from rfl] at l2
    rw [l2 _ _ ?_]
    · simp -implicitDefEqProofs only [↓reduceIte, go_sem, Nat.reduceAdd, Nat.reduceSub, Nat.reduceMul, Nat.reduceBEq, Nat.reduceLeDiff, Nat.reduceLT, Nat.reduceEqDiff, reduceCtorEq, Int.reduceBEq, Int.reduceBNe, Int.reduceLT, Int.reduceLE, Int.reduceAdd, Int.reduceSub, Int.reduceMul, Int.reduceNeg, Int.reduceEq, Int.reduceToNat, e6, e7, e8, e9, e10, e11, r_moment]
      repeat' ((first | refine split_cond (fun hc => ?_) (fun hc => ?_) | refine split_yes (fun hc => ?_) (fun hc => ?_) | refine split_no (fun hc => ?_) (fun hc => ?_)) <;> simp -implicitDefEqProofs only [hc, ↓reduceIte, go_sem, Nat.reduceAdd, Nat.reduceSub, Nat.reduceMul, Nat.reduceBEq, Nat.reduceLeDiff, Nat.reduceLT, Nat.reduceEqDiff, reduceCtorEq, Int.reduceBEq, Int.reduceBNe, Int.reduceLT, Int.reduceLE, Int.reduceAdd, Int.reduceSub, Int.reduceMul, Int.reduceNeg, Int.reduceEq, Int.reduceToNat, e6, e7, e8, e9, e10, e11, r_moment])
    · rfl
  · rfl
theorem p_Itoa (n : Int) (h0 : -9223372036854775808 ≤ n) (h1 : n ≤ 9223372036854775807) : R K (.call 59 [I n] []) = some (.str (Lib.itoa n), []) :=
  R_prim (by show pItoa [I n] = _; simp only [pItoa]; rw [if_pos (by simp [fits, h0, h1])])
theorem p_Repeat (s : List UInt8) (c : Nat) (h : c ≤ 1000) (hs : s.length ≤ 1000) : R K (.call 103 [.str s, I (c : Int)] []) = some (.str (Lib.repeatL s c), []) :=
  R_prim (by
    show pRepeat [.str s, I (c : Int)] = _
    simp only [pRepeat]
    have : s.length * c ≤ 1000 * 1000 := Nat.mul_le_mul hs h
    rw [if_pos (by simp only [Bool.and_eq_true, decide_eq_true_eq, Int.toNat_natCast]; omega), Int.toNat_natCast])
theorem p_Bool (b : Bool) : R K (.call 58 [.bool b] []) = some (.str (Lib.formatBool b), []) := R_prim rfl
theorem p_Replace (s o n : List UInt8) (hs : s.length < 4294967281) (ho : 1 ≤ o.length) (hr : s.length + (s.length + 1) * n.length ≤ 140737488355328) : R K (.call 60 [.str s, .str o, .str n] []) = some (.str (Lib.replaceAll s o n), []) :=
  R_prim (by
    show pReplaceAll [.str s, .str o, .str n] = _
    simp only [pReplaceAll]
    have h1 : Lib.countB ⟨s.toArray⟩ ⟨o.toArray⟩ ≤ s.length + 1 := Lib.count_le s o
    have h2 : Lib.countB ⟨s.toArray⟩ ⟨o.toArray⟩ * n.length ≤ (s.length + 1) * n.length := Nat.mul_le_mul h1 (Nat.le_refl _)
    rw [if_pos (by simp only [Bool.and_eq_true, decide_eq_true_eq]; omega)])
theorem replaceK_len (o n : List UInt8) : ∀ (k : Nat) (s : List UInt8), (Lib.replaceK o n k s).length ≤ s.length + k * n.length
  | 0, s => by simp [Lib.replaceK]
  | k + 1, s => by
    simp only [Lib.replaceK]
    split
    · omega
    · have ih := replaceK_len o n k (s.drop ((Lib.index s o).toNat + o.length))
      simp only [List.length_append, List.length_take, List.length_drop] at ih ⊢
      rw [Nat.succ_mul]
      omega
theorem replace_len (s o n : List UInt8) : (Lib.replaceAll s o n).length ≤ s.length + (s.length + 1) * n.length := by
  unfold Lib.replaceAll Lib.replace
  split
  · omega
  · have h1 := replaceK_len o n (Lib.replaceNum s o (-1)) s
    have h2 : Lib.replaceNum s o (-1) ≤ s.length + 1 := by
      unfold Lib.replaceNum
      rw [if_pos (.inl (by omega))]
      exact Lib.count_le s o
    have h3 : Lib.replaceNum s o (-1) * n.length ≤ (s.length + 1) * n.length := Nat.mul_le_mul h2 (Nat.le_refl _)
    omega
theorem nDigits_le : ∀ (d u : Nat), u < 10 ^ (d + 1) → Lib.nDigits u ≤ d + 1
  | 0, u, h => by rw [Lib.nDigits_small (by simpa using h)]; omega
  | d + 1, u, h => by
    by_cases hu : u < 10
    · rw [Lib.nDigits_small hu]; omega
    · rw [Lib.nDigits_big hu]
      have := nDigits_le d (u / 10) (by rw [Nat.pow_succ] at h; omega)
      omega
theorem itoa_len {n : Int} (d : Nat) (h0 : 0 ≤ n) (h : n < 10 ^ (d + 1)) : (Lib.itoa n).length ≤ d + 1 := by
  obtain ⟨u, rfl⟩ : ∃ u : Nat, n = u := ⟨n.toNat, by omega⟩
  rw [Lib.itoa_nonneg, Lib.decDigits_length]
  exact nDigits_le d u (by exact_mod_cast h)
theorem pad_len {n : Int} {d : Nat} (h : (Lib.itoa n).length ≤ d) : (padS n d).length = d := by
  unfold padS
  rw [List.length_append, Lib.repeatL_length, List.length_singleton]
  omega
theorem c_padded (n : Int) (d : Nat) (h0 : 0 ≤ n) (h1 : n ≤ 1000000) (hd : d ≤ 100) : R K (.call 128 [I n, I (d : Int)] []) = some (.str (padS n d), []) := by
  have hl := Lib.itoa_length_le n (by omega) (by omega)
  have e1 := p_Itoa n (by omega) (by omega)
  have e2 : wrapI .i64 ((d : Int) - ((Lib.itoa n).length : Int)) = (d : Int) - ((Lib.itoa n).length : Int) := wrap_id (by omega) (by omega)
  have e3 : (if (d : Int) - ((Lib.itoa n).length : Int) < 0 then 0 else (d : Int) - ((Lib.itoa n).length : Int)) = ((d - (Lib.itoa n).length : Nat) : Int) := by split <;> omega
  have e4 := p_Repeat [48] (d - (Lib.itoa n).length) (by omega) (by simp)
  have e5 : ((Lib.repeatL [48] (d - (Lib.itoa n).length)).length + (Lib.itoa n).length ≤ strMax) = True := by
    rw [Lib.repeatL_length]; unfold strMax; simp; omega
  rw [call_128]
  simp -implicitDefEqProofs only [↓reduceIte, go_sem, Nat.reduceAdd, Nat.reduceSub, Nat.reduceMul, Nat.reduceBEq, Nat.reduceLeDiff, Nat.reduceLT, Nat.reduceEqDiff, reduceCtorEq, Int.reduceBEq, Int.reduceBNe, Int.reduceLT, Int.reduceLE, Int.reduceAdd, Int.reduceSub, Int.reduceMul, Int.reduceNeg, Int.reduceEq, Int.reduceToNat, Tryz.f128, e1, e2, e3, e4, e5]
  repeat' ((first | refine split_cond (fun hc => ?_) (fun hc => ?_) | refine split_yes (fun hc => ?_) (fun hc => ?_) | refine split_no (fun hc => ?_) (fun hc => ?_)) <;> simp -implicitDefEqProofs only [hc, ↓reduceIte, go_sem, Nat.reduceAdd, Nat.reduceSub, Nat.reduceMul, Nat.reduceBEq, Nat.reduceLeDiff, Nat.reduceLT, Nat.reduceEqDiff, reduceCtorEq, Int.reduceBEq, Int.reduceBNe, Int.reduceLT, Int.reduceLE, Int.reduceAdd, Int.reduceSub, Int.reduceMul, Int.reduceNeg, Int.reduceEq, Int.reduceToNat, e1, e2, e3, e4, e5])
  rfl
theorem r_padded (n : Int) (d : Nat) (h0 : 0 ≤ n) (h1 : n ≤ 1000000) (hd : d ≤ 100) : R K (.call 131 [I n, I (d : Int)] []) = some (.str (padS n d), []) := by
  have hl := Lib.itoa_length_le n (by omega) (by omega)
  have e1 := p_Itoa n (by omega) (by omega)
  have e2 : wrapI .i64 ((d : Int) - ((Lib.itoa n).length : Int)) = (d : Int) - ((Lib.itoa n).length : Int) := wrap_id (by omega) (by omega)
  have e3 : (if (d : Int) - ((Lib.itoa n).length : Int) < 0 then 0 else (d : Int) - ((Lib.itoa n).length : Int)) = ((d - (Lib.itoa n).length : Nat) : Int) := by split <;> omega
  have e4 := p_Repeat [48] (d - (Lib.itoa n).length) (by omega) (by simp)
  have e5 : ((Lib.repeatL [48] (d - (Lib.itoa n).length)).length + (Lib.itoa n).length ≤ strMax) = True := by
    rw [Lib.repeatL_length]; unfold strMax; simp; omega
  rw [call_131]
  simp -implicitDefEqProofs only [↓reduceIte, go_sem, Nat.reduceAdd, Nat.reduceSub, Nat.reduceMul, Nat.reduceBEq, Nat.reduceLeDiff, Nat.reduceLT, Nat.reduceEqDiff, reduceCtorEq, Int.reduceBEq, Int.reduceBNe, Int.reduceLT, Int.reduceLE, Int.reduceAdd, Int.reduceSub, Int.reduceMul, Int.reduceNeg, Int.reduceEq, Int.reduceToNat, Tryz.f131, e1, e2, e3, e4, e5]
  repeat' ((first | refine split_cond (fun hc => ?_) (fun hc => ?_) | refine split_yes (fun hc => ?_) (fun hc => ?_) | refine split_no (fun hc => ?_) (fun hc => ?_)) <;> simp -implicitDefEqProofs only [hc, ↓reduceIte, go_sem, Nat.reduceAdd, Nat.reduceSub, Nat.reduceMul, Nat.reduceBEq, Nat.reduceLeDiff, Nat.reduceLT, Nat.reduceEqDiff, reduceCtorEq, Int.reduceBEq, Int.reduceBNe, Int.reduceLT, Int.reduceLE, Int.reduceAdd, Int.reduceSub, Int.reduceMul, Int.reduceNeg, Int.reduceEq, Int.reduceToNat, e1, e2, e3, e4, e5])
  rfl
theorem small_str (k : Nat) (h : k ≤ 1000) : (k ≤ strMax) = True := by unfold strMax; simp; omega
theorem date_lens {n : Int} (h0 : 0 ≤ n) (h1 : n ≤ 253402300799) : (padS (yearS (n / 86400)) 4).length = 4 ∧ (padS (ymS n).1 2).length = 2 ∧ (padS ((ymS n).2 + 1) 2).length = 2 ∧ (padS (n % 86400 / 3600) 2).length = 2 ∧ (padS (n % 86400 % 3600 / 60) 2).length = 2 ∧ (padS (n % 86400 % 60) 2).length = 2 := by
  have hb := date_bounds h0 h1
  have hm := md_pos (yearS (n / 86400)) (ymS n).1
  exact ⟨pad_len (itoa_len 3 (by omega) (by omega)), pad_len (itoa_len 1 (by omega) (by omega)), pad_len (itoa_len 1 (by omega) (by omega)), pad_len (itoa_len 1 (by omega) (by omega)), pad_len (itoa_len 1 (by omega) (by omega)), pad_len (itoa_len 1 (by omega) (by omega))⟩
theorem dtext_len {n : Int} (h0 : 0 ≤ n) (h1 : n ≤ 253402300799) : (dtextS n).length = 19 := by
  obtain ⟨l1, l2, l3, l4, l5, l6⟩ := date_lens h0 h1
  unfold dtextS
  simp only [List.length_append, l1, l2, l3, l4, l5, l6, List.length_cons, List.length_nil]
theorem c_dateText (n : Int) (h0 : 0 ≤ n) (h1 : n ≤ 253402300799) : R K (.call 61 [I n] []) = some (.str (dtextS n), []) := by
  have hb := date_bounds h0 h1
  have hm := md_pos (yearS (n / 86400)) (ymS n).1
  have e1 := c_dateOf n h0 h1
  simp only [dateS, List.map_cons, List.map_nil] at e1
  have a1 := c_padded (yearS (n / 86400)) 4 (by omega) (by omega) (by omega)
  have a2 := c_padded (ymS n).1 2 (by omega) (by omega) (by omega)
  have a3 := c_padded ((ymS n).2 + 1) 2 (by omega) (by omega) (by omega)
  have a4 := c_padded (n % 86400 / 3600) 2 (by omega) (by omega) (by omega)
  have a5 := c_padded (n % 86400 % 3600 / 60) 2 (by omega) (by omega) (by omega)
  have a6 := c_padded (n % 86400 % 60) 2 (by omega) (by omega) (by omega)
  simp only [Int.cast_ofNat_Int] at a1 a2 a3 a4 a5 a6
  obtain ⟨l1, l2, l3, l4, l5, l6⟩ := date_lens h0 h1
  rw [call_61]
  simp -implicitDefEqProofs only [↓reduceIte, go_sem, Nat.reduceAdd, Nat.reduceSub, Nat.reduceMul, Nat.reduceBEq, Nat.reduceLeDiff, Nat.reduceLT, Nat.reduceEqDiff, reduceCtorEq, Int.reduceBEq, Int.reduceBNe, Int.reduceLT, Int.reduceLE, Int.reduceAdd, Int.reduceSub, Int.reduceMul, Int.reduceNeg, Int.reduceEq, Int.reduceToNat, Tryz.f61, e1, a1, a2, a3, a4, a5, a6, l1, l2, l3, l4, l5, l6, small_str]
  repeat' ((first | refine split_cond (fun hc => ?_) (fun hc => ?_) | refine split_yes (fun hc => ?_) (fun hc => ?_) | refine split_no (fun hc => ?_) (fun hc => ?_)) <;> simp -implicitDefEqProofs only [hc, ↓reduceIte, go_sem, Nat.reduceAdd, Nat.reduceSub, Nat.reduceMul, Nat.reduceBEq, Nat.reduceLeDiff, Nat.reduceLT, Nat.reduceEqDiff, reduceCtorEq, Int.reduceBEq, Int.reduceBNe, Int.reduceLT, Int.reduceLE, Int.reduceAdd, Int.reduceSub, Int.reduceMul, Int.reduceNeg, Int.reduceEq, Int.reduceToNat, e1, a1, a2, a3, a4, a5, a6, l1, l2, l3, l4, l5, l6, small_str])
  rfl
theorem r_MomentText (n : Int) (h0 : 0 ≤ n) (h1 : n ≤ 253402300799) : R K (.call 63 [I n] []) = some (.str (dtextS n), []) := by
  have hb := date_bounds h0 h1
  have hm := md_pos (yearS (n / 86400)) (ymS n).1
  have e1 := r_parts n h0 h1
  simp only [dateS, List.reverse_cons, List.reverse_nil, List.nil_append, List.cons_append, List.map_cons, List.map_nil] at e1
  have a1 := r_padded (yearS (n / 86400)) 4 (by omega) (by omega) (by omega)
  have a2 := r_padded (ymS n).1 2 (by omega) (by omega) (by omega)
  have a3 := r_padded ((ymS n).2 + 1) 2 (by omega) (by omega) (by omega)
  have a4 := r_padded (n % 86400 / 3600) 2 (by omega) (by omega) (by omega)
  have a5 := r_padded (n % 86400 % 3600 / 60) 2 (by omega) (by omega) (by omega)
  have a6 := r_padded (n % 86400 % 60) 2 (by omega) (by omega) (by omega)
  simp only [Int.cast_ofNat_Int] at a1 a2 a3 a4 a5 a6
  obtain ⟨l1, l2, l3, l4, l5, l6⟩ := date_lens h0 h1
  rw [call_63]
  simp -implicitDefEqProofs only [↓reduceIte, go_sem, Nat.reduceAdd, Nat.reduceSub, Nat.reduceMul, Nat.reduceBEq, Nat.reduceLeDiff, Nat.reduceLT, Nat.reduceEqDiff, reduceCtorEq, Int.reduceBEq, Int.reduceBNe, Int.reduceLT, Int.reduceLE, Int.reduceAdd, Int.reduceSub, Int.reduceMul, Int.reduceNeg, Int.reduceEq, Int.reduceToNat, Tryz.f63, e1, a1, a2, a3, a4, a5, a6, l1, l2, l3, l4, l5, l6, small_str]
  repeat' ((first | refine split_cond (fun hc => ?_) (fun hc => ?_) | refine split_yes (fun hc => ?_) (fun hc => ?_) | refine split_no (fun hc => ?_) (fun hc => ?_)) <;> simp -implicitDefEqProofs only [hc, ↓reduceIte, go_sem, Nat.reduceAdd, Nat.reduceSub, Nat.reduceMul, Nat.reduceBEq, Nat.reduceLeDiff, Nat.reduceLT, Nat.reduceEqDiff, reduceCtorEq, Int.reduceBEq, Int.reduceBNe, Int.reduceLT, Int.reduceLE, Int.reduceAdd, Int.reduceSub, Int.reduceMul, Int.reduceNeg, Int.reduceEq, Int.reduceToNat, e1, a1, a2, a3, a4, a5, a6, l1, l2, l3, l4, l5, l6, small_str])
  rfl
theorem plain_moment {v : Val} (h : (plainV v).k = 4) : 0 ≤ (plainV v).n ∧ (plainV v).n ≤ 253402300799 := by
  have hr := plain_right v
  simp only [rightS, rangeS, Bool.and_eq_true, h] at hr
  have h2 := hr.2.2
  simp [within] at h2
  exact h2
theorem plain_kinds (v : Val) : (plainV v).k = 0 ∨ (plainV v).k = 1 ∨ (plainV v).k = 2 ∨ (plainV v).k = 3 ∨ (plainV v).k = 4 := by
  have hr := plain_right v
  simp only [rightS, formS, Bool.and_eq_true] at hr
  have h1 := hr.1
  split at h1
  · rename_i h; exact .inl h
  · split at h1
    · rename_i h; exact .inr (.inr (.inr (.inl h)))
    · simp only [within, Bool.and_eq_true, decide_eq_true_eq] at h1; omega
theorem small_str2 (a b : Nat) (h : a + b ≤ 100000) : (a + b ≤ strMax) = True := by unfold strMax; simp; omega
theorem c_Show (k n : Int) (s : List UInt8) : R K (.call 13 [V k n s] []) = some (.str (showS ⟨k, n, s⟩), []) := by
  generalize hv : (⟨k, n, s⟩ : Val) = v
  have hp := c_plain k n s
  rw [hv] at hp
  rcases plain_kinds v with h | h | h | h | h
  · have e : showS v = bNull := by simp [showS, h]
    rw [e]
    rw [call_13]
    simp -implicitDefEqProofs only [↓reduceIte, go_sem, Nat.reduceAdd, Nat.reduceSub, Nat.reduceMul, Nat.reduceBEq, Nat.reduceLeDiff, Nat.reduceLT, Nat.reduceEqDiff, reduceCtorEq, Int.reduceBEq, Int.reduceBNe, Int.reduceLT, Int.reduceLE, Int.reduceAdd, Int.reduceSub, Int.reduceMul, Int.reduceNeg, Int.reduceEq, Int.reduceToNat, Tryz.f13, hp, h]
    repeat' ((first | refine split_cond (fun hc => ?_) (fun hc => ?_) | refine split_yes (fun hc => ?_) (fun hc => ?_) | refine split_no (fun hc => ?_) (fun hc => ?_)) <;> simp -implicitDefEqProofs only [hc, ↓reduceIte, go_sem, Nat.reduceAdd, Nat.reduceSub, Nat.reduceMul, Nat.reduceBEq, Nat.reduceLeDiff, Nat.reduceLT, Nat.reduceEqDiff, reduceCtorEq, Int.reduceBEq, Int.reduceBNe, Int.reduceLT, Int.reduceLE, Int.reduceAdd, Int.reduceSub, Int.reduceMul, Int.reduceNeg, Int.reduceEq, Int.reduceToNat, hp, h])
  · have e : showS v = Lib.formatBool ((plainV v).n == 1) := by simp [showS, h]
    rw [e]
    have hb := p_Bool ((plainV v).n == 1)
    rw [call_13]
    simp -implicitDefEqProofs only [↓reduceIte, go_sem, Nat.reduceAdd, Nat.reduceSub, Nat.reduceMul, Nat.reduceBEq, Nat.reduceLeDiff, Nat.reduceLT, Nat.reduceEqDiff, reduceCtorEq, Int.reduceBEq, Int.reduceBNe, Int.reduceLT, Int.reduceLE, Int.reduceAdd, Int.reduceSub, Int.reduceMul, Int.reduceNeg, Int.reduceEq, Int.reduceToNat, Tryz.f13, hp, h, hb]
    repeat' ((first | refine split_cond (fun hc => ?_) (fun hc => ?_) | refine split_yes (fun hc => ?_) (fun hc => ?_) | refine split_no (fun hc => ?_) (fun hc => ?_)) <;> simp -implicitDefEqProofs only [hc, ↓reduceIte, go_sem, Nat.reduceAdd, Nat.reduceSub, Nat.reduceMul, Nat.reduceBEq, Nat.reduceLeDiff, Nat.reduceLT, Nat.reduceEqDiff, reduceCtorEq, Int.reduceBEq, Int.reduceBNe, Int.reduceLT, Int.reduceLE, Int.reduceAdd, Int.reduceSub, Int.reduceMul, Int.reduceNeg, Int.reduceEq, Int.reduceToNat, hp, h, hb])
  · have e : showS v = Lib.itoa (plainV v).n := by simp [showS, h]
    rw [e]
    have hb := right_bounds v
    have hi := p_Itoa (plainV v).n (by have := hb.2.1; omega) (by have := hb.2.1; omega)
    rw [call_13]
    simp -implicitDefEqProofs only [↓reduceIte, go_sem, Nat.reduceAdd, Nat.reduceSub, Nat.reduceMul, Nat.reduceBEq, Nat.reduceLeDiff, Nat.reduceLT, Nat.reduceEqDiff, reduceCtorEq, Int.reduceBEq, Int.reduceBNe, Int.reduceLT, Int.reduceLE, Int.reduceAdd, Int.reduceSub, Int.reduceMul, Int.reduceNeg, Int.reduceEq, Int.reduceToNat, Tryz.f13, hp, h, hi]
    repeat' ((first | refine split_cond (fun hc => ?_) (fun hc => ?_) | refine split_yes (fun hc => ?_) (fun hc => ?_) | refine split_no (fun hc => ?_) (fun hc => ?_)) <;> simp -implicitDefEqProofs only [hc, ↓reduceIte, go_sem, Nat.reduceAdd, Nat.reduceSub, Nat.reduceMul, Nat.reduceBEq, Nat.reduceLeDiff, Nat.reduceLT, Nat.reduceEqDiff, reduceCtorEq, Int.reduceBEq, Int.reduceBNe, Int.reduceLT, Int.reduceLE, Int.reduceAdd, Int.reduceSub, Int.reduceMul, Int.reduceNeg, Int.reduceEq, Int.reduceToNat, hp, h, hi])
  · have e : showS v = [39] ++ Lib.replaceAll (plainV v).s [39] [39, 39] ++ [39] := by simp [showS, h]
    rw [e]
    have hl := (plain3 v h).1
    have hr := p_Replace (plainV v).s [39] [39, 39] (by omega) (by simp) (by simp; omega)
    have hn := replace_len (plainV v).s [39] [39, 39]
    simp only [List.length_cons, List.length_nil] at hn
    have q1 := small_str2 1 (Lib.replaceAll (plainV v).s [39] [39, 39]).length (by omega)
    have q2 := small_str2 (Lib.replaceAll (plainV v).s [39] [39, 39]).length 1 (by omega)
    have q3 := small_str2 ((Lib.replaceAll (plainV v).s [39] [39, 39]).length + 1) 1 (by omega)
    rw [call_13]
    simp -implicitDefEqProofs only [↓reduceIte, go_sem, Nat.reduceAdd, Nat.reduceSub, Nat.reduceMul, Nat.reduceBEq, Nat.reduceLeDiff, Nat.reduceLT, Nat.reduceEqDiff, reduceCtorEq, Int.reduceBEq, Int.reduceBNe, Int.reduceLT, Int.reduceLE, Int.reduceAdd, Int.reduceSub, Int.reduceMul, Int.reduceNeg, Int.reduceEq, Int.reduceToNat, Tryz.f13, hp, h, hr, q1, q2, q3]
    repeat' ((first | refine split_cond (fun hc => ?_) (fun hc => ?_) | refine split_yes (fun hc => ?_) (fun hc => ?_) | refine split_no (fun hc => ?_) (fun hc => ?_)) <;> simp -implicitDefEqProofs only [hc, ↓reduceIte, go_sem, Nat.reduceAdd, Nat.reduceSub, Nat.reduceMul, Nat.reduceBEq, Nat.reduceLeDiff, Nat.reduceLT, Nat.reduceEqDiff, reduceCtorEq, Int.reduceBEq, Int.reduceBNe, Int.reduceLT, Int.reduceLE, Int.reduceAdd, Int.reduceSub, Int.reduceMul, Int.reduceNeg, Int.reduceEq, Int.reduceToNat, hp, h, hr, q1, q2, q3])
  · have e : showS v = [64] ++ dtextS (plainV v).n := by simp [showS, h]
    rw [e]
    have hb := plain_moment h
    have hd := c_dateText (plainV v).n hb.1 hb.2
    have hl := dtext_len hb.1 hb.2
    rw [call_13]
    simp -implicitDefEqProofs only [↓reduceIte, go_sem, Nat.reduceAdd, Nat.reduceSub, Nat.reduceMul, Nat.reduceBEq, Nat.reduceLeDiff, Nat.reduceLT, Nat.reduceEqDiff, reduceCtorEq, Int.reduceBEq, Int.reduceBNe, Int.reduceLT, Int.reduceLE, Int.reduceAdd, Int.reduceSub, Int.reduceMul, Int.reduceNeg, Int.reduceEq, Int.reduceToNat, Tryz.f13, hp, h, hd, hl, small_str]
    repeat' ((first | refine split_cond (fun hc => ?_) (fun hc => ?_) | refine split_yes (fun hc => ?_) (fun hc => ?_) | refine split_no (fun hc => ?_) (fun hc => ?_)) <;> simp -implicitDefEqProofs only [hc, ↓reduceIte, go_sem, Nat.reduceAdd, Nat.reduceSub, Nat.reduceMul, Nat.reduceBEq, Nat.reduceLeDiff, Nat.reduceLT, Nat.reduceEqDiff, reduceCtorEq, Int.reduceBEq, Int.reduceBNe, Int.reduceLT, Int.reduceLE, Int.reduceAdd, Int.reduceSub, Int.reduceMul, Int.reduceNeg, Int.reduceEq, Int.reduceToNat, hp, h, hd, hl, small_str])
theorem r_Shown (k n : Int) (s : List UInt8) : R K (.call 14 [V k n s] []) = some (.str (showS ⟨k, n, s⟩), []) := by
  generalize hv : (⟨k, n, s⟩ : Val) = v
  have hp := r_right k n s
  rw [hv] at hp
  rcases plain_kinds v with h | h | h | h | h
  · have e : showS v = bNull := by simp [showS, h]
    rw [e]
    rw [call_14]
    simp -implicitDefEqProofs only [↓reduceIte, go_sem, Nat.reduceAdd, Nat.reduceSub, Nat.reduceMul, Nat.reduceBEq, Nat.reduceLeDiff, Nat.reduceLT, Nat.reduceEqDiff, reduceCtorEq, Int.reduceBEq, Int.reduceBNe, Int.reduceLT, Int.reduceLE, Int.reduceAdd, Int.reduceSub, Int.reduceMul, Int.reduceNeg, Int.reduceEq, Int.reduceToNat, Tryz.f14, hp, h]
    repeat' ((first | refine split_cond (fun hc => ?_) (fun hc => ?_) | refine split_yes (fun hc => ?_) (fun hc => ?_) | refine split_no (fun hc => ?_) (fun hc => ?_)) <;> simp -implicitDefEqProofs only [hc, ↓reduceIte, go_sem, Nat.reduceAdd, Nat.reduceSub, Nat.reduceMul, Nat.reduceBEq, Nat.reduceLeDiff, Nat.reduceLT, Nat.reduceEqDiff, reduceCtorEq, Int.reduceBEq, Int.reduceBNe, Int.reduceLT, Int.reduceLE, Int.reduceAdd, Int.reduceSub, Int.reduceMul, Int.reduceNeg, Int.reduceEq, Int.reduceToNat, hp, h])
  · have e : showS v = Lib.formatBool ((plainV v).n == 1) := by simp [showS, h]
    rw [e]
    have hb := p_Bool ((plainV v).n == 1)
    rw [call_14]
    simp -implicitDefEqProofs only [↓reduceIte, go_sem, Nat.reduceAdd, Nat.reduceSub, Nat.reduceMul, Nat.reduceBEq, Nat.reduceLeDiff, Nat.reduceLT, Nat.reduceEqDiff, reduceCtorEq, Int.reduceBEq, Int.reduceBNe, Int.reduceLT, Int.reduceLE, Int.reduceAdd, Int.reduceSub, Int.reduceMul, Int.reduceNeg, Int.reduceEq, Int.reduceToNat, Tryz.f14, hp, h, hb]
    repeat' ((first | refine split_cond (fun hc => ?_) (fun hc => ?_) | refine split_yes (fun hc => ?_) (fun hc => ?_) | refine split_no (fun hc => ?_) (fun hc => ?_)) <;> simp -implicitDefEqProofs only [hc, ↓reduceIte, go_sem, Nat.reduceAdd, Nat.reduceSub, Nat.reduceMul, Nat.reduceBEq, Nat.reduceLeDiff, Nat.reduceLT, Nat.reduceEqDiff, reduceCtorEq, Int.reduceBEq, Int.reduceBNe, Int.reduceLT, Int.reduceLE, Int.reduceAdd, Int.reduceSub, Int.reduceMul, Int.reduceNeg, Int.reduceEq, Int.reduceToNat, hp, h, hb])
  · have e : showS v = Lib.itoa (plainV v).n := by simp [showS, h]
    rw [e]
    have hb := right_bounds v
    have hi := p_Itoa (plainV v).n (by have := hb.2.1; omega) (by have := hb.2.1; omega)
    rw [call_14]
    simp -implicitDefEqProofs only [↓reduceIte, go_sem, Nat.reduceAdd, Nat.reduceSub, Nat.reduceMul, Nat.reduceBEq, Nat.reduceLeDiff, Nat.reduceLT, Nat.reduceEqDiff, reduceCtorEq, Int.reduceBEq, Int.reduceBNe, Int.reduceLT, Int.reduceLE, Int.reduceAdd, Int.reduceSub, Int.reduceMul, Int.reduceNeg, Int.reduceEq, Int.reduceToNat, Tryz.f14, hp, h, hi]
    repeat' ((first | refine split_cond (fun hc => ?_) (fun hc => ?_) | refine split_yes (fun hc => ?_) (fun hc => ?_) | refine split_no (fun hc => ?_) (fun hc => ?_)) <;> simp -implicitDefEqProofs only [hc, ↓reduceIte, go_sem, Nat.reduceAdd, Nat.reduceSub, Nat.reduceMul, Nat.reduceBEq, Nat.reduceLeDiff, Nat.reduceLT, Nat.reduceEqDiff, reduceCtorEq, Int.reduceBEq, Int.reduceBNe, Int.reduceLT, Int.reduceLE, Int.reduceAdd, Int.reduceSub, Int.reduceMul, Int.reduceNeg, Int.reduceEq, Int.reduceToNat, hp, h, hi])
  · have e : showS v = [39] ++ Lib.replaceAll (plainV v).s [39] [39, 39] ++ [39] := by simp [showS, h]
    rw [e]
    have hl := (plain3 v h).1
    have hr := p_Replace (plainV v).s [39] [39, 39] (by omega) (by simp) (by simp; omega)
    have hn := replace_len (plainV v).s [39] [39, 39]
    simp only [List.length_cons, List.length_nil] at hn
    have q1 := small_str2 1 (Lib.replaceAll (plainV v).s [39] [39, 39]).length (by omega)
    have q2 := small_str2 (Lib.replaceAll (plainV v).s [39] [39, 39]).length 1 (by omega)
    have q3 := small_str2 ((Lib.replaceAll (plainV v).s [39] [39, 39]).length + 1) 1 (by omega)
    rw [call_14]
    simp -implicitDefEqProofs only [↓reduceIte, go_sem, Nat.reduceAdd, Nat.reduceSub, Nat.reduceMul, Nat.reduceBEq, Nat.reduceLeDiff, Nat.reduceLT, Nat.reduceEqDiff, reduceCtorEq, Int.reduceBEq, Int.reduceBNe, Int.reduceLT, Int.reduceLE, Int.reduceAdd, Int.reduceSub, Int.reduceMul, Int.reduceNeg, Int.reduceEq, Int.reduceToNat, Tryz.f14, hp, h, hr, q1, q2, q3]
    repeat' ((first | refine split_cond (fun hc => ?_) (fun hc => ?_) | refine split_yes (fun hc => ?_) (fun hc => ?_) | refine split_no (fun hc => ?_) (fun hc => ?_)) <;> simp -implicitDefEqProofs only [hc, ↓reduceIte, go_sem, Nat.reduceAdd, Nat.reduceSub, Nat.reduceMul, Nat.reduceBEq, Nat.reduceLeDiff, Nat.reduceLT, Nat.reduceEqDiff, reduceCtorEq, Int.reduceBEq, Int.reduceBNe, Int.reduceLT, Int.reduceLE, Int.reduceAdd, Int.reduceSub, Int.reduceMul, Int.reduceNeg, Int.reduceEq, Int.reduceToNat, hp, h, hr, q1, q2, q3])
  · have e : showS v = [64] ++ dtextS (plainV v).n := by simp [showS, h]
    rw [e]
    have hb := plain_moment h
    have hd := r_MomentText (plainV v).n hb.1 hb.2
    have hl := dtext_len hb.1 hb.2
    rw [call_14]
    simp -implicitDefEqProofs only [↓reduceIte, go_sem, Nat.reduceAdd, Nat.reduceSub, Nat.reduceMul, Nat.reduceBEq, Nat.reduceLeDiff, Nat.reduceLT, Nat.reduceEqDiff, reduceCtorEq, Int.reduceBEq, Int.reduceBNe, Int.reduceLT, Int.reduceLE, Int.reduceAdd, Int.reduceSub, Int.reduceMul, Int.reduceNeg, Int.reduceEq, Int.reduceToNat, Tryz.f14, hp, h, hd, hl, small_str]
    repeat' ((first | refine split_cond (fun hc => ?_) (fun hc => ?_) | refine split_yes (fun hc => ?_) (fun hc => ?_) | refine split_no (fun hc => ?_) (fun hc => ?_)) <;> simp -implicitDefEqProofs only [hc, ↓reduceIte, go_sem, Nat.reduceAdd, Nat.reduceSub, Nat.reduceMul, Nat.reduceBEq, Nat.reduceLeDiff, Nat.reduceLT, Nat.reduceEqDiff, reduceCtorEq, Int.reduceBEq, Int.reduceBNe, Int.reduceLT, Int.reduceLE, Int.reduceAdd, Int.reduceSub, Int.reduceMul, Int.reduceNeg, Int.reduceEq, Int.reduceToNat, hp, h, hd, hl, small_str])
theorem small_room (k : Nat) (h : k ≤ 1000) : (k ≤ roomMax) = True := by unfold roomMax; simp; omega
theorem p_Atoi_ok (s : List UInt8) (v : Int) (hl : s.length ≤ 281474976710656) (h : atoiN s = some v) : R K (.call 118 [.str s] []) = some (.tup [I v, .nili], []) :=
  R_prim (by
    show pAtoi [.str s] = _
    simp only [pAtoi]
    rw [if_pos (by simpa using hl)]
    unfold atoiN at h
    cases ha : Lib.atoiAll s with
    | ok u => rw [ha] at h; simp only [Option.some.injEq] at h; rw [h]
    | _ => rw [ha] at h; simp at h)
theorem p_Atoi_no (s : List UInt8) (hl : s.length ≤ 281474976710656) (h : atoiN s = none) : ∃ z : Int, R K (.call 118 [.str s] []) = some (.tup [I z, .iface 207 .any], []) := by
  unfold atoiN at h
  cases ha : Lib.atoiAll s with
  | ok u => rw [ha] at h; simp at h
  | range =>
    refine ⟨Lib.atoiSat s, R_prim ?_⟩
    show pAtoi [.str s] = _
    simp only [pAtoi, ha]
    rw [if_pos (by simpa using hl)]
  | _ =>
    refine ⟨0, R_prim ?_⟩
    show pAtoi [.str s] = _
    simp only [pAtoi, ha]
    rw [if_pos (by simpa using hl)]
theorem six_no {s : List UInt8} (h : atoiN (List.take 4 s) = none ∨ atoiN (List.take 2 (List.drop 5 s)) = none ∨ atoiN (List.take 2 (List.drop 8 s)) = none ∨ atoiN (List.take 2 (List.drop 11 s)) = none ∨ atoiN (List.take 2 (List.drop 14 s)) = none ∨ atoiN (List.take 2 (List.drop 17 s)) = none) : dreadS s = null := by
  have e : sixS s = none := by
    unfold sixS
    simp only [cut, List.drop_zero, Nat.reduceSub, Nat.sub_zero]
    rcases h with h | h | h | h | h | h <;> rw [h] <;> simp
  unfold dreadS
  split
  · rw [e]
  · rfl
theorem six_yes {s : List UInt8} {a b c d e f : Int} (h1 : atoiN (List.take 4 s) = some a) (h2 : atoiN (List.take 2 (List.drop 5 s)) = some b) (h3 : atoiN (List.take 2 (List.drop 8 s)) = some c) (h4 : atoiN (List.take 2 (List.drop 11 s)) = some d) (h5 : atoiN (List.take 2 (List.drop 14 s)) = some e) (h6 : atoiN (List.take 2 (List.drop 17 s)) = some f) : sixS s = some (a, b, c, d, e, f) := by
  unfold sixS
  simp only [cut, List.drop_zero, Nat.reduceSub, Nat.sub_zero, h1, h2, h3, h4, h5, h6]
theorem right_moment {v : Val} (hk : v.k = 4) (hr : rightS v = true) : 0 ≤ v.n ∧ v.n ≤ 253402300799 := by
  have := plain_moment (v := v) (by rw [plain_of_right hr]; exact hk)
  rwa [plain_of_right hr] at this
theorem c_dateRead (s : List UInt8) : R K (.call 117 [.str s] []) = some (enc (dreadS s), []) := by
  by_cases hs : s.length = 19
  rotate_left
  · have e : dreadS s = null := if_neg hs
    have hb : (((s.length : Nat) : Int) != 19) = true := by simpa using (fun h => hs (by omega) : ¬ ((s.length : Nat) : Int) = 19)
    rw [e]
    rw [call_117]
    simp -implicitDefEqProofs only [↓reduceIte, go_sem, Nat.reduceAdd, Nat.reduceSub, Nat.reduceMul, Nat.reduceBEq, Nat.reduceLeDiff, Nat.reduceLT, Nat.reduceEqDiff, reduceCtorEq, Int.reduceBEq, Int.reduceBNe, Int.reduceLT, Int.reduceLE, Int.reduceAdd, Int.reduceSub, Int.reduceMul, Int.reduceNeg, Int.reduceEq, Int.reduceToNat, Tryz.f117, hb]
    repeat' ((first | refine split_cond (fun hc => ?_) (fun hc => ?_) | refine split_yes (fun hc => ?_) (fun hc => ?_) | refine split_no (fun hc => ?_) (fun hc => ?_)) <;> simp -implicitDefEqProofs only [hc, ↓reduceIte, go_sem, Nat.reduceAdd, Nat.reduceSub, Nat.reduceMul, Nat.reduceBEq, Nat.reduceLeDiff, Nat.reduceLT, Nat.reduceEqDiff, reduceCtorEq, Int.reduceBEq, Int.reduceBNe, Int.reduceLT, Int.reduceLE, Int.reduceAdd, Int.reduceSub, Int.reduceMul, Int.reduceNeg, Int.reduceEq, Int.reduceToNat, hb])
    rfl
  have hsI : ((s.length : Nat) : Int) = 19 := by omega
  have lt : ∀ (k : Nat) (l : List UInt8), (List.take k l).length ≤ 281474976710656 ∨ 281474976710656 < k := fun k l => by
    rcases Nat.lt_or_ge 281474976710656 k with h | h
    · exact .inr h
    · exact .inl (Nat.le_trans (List.length_take_le _ _) h)
  cases h0 : atoiN (List.take 4 s) with
  | none =>
    have e := six_no (s := s) (.inl h0)
    obtain ⟨z, a0⟩ := p_Atoi_no (List.take 4 s) ((lt _ _).resolve_right (by omega)) h0
    rw [e]
    rw [call_117]
    simp -implicitDefEqProofs only [↓reduceIte, go_sem, Nat.reduceAdd, Nat.reduceSub, Nat.reduceMul, Nat.reduceBEq, Nat.reduceLeDiff, Nat.reduceLT, Nat.reduceEqDiff, reduceCtorEq, Int.reduceBEq, Int.reduceBNe, Int.reduceLT, Int.reduceLE, Int.reduceAdd, Int.reduceSub, Int.reduceMul, Int.reduceNeg, Int.reduceEq, Int.reduceToNat, Tryz.f117, hs, hsI]
    repeat' ((first | refine split_cond (fun hc => ?_) (fun hc => ?_) | refine split_yes (fun hc => ?_) (fun hc => ?_) | refine split_no (fun hc => ?_) (fun hc => ?_)) <;> simp -implicitDefEqProofs only [hc, ↓reduceIte, go_sem, Nat.reduceAdd, Nat.reduceSub, Nat.reduceMul, Nat.reduceBEq, Nat.reduceLeDiff, Nat.reduceLT, Nat.reduceEqDiff, reduceCtorEq, Int.reduceBEq, Int.reduceBNe, Int.reduceLT, Int.reduceLE, Int.reduceAdd, Int.reduceSub, Int.reduceMul, Int.reduceNeg, Int.reduceEq, Int.reduceToNat, hs, hsI])
    rw [RL_eq]
    simp -implicitDefEqProofs only [↓reduceIte, go_sem, Nat.reduceAdd, Nat.reduceSub, Nat.reduceMul, Nat.reduceBEq, Nat.reduceLeDiff, Nat.reduceLT, Nat.reduceEqDiff, reduceCtorEq, Int.reduceBEq, Int.reduceBNe, Int.reduceLT, Int.reduceLE, Int.reduceAdd, Int.reduceSub, Int.reduceMul, Int.reduceNeg, Int.reduceEq, Int.reduceToNat, hs, hsI, at?, small_room, a0]
    repeat' ((first | refine split_cond (fun hc => ?_) (fun hc => ?_) | refine split_yes (fun hc => ?_) (fun hc => ?_) | refine split_no (fun hc => ?_) (fun hc => ?_)) <;> simp -implicitDefEqProofs only [hc, ↓reduceIte, go_sem, Nat.reduceAdd, Nat.reduceSub, Nat.reduceMul, Nat.reduceBEq, Nat.reduceLeDiff, Nat.reduceLT, Nat.reduceEqDiff, reduceCtorEq, Int.reduceBEq, Int.reduceBNe, Int.reduceLT, Int.reduceLE, Int.reduceAdd, Int.reduceSub, Int.reduceMul, Int.reduceNeg, Int.reduceEq, Int.reduceToNat, hs, hsI, at?, small_room, a0])
    rfl
  | some n0 =>
    have a0 := p_Atoi_ok (List.take 4 s) n0 ((lt _ _).resolve_right (by omega)) h0
    cases h1 : atoiN (List.take 2 (List.drop 5 s)) with
    | none =>
      have e := six_no (s := s) (.inr (.inl h1))
      obtain ⟨z, a1⟩ := p_Atoi_no (List.take 2 (List.drop 5 s)) ((lt _ _).resolve_right (by omega)) h1
      rw [e]
      rw [call_117]
      simp -implicitDefEqProofs only [↓reduceIte, go_sem, Nat.reduceAdd, Nat.reduceSub, Nat.reduceMul, Nat.reduceBEq, Nat.reduceLeDiff, Nat.reduceLT, Nat.reduceEqDiff, reduceCtorEq, Int.reduceBEq, Int.reduceBNe, Int.reduceLT, Int.reduceLE, Int.reduceAdd, Int.reduceSub, Int.reduceMul, Int.reduceNeg, Int.reduceEq, Int.reduceToNat, Tryz.f117, hs, hsI]
      repeat' ((first | refine split_cond (fun hc => ?_) (fun hc => ?_) | refine split_yes (fun hc => ?_) (fun hc => ?_) | refine split_no (fun hc => ?_) (fun hc => ?_)) <;> simp -implicitDefEqProofs only [hc, ↓reduceIte, go_sem, Nat.reduceAdd, Nat.reduceSub, Nat.reduceMul, Nat.reduceBEq, Nat.reduceLeDiff, Nat.reduceLT, Nat.reduceEqDiff, reduceCtorEq, Int.reduceBEq, Int.reduceBNe, Int.reduceLT, Int.reduceLE, Int.reduceAdd, Int.reduceSub, Int.reduceMul, Int.reduceNeg, Int.reduceEq, Int.reduceToNat, hs, hsI])
      rw [RL_eq]
      simp -implicitDefEqProofs only [↓reduceIte, go_sem, Nat.reduceAdd, Nat.reduceSub, Nat.reduceMul, Nat.reduceBEq, Nat.reduceLeDiff, Nat.reduceLT, Nat.reduceEqDiff, reduceCtorEq, Int.reduceBEq, Int.reduceBNe, Int.reduceLT, Int.reduceLE, Int.reduceAdd, Int.reduceSub, Int.reduceMul, Int.reduceNeg, Int.reduceEq, Int.reduceToNat, hs, hsI, at?, small_room, a0, a1]
      repeat' ((first | refine split_cond (fun hc => ?_) (fun hc => ?_) | refine split_yes (fun hc => ?_) (fun hc => ?_) | refine split_no (fun hc => ?_) (fun hc => ?_)) <;> simp -implicitDefEqProofs only [hc, ↓reduceIte, go_sem, Nat.reduceAdd, Nat.reduceSub, Nat.reduceMul, Nat.reduceBEq, Nat.reduceLeDiff, Nat.reduceLT, Nat.reduceEqDiff, reduceCtorEq, Int.reduceBEq, Int.reduceBNe, Int.reduceLT, Int.reduceLE, Int.reduceAdd, Int.reduceSub, Int.reduceMul, Int.reduceNeg, Int.reduceEq, Int.reduceToNat, hs, hsI, at?, small_room, a0, a1])
      rw [RL_eq]
      simp -implicitDefEqProofs only [↓reduceIte, go_sem, Nat.reduceAdd, Nat.reduceSub, Nat.reduceMul, Nat.reduceBEq, Nat.reduceLeDiff, Nat.reduceLT, Nat.reduceEqDiff, reduceCtorEq, Int.reduceBEq, Int.reduceBNe, Int.reduceLT, Int.reduceLE, Int.reduceAdd, Int.reduceSub, Int.reduceMul, Int.reduceNeg, Int.reduceEq, Int.reduceToNat, hs, hsI, at?, small_room, a0, a1]
      repeat' ((first | refine split_cond (fun hc => ?_) (fun hc => ?_) | refine split_yes (fun hc => ?_) (fun hc => ?_) | refine split_no (fun hc => ?_) (fun hc => ?_)) <;> simp -implicitDefEqProofs only [hc, ↓reduceIte, go_sem, Nat.reduceAdd, Nat.reduceSub, Nat.reduceMul, Nat.reduceBEq, Nat.reduceLeDiff, Nat.reduceLT, Nat.reduceEqDiff, reduceCtorEq, Int.reduceBEq, Int.reduceBNe, Int.reduceLT, Int.reduceLE, Int.reduceAdd, Int.reduceSub, Int.reduceMul, Int.reduceNeg, Int.reduceEq, Int.reduceToNat, hs, hsI, at?, small_room, a0, a1])
      rfl
    | some n1 =>
      have a1 := p_Atoi_ok (List.take 2 (List.drop 5 s)) n1 ((lt _ _).resolve_right (by omega)) h1
      cases h2 : atoiN (List.take 2 (List.drop 8 s)) with
      | none =>
        have e := six_no (s := s) (.inr (.inr (.inl h2)))
        obtain ⟨z, a2⟩ := p_Atoi_no (List.take 2 (List.drop 8 s)) ((lt _ _).resolve_right (by omega)) h2
        rw [e]
        rw [call_117]
        simp -implicitDefEqProofs only [↓reduceIte, go_sem, Nat.reduceAdd, Nat.reduceSub, Nat.reduceMul, Nat.reduceBEq, Nat.reduceLeDiff, Nat.reduceLT, Nat.reduceEqDiff, reduceCtorEq, Int.reduceBEq, Int.reduceBNe, Int.reduceLT, Int.reduceLE, Int.reduceAdd, Int.reduceSub, Int.reduceMul, Int.reduceNeg, Int.reduceEq, Int.reduceToNat, Tryz.f117, hs, hsI]
        repeat' ((first | refine split_cond (fun hc => ?_) (fun hc => ?_) | refine split_yes (fun hc => ?_) (fun hc => ?_) | refine split_no (fun hc => ?_) (fun hc => ?_)) <;> simp -implicitDefEqProofs only [hc, ↓reduceIte, go_sem, Nat.reduceAdd, Nat.reduceSub, Nat.reduceMul, Nat.reduceBEq, Nat.reduceLeDiff, Nat.reduceLT, Nat.reduceEqDiff, reduceCtorEq, Int.reduceBEq, Int.reduceBNe, Int.reduceLT, Int.reduceLE, Int.reduceAdd, Int.reduceSub, Int.reduceMul, Int.reduceNeg, Int.reduceEq, Int.reduceToNat, hs, hsI])
        rw [RL_eq]
        simp -implicitDefEqProofs only [↓reduceIte, go_sem, Nat.reduceAdd, Nat.reduceSub, Nat.reduceMul, Nat.reduceBEq, Nat.reduceLeDiff, Nat.reduceLT, Nat.reduceEqDiff, reduceCtorEq, Int.reduceBEq, Int.reduceBNe, Int.reduceLT, Int.reduceLE, Int.reduceAdd, Int.reduceSub, Int.reduceMul, Int.reduceNeg, Int.reduceEq, Int.reduceToNat, hs, hsI, at?, small_room, a0, a1, a2]
        repeat' ((first | refine split_cond (fun hc => ?_) (fun hc => ?_) | refine split_yes (fun hc => ?_) (fun hc => ?_) | refine split_no (fun hc => ?_) (fun hc => ?_)) <;> simp -implicitDefEqProofs only [hc, ↓reduceIte, go_sem, Nat.reduceAdd, Nat.reduceSub, Nat.reduceMul, Nat.reduceBEq, Nat.reduceLeDiff, Nat.reduceLT, Nat.reduceEqDiff, reduceCtorEq, Int.reduceBEq, Int.reduceBNe, Int.reduceLT, Int.reduceLE, Int.reduceAdd, Int.reduceSub, Int.reduceMul, Int.reduceNeg, Int.reduceEq, Int.reduceToNat, hs, hsI, at?, small_room, a0, a1, a2])
        rw [RL_eq]
        simp -implicitDefEqProofs only [↓reduceIte, go_sem, Nat.reduceAdd, Nat.reduceSub, Nat.reduceMul, Nat.reduceBEq, Nat.reduceLeDiff, Nat.reduceLT, Nat.reduceEqDiff, reduceCtorEq, Int.reduceBEq, Int.reduceBNe, Int.reduceLT, Int.reduceLE, Int.reduceAdd, Int.reduceSub, Int.reduceMul, Int.reduceNeg, Int.reduceEq, Int.reduceToNat, hs, hsI, at?, small_room, a0, a1, a2]
        repeat' ((first | refine split_cond (fun hc => ?_) (fun hc => ?_) | refine split_yes (fun hc => ?_) (fun hc => ?_) | refine split_no (fun hc => ?_) (fun hc => ?_)) <;> simp -implicitDefEqProofs only [hc, ↓reduceIte, go_sem, Nat.reduceAdd, Nat.reduceSub, Nat.reduceMul, Nat.reduceBEq, Nat.reduceLeDiff, Nat.reduceLT, Nat.reduceEqDiff, reduceCtorEq, Int.reduceBEq, Int.reduceBNe, Int.reduceLT, Int.reduceLE, Int.reduceAdd, Int.reduceSub, Int.reduceMul, Int.reduceNeg, Int.reduceEq, Int.reduceToNat, hs, hsI, at?, small_room, a0, a1, a2])
        rw [RL_eq]
        simp -implicitDefEqProofs only [↓reduceIte, go_sem, Nat.reduceAdd, Nat.reduceSub, Nat.reduceMul, Nat.reduceBEq, Nat.reduceLeDiff, Nat.reduceLT, Nat.reduceEqDiff, reduceCtorEq, Int.reduceBEq, Int.reduceBNe, Int.reduceLT, Int.reduceLE, Int.reduceAdd, Int.reduceSub, Int.reduceMul, Int.reduceNeg, Int.reduceEq, Int.reduceToNat, hs, hsI, at?, small_room, a0, a1, a2]
        repeat' ((first | refine split_cond (fun hc => ?_) (fun hc => ?_) | refine split_yes (fun hc => ?_) (fun hc => ?_) | refine split_no (fun hc => ?_) (fun hc => ?_)) <;> simp -implicitDefEqProofs only [hc, ↓reduceIte, go_sem, Nat.reduceAdd, Nat.reduceSub, Nat.reduceMul, Nat.reduceBEq, Nat.reduceLeDiff, Nat.reduceLT, Nat.reduceEqDiff, reduceCtorEq, Int.reduceBEq, Int.reduceBNe, Int.reduceLT, Int.reduceLE, Int.reduceAdd, Int.reduceSub, Int.reduceMul, Int.reduceNeg, Int.reduceEq, Int.reduceToNat, hs, hsI, at?, small_room, a0, a1, a2])
        rfl
      | some n2 =>
        have a2 := p_Atoi_ok (List.take 2 (List.drop 8 s)) n2 ((lt _ _).resolve_right (by omega)) h2
        cases h3 : atoiN (List.take 2 (List.drop 11 s)) with
        | none =>
          have e := six_no (s := s) (.inr (.inr (.inr (.inl h3))))
          obtain ⟨z, a3⟩ := p_Atoi_no (List.take 2 (List.drop 11 s)) ((lt _ _).resolve_right (by omega)) h3
          rw [e]
          rw [call_117]
          simp -implicitDefEqProofs only [↓reduceIte, go_sem, Nat.reduceAdd, Nat.reduceSub, Nat.reduceMul, Nat.reduceBEq, Nat.reduceLeDiff, Nat.reduceLT, Nat.reduceEqDiff, reduceCtorEq, Int.reduceBEq, Int.reduceBNe, Int.reduceLT, Int.reduceLE, Int.reduceAdd, Int.reduceSub, Int.reduceMul, Int.reduceNeg, Int.reduceEq, Int.reduceToNat, Tryz.f117, hs, hsI]
          repeat' ((first | refine split_cond (fun hc => ?_) (fun hc => ?_) | refine split_yes (fun hc => ?_) (fun hc => ?_) | refine split_no (fun hc => ?_) (fun hc => ?_)) <;> simp -implicitDefEqProofs only [hc, ↓reduceIte, go_sem, Nat.reduceAdd, Nat.reduceSub, Nat.reduceMul, Nat.reduceBEq, Nat.reduceLeDiff, Nat.reduceLT, Nat.reduceEqDiff, reduceCtorEq, Int.reduceBEq, Int.reduceBNe, Int.reduceLT, Int.reduceLE, Int.reduceAdd, Int.reduceSub, Int.reduceMul, Int.reduceNeg, Int.reduceEq, Int.reduceToNat, hs, hsI])
          rw [RL_eq]
          simp -implicitDefEqProofs only [↓reduceIte, go_sem, Nat.reduceAdd, Nat.reduceSub, Nat.reduceMul, Nat.reduceBEq, Nat.reduceLeDiff, Nat.reduceLT, Nat.reduceEqDiff, reduceCtorEq, Int.reduceBEq, Int.reduceBNe, Int.reduceLT, Int.reduceLE, Int.reduceAdd, Int.reduceSub, Int.reduceMul, Int.reduceNeg, Int.reduceEq, Int.reduceToNat, hs, hsI, at?, small_room, a0, a1, a2, a3]
          repeat' ((first | refine split_cond (fun hc => ?_) (fun hc => ?_) | refine split_yes (fun hc => ?_) (fun hc => ?_) | refine split_no (fun hc => ?_) (fun hc => ?_)) <;> simp -implicitDefEqProofs only [hc, ↓reduceIte, go_sem, Nat.reduceAdd, Nat.reduceSub, Nat.reduceMul, Nat.reduceBEq, Nat.reduceLeDiff, Nat.reduceLT, Nat.reduceEqDiff, reduceCtorEq, Int.reduceBEq, Int.reduceBNe, Int.reduceLT, Int.reduceLE, Int.reduceAdd, Int.reduceSub, Int.reduceMul, Int.reduceNeg, Int.reduceEq, Int.reduceToNat, hs, hsI, at?, small_room, a0, a1, a2, a3])
          rw [RL_eq]
          simp -implicitDefEqProofs only [↓reduceIte, go_sem, Nat.reduceAdd, Nat.reduceSub, Nat.reduceMul, Nat.reduceBEq, Nat.reduceLeDiff, Nat.reduceLT, Nat.reduceEqDiff, reduceCtorEq, Int.reduceBEq, Int.reduceBNe, Int.reduceLT, Int.reduceLE, Int.reduceAdd, Int.reduceSub, Int.reduceMul, Int.reduceNeg, Int.reduceEq, Int.reduceToNat, hs, hsI, at?, small_room, a0, a1, a2, a3]
          repeat' ((first | refine split_cond (fun hc => ?_) (fun hc => ?_) | refine split_yes (fun hc => ?_) (fun hc => ?_) | refine split_no (fun hc => ?_) (fun hc => ?_)) <;> simp -implicitDefEqProofs only [hc, ↓reduceIte, go_sem, Nat.reduceAdd, Nat.reduceSub, Nat.reduceMul, Nat.reduceBEq, Nat.reduceLeDiff, Nat.reduceLT, Nat.reduceEqDiff, reduceCtorEq, Int.reduceBEq, Int.reduceBNe, Int.reduceLT, Int.reduceLE, Int.reduceAdd, Int.reduceSub, Int.reduceMul, Int.reduceNeg, Int.reduceEq, Int.reduceToNat, hs, hsI, at?, small_room, a0, a1, a2, a3])
          rw [RL_eq]
          simp -implicitDefEqProofs only [↓reduceIte, go_sem, Nat.reduceAdd, Nat.reduceSub, Nat.reduceMul, Nat.reduceBEq, Nat.reduceLeDiff, Nat.reduceLT, Nat.reduceEqDiff, reduceCtorEq, Int.reduceBEq, Int.reduceBNe, Int.reduceLT, Int.reduceLE, Int.reduceAdd, Int.reduceSub, Int.reduceMul, Int.reduceNeg, Int.reduceEq, Int.reduceToNat, hs, hsI, at?, small_room, a0, a1, a2, a3]
          repeat' ((first | refine split_cond (fun hc => ?_) (fun hc => ?_) | refine split_yes (fun hc => ?_) (fun hc => ?_) | refine split_no (fun hc => ?_) (fun hc => ?_)) <;> simp -implicitDefEqProofs only [hc, ↓reduceIte, go_sem, Nat.reduceAdd, Nat.reduceSub, Nat.reduceMul, Nat.reduceBEq, Nat.reduceLeDiff, Nat.reduceLT, Nat.reduceEqDiff, reduceCtorEq, Int.reduceBEq, Int.reduceBNe, Int.reduceLT, Int.reduceLE, Int.reduceAdd, Int.reduceSub, Int.reduceMul, Int.reduceNeg, Int.reduceEq, Int.reduceToNat, hs, hsI, at?, small_room, a0, a1, a2, a3])
          rw [RL_eq]
          simp -implicitDefEqProofs only [↓reduceIte, go_sem, Nat.reduceAdd, Nat.reduceSub, Nat.reduceMul, Nat.reduceBEq, Nat.reduceLeDiff, Nat.reduceLT, Nat.reduceEqDiff, reduceCtorEq, Int.reduceBEq, Int.reduceBNe, Int.reduceLT, Int.reduceLE, Int.reduceAdd, Int.reduceSub, Int.reduceMul, Int.reduceNeg, Int.reduceEq, Int.reduceToNat, hs, hsI, at?, small_room, a0, a1, a2, a3]
          repeat' ((first | refine split_cond (fun hc => ?_) (fun hc => ?_) | refine split_yes (fun hc => ?_) (fun hc => ?_) | refine split_no (fun hc => ?_) (fun hc => ?_)) <;> simp -implicitDefEqProofs only [hc, ↓reduceIte, go_sem, Nat.reduceAdd, Nat.reduceSub, Nat.reduceMul, Nat.reduceBEq, Nat.reduceLeDiff, Nat.reduceLT, Nat.reduceEqDiff, reduceCtorEq, Int.reduceBEq, Int.reduceBNe, Int.reduceLT, Int.reduceLE, Int.reduceAdd, Int.reduceSub, Int.reduceMul, Int.reduceNeg, Int.reduceEq, Int.reduceToNat, hs, hsI, at?, small_room, a0, a1, a2, a3])
          rfl
        | some n3 =>
          have a3 := p_Atoi_ok (List.take 2 (List.drop 11 s)) n3 ((lt _ _).resolve_right (by omega)) h3
          cases h4 : atoiN (List.take 2 (List.drop 14 s)) with
          | none =>
            have e := six_no (s := s) (.inr (.inr (.inr (.inr (.inl h4)))))
            obtain ⟨z, a4⟩ := p_Atoi_no (List.take 2 (List.drop 14 s)) ((lt _ _).resolve_right (by omega)) h4
            rw [e]
            rw [call_117]
            simp -implicitDefEqProofs only [↓reduceIte, go_sem, Nat.reduceAdd, Nat.reduceSub, Nat.reduceMul, Nat.reduceBEq, Nat.reduceLeDiff, Nat.reduceLT, Nat.reduceEqDiff, reduceCtorEq, Int.reduceBEq, Int.reduceBNe, Int.reduceLT, Int.reduceLE, Int.reduceAdd, Int.reduceSub, Int.reduceMul, Int.reduceNeg, Int.reduceEq, Int.reduceToNat, Tryz.f117, hs, hsI]
            repeat' ((first | refine split_cond (fun hc => ?_) (fun hc => ?_) | refine split_yes (fun hc => ?_) (fun hc => ?_) | refine split_no (fun hc => ?_) (fun hc => ?_)) <;> simp -implicitDefEqProofs only [hc, ↓reduceIte, go_sem, Nat.reduceAdd, Nat.reduceSub, Nat.reduceMul, Nat.reduceBEq, Nat.reduceLeDiff, Nat.reduceLT, Nat.reduceEqDiff, reduceCtorEq, Int.reduceBEq, Int.reduceBNe, Int.reduceLT, Int.reduceLE, Int.reduceAdd, Int.reduceSub, Int.reduceMul, Int.reduceNeg, Int.reduceEq, Int.reduceToNat, hs, hsI])
            rw [RL_eq]
            simp -implicitDefEqProofs only [↓reduceIte, go_sem, Nat.reduceAdd, Nat.reduceSub, Nat.reduceMul, Nat.reduceBEq, Nat.reduceLeDiff, Nat.reduceLT, Nat.reduceEqDiff, reduceCtorEq, Int.reduceBEq, Int.reduceBNe, Int.reduceLT, Int.reduceLE, Int.reduceAdd, Int.reduceSub, Int.reduceMul, Int.reduceNeg, Int.reduceEq, Int.reduceToNat, hs, hsI, at?, small_room, a0, a1, a2, a3, a4]
            repeat' ((first | refine split_cond (fun hc => ?_) (fun hc => ?_) | refine split_yes (fun hc => ?_) (fun hc => ?_) | refine split_no (fun hc => ?_) (fun hc => ?_)) <;> simp -implicitDefEqProofs only [hc, ↓reduceIte, go_sem, Nat.reduceAdd, Nat.reduceSub, Nat.reduceMul, Nat.reduceBEq, Nat.reduceLeDiff, Nat.reduceLT, Nat.reduceEqDiff, reduceCtorEq, Int.reduceBEq, Int.reduceBNe, Int.reduceLT, Int.reduceLE, Int.reduceAdd, Int.reduceSub, Int.reduceMul, Int.reduceNeg, Int.reduceEq, Int.reduceToNat, hs, hsI, at?, small_room, a0, a1, a2, a3, a4])
            rw [RL_eq]
            simp -implicitDefEqProofs only [↓reduceIte, go_sem, Nat.reduceAdd, Nat.reduceSub, Nat.reduceMul, Nat.reduceBEq, Nat.reduceLeDiff, Nat.reduceLT, Nat.reduceEqDiff, reduceCtorEq, Int.reduceBEq, Int.reduceBNe, Int.reduceLT, Int.reduceLE, Int.reduceAdd, Int.reduceSub, Int.reduceMul, Int.reduceNeg, Int.reduceEq, Int.reduceToNat, hs, hsI, at?, small_room, a0, a1, a2, a3, a4]
            repeat' ((first | refine split_cond (fun hc => ?_) (fun hc => ?_) | refine split_yes (fun hc => ?_) (fun hc => ?_) | refine split_no (fun hc => ?_) (fun hc => ?_)) <;> simp -implicitDefEqProofs only [hc, ↓reduceIte, go_sem, Nat.reduceAdd, Nat.reduceSub, Nat.reduceMul, Nat.reduceBEq, Nat.reduceLeDiff, Nat.reduceLT, Nat.reduceEqDiff, reduceCtorEq, Int.reduceBEq, Int.reduceBNe, Int.reduceLT, Int.reduceLE, Int.reduceAdd, Int.reduceSub, Int.reduceMul, Int.reduceNeg, Int.reduceEq, Int.reduceToNat, hs, hsI, at?, small_room, a0, a1, a2, a3, a4])
            rw [RL_eq]
            simp -implicitDefEqProofs only [↓reduceIte, go_sem, Nat.reduceAdd, Nat.reduceSub, Nat.reduceMul, Nat.reduceBEq, Nat.reduceLeDiff, Nat.reduceLT, Nat.reduceEqDiff, reduceCtorEq, Int.reduceBEq, Int.reduceBNe, Int.reduceLT, Int.reduceLE, Int.reduceAdd, Int.reduceSub, Int.reduceMul, Int.reduceNeg, Int.reduceEq, Int.reduceToNat, hs, hsI, at?, small_room, a0, a1, a2, a3, a4]
            repeat' ((first | refine split_cond (fun hc => ?_) (fun hc => ?_) | refine split_yes (fun hc => ?_) (fun hc => ?_) | refine split_no (fun hc => ?_) (fun hc => ?_)) <;> simp -implicitDefEqProofs only [hc, ↓reduceIte, go_sem, Nat.reduceAdd, Nat.reduceSub, Nat.reduceMul, Nat.reduceBEq, Nat.reduceLeDiff, Nat.reduceLT, Nat.reduceEqDiff, reduceCtorEq, Int.reduceBEq, Int.reduceBNe, Int.reduceLT, Int.reduceLE, Int.reduceAdd, Int.reduceSub, Int.reduceMul, Int.reduceNeg, Int.reduceEq, Int.reduceToNat, hs, hsI, at?, small_room, a0, a1, a2, a3, a4])
            rw [RL_eq]
            simp -implicitDefEqProofs only [↓reduceIte, go_sem, Nat.reduceAdd, Nat.reduceSub, Nat.reduceMul, Nat.reduceBEq, Nat.reduceLeDiff, Nat.reduceLT, Nat.reduceEqDiff, reduceCtorEq, Int.reduceBEq, Int.reduceBNe, Int.reduceLT, Int.reduceLE, Int.reduceAdd, Int.reduceSub, Int.reduceMul, Int.reduceNeg, Int.reduceEq, Int.reduceToNat, hs, hsI, at?, small_room, a0, a1, a2, a3, a4]
            repeat' ((first | refine split_cond (fun hc => ?_) (fun hc => ?_) | refine split_yes (fun hc => ?_) (fun hc => ?_) | refine split_no (fun hc => ?_) (fun hc => ?_)) <;> simp -implicitDefEqProofs only [hc, ↓reduceIte, go_sem, Nat.reduceAdd, Nat.reduceSub, Nat.reduceMul, Nat.reduceBEq, Nat.reduceLeDiff, Nat.reduceLT, Nat.reduceEqDiff, reduceCtorEq, Int.reduceBEq, Int.reduceBNe, Int.reduceLT, Int.reduceLE, Int.reduceAdd, Int.reduceSub, Int.reduceMul, Int.reduceNeg, Int.reduceEq, Int.reduceToNat, hs, hsI, at?, small_room, a0, a1, a2, a3, a4])
            rw [RL_eq]
            simp -implicitDefEqProofs only [↓reduceIte, go_sem, Nat.reduceAdd, Nat.reduceSub, Nat.reduceMul, Nat.reduceBEq, Nat.reduceLeDiff, Nat.reduceLT, Nat.reduceEqDiff, reduceCtorEq, Int.reduceBEq, Int.reduceBNe, Int.reduceLT, Int.reduceLE, Int.reduceAdd, Int.reduceSub, Int.reduceMul, Int.reduceNeg, Int.reduceEq, Int.reduceToNat, hs, hsI, at?, small_room, a0, a1, a2, a3, a4]
            repeat' ((first | refine split_cond (fun hc => ?_) (fun hc => ?_) | refine split_yes (fun hc => ?_) (fun hc => ?_) | refine split_no (fun hc => ?_) (fun hc => ?_)) <;> simp -implicitDefEqProofs only [hc, ↓reduceIte, go_sem, Nat.reduceAdd, Nat.reduceSub, Nat.reduceMul, Nat.reduceBEq, Nat.reduceLeDiff, Nat.reduceLT, Nat.reduceEqDiff, reduceCtorEq, Int.reduceBEq, Int.reduceBNe, Int.reduceLT, Int.reduceLE, Int.reduceAdd, Int.reduceSub, Int.reduceMul, Int.reduceNeg, Int.reduceEq, Int.reduceToNat, hs, hsI, at?, small_room, a0, a1, a2, a3, a4])
            rfl
          | some n4 =>
            have a4 := p_Atoi_ok (List.take 2 (List.drop 14 s)) n4 ((lt _ _).resolve_right (by omega)) h4
            cases h5 : atoiN (List.take 2 (List.drop 17 s)) with
            | none =>
              have e := six_no (s := s) (.inr (.inr (.inr (.inr (.inr h5)))))
              obtain ⟨z, a5⟩ := p_Atoi_no (List.take 2 (List.drop 17 s)) ((lt _ _).resolve_right (by omega)) h5
              rw [e]
              rw [call_117]
              simp -implicitDefEqProofs only [↓reduceIte, go_sem, Nat.reduceAdd, Nat.reduceSub, Nat.reduceMul, Nat.reduceBEq, Nat.reduceLeDiff, Nat.reduceLT, Nat.reduceEqDiff, reduceCtorEq, Int.reduceBEq, Int.reduceBNe, Int.reduceLT, Int.reduceLE, Int.reduceAdd, Int.reduceSub, Int.reduceMul, Int.reduceNeg, Int.reduceEq, Int.reduceToNat, Tryz.f117, hs, hsI]
              repeat' ((first | refine split_cond (fun hc => ?_) (fun hc => ?_) | refine split_yes (fun hc => ?_) (fun hc => ?_) | refine split_no (fun hc => ?_) (fun hc => ?_)) <;> simp -implicitDefEqProofs only [hc, ↓reduceIte, go_sem, Nat.reduceAdd, Nat.reduceSub, Nat.reduceMul, Nat.reduceBEq, Nat.reduceLeDiff, Nat.reduceLT, Nat.reduceEqDiff, reduceCtorEq, Int.reduceBEq, Int.reduceBNe, Int.reduceLT, Int.reduceLE, Int.reduceAdd, Int.reduceSub, Int.reduceMul, Int.reduceNeg, Int.reduceEq, Int.reduceToNat, hs, hsI])
              rw [RL_eq]
              simp -implicitDefEqProofs only [↓reduceIte, go_sem, Nat.reduceAdd, Nat.reduceSub, Nat.reduceMul, Nat.reduceBEq, Nat.reduceLeDiff, Nat.reduceLT, Nat.reduceEqDiff, reduceCtorEq, Int.reduceBEq, Int.reduceBNe, Int.reduceLT, Int.reduceLE, Int.reduceAdd, Int.reduceSub, Int.reduceMul, Int.reduceNeg, Int.reduceEq, Int.reduceToNat, hs, hsI, at?, small_room, a0, a1, a2, a3, a4, a5]
              repeat' ((first | refine split_cond (fun hc => ?_) (fun hc => ?_) | refine split_yes (fun hc => ?_) (fun hc => ?_) | refine split_no (fun hc => ?_) (fun hc => ?_)) <;> simp -implicitDefEqProofs only [hc, ↓reduceIte, go_sem, Nat.reduceAdd, Nat.reduceSub, Nat.reduceMul, Nat.reduceBEq, Nat.reduceLeDiff, Nat.reduceLT, Nat.reduceEqDiff, reduceCtorEq, Int.reduceBEq, Int.reduceBNe, Int.reduceLT, Int.reduceLE, Int.reduceAdd, Int.reduceSub, Int.reduceMul, Int.reduceNeg, Int.reduceEq, Int.reduceToNat, hs, hsI, at?, small_room, a0, a1, a2, a3, a4, a5])
              rw [RL_eq]
              simp -implicitDefEqProofs only [↓reduceIte, go_sem, Nat.reduceAdd, Nat.reduceSub, Nat.reduceMul, Nat.reduceBEq, Nat.reduceLeDiff, Nat.reduceLT, Nat.reduceEqDiff, reduceCtorEq, Int.reduceBEq, Int.reduceBNe, Int.reduceLT, Int.reduceLE, Int.reduceAdd, Int.reduceSub, Int.reduceMul, Int.reduceNeg, Int.reduceEq, Int.reduceToNat, hs, hsI, at?, small_room, a0, a1, a2, a3, a4, a5]
              repeat' ((first | refine split_cond (fun hc => ?_) (fun hc => ?_) | refine split_yes (fun hc => ?_) (fun hc => ?_) | refine split_no (fun hc => ?_) (fun hc => ?_)) <;> simp -implicitDefEqProofs only [hc, ↓reduceIte, go_sem, Nat.reduceAdd, Nat.reduceSub, Nat.reduceMul, Nat.reduceBEq, Nat.reduceLeDiff, Nat.reduceLT, Nat.reduceEqDiff, reduceCtorEq, Int.reduceBEq, Int.reduceBNe, Int.reduceLT, Int.reduceLE, Int.reduceAdd, Int.reduceSub, Int.reduceMul, Int.reduceNeg, Int.reduceEq, Int.reduceToNat, hs, hsI, at?, small_room, a0, a1, a2, a3, a4, a5])
              rw [RL_eq]
              simp -implicitDefEqProofs only [↓reduceIte, go_sem, Nat.reduceAdd, Nat.reduceSub, Nat.reduceMul, Nat.reduceBEq, Nat.reduceLeDiff, Nat.reduceLT, Nat.reduceEqDiff, reduceCtorEq, Int.reduceBEq, Int.reduceBNe, Int.reduceLT, Int.reduceLE, Int.reduceAdd, Int.reduceSub, Int.reduceMul, Int.reduceNeg, Int.reduceEq, Int.reduceToNat, hs, hsI, at?, small_room, a0, a1, a2, a3, a4, a5]
              repeat' ((first | refine split_cond (fun hc => ?_) (fun hc => ?_) | refine split_yes (fun hc => ?_) (fun hc => ?_) | refine split_no (fun hc => ?_) (fun hc => ?_)) <;> simp -implicitDefEqProofs only [hc, ↓reduceIte, go_sem, Nat.reduceAdd, Nat.reduceSub, Nat.reduceMul, Nat.reduceBEq, Nat.reduceLeDiff, Nat.reduceLT, Nat.reduceEqDiff, reduceCtorEq, Int.reduceBEq, Int.reduceBNe, Int.reduceLT, Int.reduceLE, Int.reduceAdd, Int.reduceSub, Int.reduceMul, Int.reduceNeg, Int.reduceEq, Int.reduceToNat, hs, hsI, at?, small_room, a0, a1, a2, a3, a4, a5])
              rw [RL_eq]
              simp -implicitDefEqProofs only [↓reduceIte, go_sem, Nat.reduceAdd, Nat.reduceSub, Nat.reduceMul, Nat.reduceBEq, Nat.reduceLeDiff, Nat.reduceLT, Nat.reduceEqDiff, reduceCtorEq, Int.reduceBEq, Int.reduceBNe, Int.reduceLT, Int.reduceLE, Int.reduceAdd, Int.reduceSub, Int.reduceMul, Int.reduceNeg, Int.reduceEq, Int.reduceToNat, hs, hsI, at?, small_room, a0, a1, a2, a3, a4, a5]
              repeat' ((first | refine split_cond (fun hc => ?_) (fun hc => ?_) | refine split_yes (fun hc => ?_) (fun hc => ?_) | refine split_no (fun hc => ?_) (fun hc => ?_)) <;> simp -implicitDefEqProofs only [hc, ↓reduceIte, go_sem, Nat.reduceAdd, Nat.reduceSub, Nat.reduceMul, Nat.reduceBEq, Nat.reduceLeDiff, Nat.reduceLT, Nat.reduceEqDiff, reduceCtorEq, Int.reduceBEq, Int.reduceBNe, Int.reduceLT, Int.reduceLE, Int.reduceAdd, Int.reduceSub, Int.reduceMul, Int.reduceNeg, Int.reduceEq, Int.reduceToNat, hs, hsI, at?, small_room, a0, a1, a2, a3, a4, a5])
              rw [RL_eq]
              simp -implicitDefEqProofs only [↓reduceIte, go_sem, Nat.reduceAdd, Nat.reduceSub, Nat.reduceMul, Nat.reduceBEq, Nat.reduceLeDiff, Nat.reduceLT, Nat.reduceEqDiff, reduceCtorEq, Int.reduceBEq, Int.reduceBNe, Int.reduceLT, Int.reduceLE, Int.reduceAdd, Int.reduceSub, Int.reduceMul, Int.reduceNeg, Int.reduceEq, Int.reduceToNat, hs, hsI, at?, small_room, a0, a1, a2, a3, a4, a5]
              repeat' ((first | refine split_cond (fun hc => ?_) (fun hc => ?_) | refine split_yes (fun hc => ?_) (fun hc => ?_) | refine split_no (fun hc => ?_) (fun hc => ?_)) <;> simp -implicitDefEqProofs only [hc, ↓reduceIte, go_sem, Nat.reduceAdd, Nat.reduceSub, Nat.reduceMul, Nat.reduceBEq, Nat.reduceLeDiff, Nat.reduceLT, Nat.reduceEqDiff, reduceCtorEq, Int.reduceBEq, Int.reduceBNe, Int.reduceLT, Int.reduceLE, Int.reduceAdd, Int.reduceSub, Int.reduceMul, Int.reduceNeg, Int.reduceEq, Int.reduceToNat, hs, hsI, at?, small_room, a0, a1, a2, a3, a4, a5])
              rw [RL_eq]
              simp -implicitDefEqProofs only [↓reduceIte, go_sem, Nat.reduceAdd, Nat.reduceSub, Nat.reduceMul, Nat.reduceBEq, Nat.reduceLeDiff, Nat.reduceLT, Nat.reduceEqDiff, reduceCtorEq, Int.reduceBEq, Int.reduceBNe, Int.reduceLT, Int.reduceLE, Int.reduceAdd, Int.reduceSub, Int.reduceMul, Int.reduceNeg, Int.reduceEq, Int.reduceToNat, hs, hsI, at?, small_room, a0, a1, a2, a3, a4, a5]
              repeat' ((first | refine split_cond (fun hc => ?_) (fun hc => ?_) | refine split_yes (fun hc => ?_) (fun hc => ?_) | refine split_no (fun hc => ?_) (fun hc => ?_)) <;> simp -implicitDefEqProofs only [hc, ↓reduceIte, go_sem, Nat.reduceAdd, Nat.reduceSub, Nat.reduceMul, Nat.reduceBEq, Nat.reduceLeDiff, Nat.reduceLT, Nat.reduceEqDiff, reduceCtorEq, Int.reduceBEq, Int.reduceBNe, Int.reduceLT, Int.reduceLE, Int.reduceAdd, Int.reduceSub, Int.reduceMul, Int.reduceNeg, Int.reduceEq, Int.reduceToNat, hs, hsI, at?, small_room, a0, a1, a2, a3, a4, a5])
              rfl
            | some n5 =>
              have a5 := p_Atoi_ok (List.take 2 (List.drop 17 s)) n5 ((lt _ _).resolve_right (by omega)) h5
              have hsix := six_yes h0 h1 h2 h3 h4 h5
              have hv : dreadS s = if (dateV n0 n1 n2 n3 n4 n5).k = 0 ∨ dtextS (dateV n0 n1 n2 n3 n4 n5).n ≠ s then null else dateV n0 n1 n2 n3 n4 n5 := by unfold dreadS; rw [if_pos hs, hsix]
              have hd := c_Date n0 n1 n2 n3 n4 n5
              rcases date_cases n0 n1 n2 n3 n4 n5 with hc | ⟨hk, hss, hr⟩
              · rw [hc] at hv hd
                have hv : dreadS s = null := by rw [hv]; rfl
                rw [hv]
                have kn : null.k = 0 := rfl
                rw [call_117]
                simp -implicitDefEqProofs only [↓reduceIte, go_sem, Nat.reduceAdd, Nat.reduceSub, Nat.reduceMul, Nat.reduceBEq, Nat.reduceLeDiff, Nat.reduceLT, Nat.reduceEqDiff, reduceCtorEq, Int.reduceBEq, Int.reduceBNe, Int.reduceLT, Int.reduceLE, Int.reduceAdd, Int.reduceSub, Int.reduceMul, Int.reduceNeg, Int.reduceEq, Int.reduceToNat, Tryz.f117, hs, hsI]
                repeat' ((first | refine split_cond (fun hc => ?_) (fun hc => ?_) | refine split_yes (fun hc => ?_) (fun hc => ?_) | refine split_no (fun hc => ?_) (fun hc => ?_)) <;> simp -implicitDefEqProofs only [hc, ↓reduceIte, go_sem, Nat.reduceAdd, Nat.reduceSub, Nat.reduceMul, Nat.reduceBEq, Nat.reduceLeDiff, Nat.reduceLT, Nat.reduceEqDiff, reduceCtorEq, Int.reduceBEq, Int.reduceBNe, Int.reduceLT, Int.reduceLE, Int.reduceAdd, Int.reduceSub, Int.reduceMul, Int.reduceNeg, Int.reduceEq, Int.reduceToNat, hs, hsI])
                rw [RL_eq]
                simp -implicitDefEqProofs only [↓reduceIte, go_sem, Nat.reduceAdd, Nat.reduceSub, Nat.reduceMul, Nat.reduceBEq, Nat.reduceLeDiff, Nat.reduceLT, Nat.reduceEqDiff, reduceCtorEq, Int.reduceBEq, Int.reduceBNe, Int.reduceLT, Int.reduceLE, Int.reduceAdd, Int.reduceSub, Int.reduceMul, Int.reduceNeg, Int.reduceEq, Int.reduceToNat, hs, hsI, at?, small_room, a0, a1, a2, a3, a4, a5]
                repeat' ((first | refine split_cond (fun hc => ?_) (fun hc => ?_) | refine split_yes (fun hc => ?_) (fun hc => ?_) | refine split_no (fun hc => ?_) (fun hc => ?_)) <;> simp -implicitDefEqProofs only [hc, ↓reduceIte, go_sem, Nat.reduceAdd, Nat.reduceSub, Nat.reduceMul, Nat.reduceBEq, Nat.reduceLeDiff, Nat.reduceLT, Nat.reduceEqDiff, reduceCtorEq, Int.reduceBEq, Int.reduceBNe, Int.reduceLT, Int.reduceLE, Int.reduceAdd, Int.reduceSub, Int.reduceMul, Int.reduceNeg, Int.reduceEq, Int.reduceToNat, hs, hsI, at?, small_room, a0, a1, a2, a3, a4, a5])
                rw [RL_eq]
                simp -implicitDefEqProofs only [↓reduceIte, go_sem, Nat.reduceAdd, Nat.reduceSub, Nat.reduceMul, Nat.reduceBEq, Nat.reduceLeDiff, Nat.reduceLT, Nat.reduceEqDiff, reduceCtorEq, Int.reduceBEq, Int.reduceBNe, Int.reduceLT, Int.reduceLE, Int.reduceAdd, Int.reduceSub, Int.reduceMul, Int.reduceNeg, Int.reduceEq, Int.reduceToNat, hs, hsI, at?, small_room, a0, a1, a2, a3, a4, a5]
                repeat' ((first | refine split_cond (fun hc => ?_) (fun hc => ?_) | refine split_yes (fun hc => ?_) (fun hc => ?_) | refine split_no (fun hc => ?_) (fun hc => ?_)) <;> simp -implicitDefEqProofs only [hc, ↓reduceIte, go_sem, Nat.reduceAdd, Nat.reduceSub, Nat.reduceMul, Nat.reduceBEq, Nat.reduceLeDiff, Nat.reduceLT, Nat.reduceEqDiff, reduceCtorEq, Int.reduceBEq, Int.reduceBNe, Int.reduceLT, Int.reduceLE, Int.reduceAdd, Int.reduceSub, Int.reduceMul, Int.reduceNeg, Int.reduceEq, Int.reduceToNat, hs, hsI, at?, small_room, a0, a1, a2, a3, a4, a5])
                rw [RL_eq]
                simp -implicitDefEqProofs only [↓reduceIte, go_sem, Nat.reduceAdd, Nat.reduceSub, Nat.reduceMul, Nat.reduceBEq, Nat.reduceLeDiff, Nat.reduceLT, Nat.reduceEqDiff, reduceCtorEq, Int.reduceBEq, Int.reduceBNe, Int.reduceLT, Int.reduceLE, Int.reduceAdd, Int.reduceSub, Int.reduceMul, Int.reduceNeg, Int.reduceEq, Int.reduceToNat, hs, hsI, at?, small_room, a0, a1, a2, a3, a4, a5]
                repeat' ((first | refine split_cond (fun hc => ?_) (fun hc => ?_) | refine split_yes (fun hc => ?_) (fun hc => ?_) | refine split_no (fun hc => ?_) (fun hc => ?_)) <;> simp -implicitDefEqProofs only [hc, ↓reduceIte, go_sem, Nat.reduceAdd, Nat.reduceSub, Nat.reduceMul, Nat.reduceBEq, Nat.reduceLeDiff, Nat.reduceLT, Nat.reduceEqDiff, reduceCtorEq, Int.reduceBEq, Int.reduceBNe, Int.reduceLT, Int.reduceLE, Int.reduceAdd, Int.reduceSub, Int.reduceMul, Int.reduceNeg, Int.reduceEq, Int.reduceToNat, hs, hsI, at?, small_room, a0, a1, a2, a3, a4, a5])
                rw [RL_eq]
                simp -implicitDefEqProofs only [↓reduceIte, go_sem, Nat.reduceAdd, Nat.reduceSub, Nat.reduceMul, Nat.reduceBEq, Nat.reduceLeDiff, Nat.reduceLT, Nat.reduceEqDiff, reduceCtorEq, Int.reduceBEq, Int.reduceBNe, Int.reduceLT, Int.reduceLE, Int.reduceAdd, Int.reduceSub, Int.reduceMul, Int.reduceNeg, Int.reduceEq, Int.reduceToNat, hs, hsI, at?, small_room, a0, a1, a2, a3, a4, a5]
                repeat' ((first | refine split_cond (fun hc => ?_) (fun hc => ?_) | refine split_yes (fun hc => ?_) (fun hc => ?_) | refine split_no (fun hc => ?_) (fun hc => ?_)) <;> simp -implicitDefEqProofs only [hc, ↓reduceIte, go_sem, Nat.reduceAdd, Nat.reduceSub, Nat.reduceMul, Nat.reduceBEq, Nat.reduceLeDiff, Nat.reduceLT, Nat.reduceEqDiff, reduceCtorEq, Int.reduceBEq, Int.reduceBNe, Int.reduceLT, Int.reduceLE, Int.reduceAdd, Int.reduceSub, Int.reduceMul, Int.reduceNeg, Int.reduceEq, Int.reduceToNat, hs, hsI, at?, small_room, a0, a1, a2, a3, a4, a5])
                rw [RL_eq]
                simp -implicitDefEqProofs only [↓reduceIte, go_sem, Nat.reduceAdd, Nat.reduceSub, Nat.reduceMul, Nat.reduceBEq, Nat.reduceLeDiff, Nat.reduceLT, Nat.reduceEqDiff, reduceCtorEq, Int.reduceBEq, Int.reduceBNe, Int.reduceLT, Int.reduceLE, Int.reduceAdd, Int.reduceSub, Int.reduceMul, Int.reduceNeg, Int.reduceEq, Int.reduceToNat, hs, hsI, at?, small_room, a0, a1, a2, a3, a4, a5]
                repeat' ((first | refine split_cond (fun hc => ?_) (fun hc => ?_) | refine split_yes (fun hc => ?_) (fun hc => ?_) | refine split_no (fun hc => ?_) (fun hc => ?_)) <;> simp -implicitDefEqProofs only [hc, ↓reduceIte, go_sem, Nat.reduceAdd, Nat.reduceSub, Nat.reduceMul, Nat.reduceBEq, Nat.reduceLeDiff, Nat.reduceLT, Nat.reduceEqDiff, reduceCtorEq, Int.reduceBEq, Int.reduceBNe, Int.reduceLT, Int.reduceLE, Int.reduceAdd, Int.reduceSub, Int.reduceMul, Int.reduceNeg, Int.reduceEq, Int.reduceToNat, hs, hsI, at?, small_room, a0, a1, a2, a3, a4, a5])
                rw [RL_eq]
                simp -implicitDefEqProofs only [↓reduceIte, go_sem, Nat.reduceAdd, Nat.reduceSub, Nat.reduceMul, Nat.reduceBEq, Nat.reduceLeDiff, Nat.reduceLT, Nat.reduceEqDiff, reduceCtorEq, Int.reduceBEq, Int.reduceBNe, Int.reduceLT, Int.reduceLE, Int.reduceAdd, Int.reduceSub, Int.reduceMul, Int.reduceNeg, Int.reduceEq, Int.reduceToNat, hs, hsI, at?, small_room, a0, a1, a2, a3, a4, a5]
                repeat' ((first | refine split_cond (fun hc => ?_) (fun hc => ?_) | refine split_yes (fun hc => ?_) (fun hc => ?_) | refine split_no (fun hc => ?_) (fun hc => ?_)) <;> simp -implicitDefEqProofs only [hc, ↓reduceIte, go_sem, Nat.reduceAdd, Nat.reduceSub, Nat.reduceMul, Nat.reduceBEq, Nat.reduceLeDiff, Nat.reduceLT, Nat.reduceEqDiff, reduceCtorEq, Int.reduceBEq, Int.reduceBNe, Int.reduceLT, Int.reduceLE, Int.reduceAdd, Int.reduceSub, Int.reduceMul, Int.reduceNeg, Int.reduceEq, Int.reduceToNat, hs, hsI, at?, small_room, a0, a1, a2, a3, a4, a5])
                rw [RL_eq]
                simp -implicitDefEqProofs only [↓reduceIte, go_sem, Nat.reduceAdd, Nat.reduceSub, Nat.reduceMul, Nat.reduceBEq, Nat.reduceLeDiff, Nat.reduceLT, Nat.reduceEqDiff, reduceCtorEq, Int.reduceBEq, Int.reduceBNe, Int.reduceLT, Int.reduceLE, Int.reduceAdd, Int.reduceSub, Int.reduceMul, Int.reduceNeg, Int.reduceEq, Int.reduceToNat, hs, hsI, at?, small_room, a0, a1, a2, a3, a4, a5, hd, kn]
                repeat' ((first | refine split_cond (fun hc => ?_) (fun hc => ?_) | refine split_yes (fun hc => ?_) (fun hc => ?_) | refine split_no (fun hc => ?_) (fun hc => ?_)) <;> simp -implicitDefEqProofs only [hc, ↓reduceIte, go_sem, Nat.reduceAdd, Nat.reduceSub, Nat.reduceMul, Nat.reduceBEq, Nat.reduceLeDiff, Nat.reduceLT, Nat.reduceEqDiff, reduceCtorEq, Int.reduceBEq, Int.reduceBNe, Int.reduceLT, Int.reduceLE, Int.reduceAdd, Int.reduceSub, Int.reduceMul, Int.reduceNeg, Int.reduceEq, Int.reduceToNat, hs, hsI, at?, small_room, a0, a1, a2, a3, a4, a5, hd, kn])
                all_goals rfl
              · have hb := right_moment hk hr
                have ht := c_dateText (dateV n0 n1 n2 n3 n4 n5).n hb.1 hb.2
                by_cases hq : dtextS (dateV n0 n1 n2 n3 n4 n5).n = s
                · have hv : dreadS s = dateV n0 n1 n2 n3 n4 n5 := by rw [hv, if_neg (fun h => h.elim (fun h => by rw [hk] at h; simp at h) (fun h => h hq))]
                  have hq2 : (dtextS (dateV n0 n1 n2 n3 n4 n5).n == s) = true := by simp [hq]
                  rw [hv]
                  rw [call_117]
                  simp -implicitDefEqProofs only [↓reduceIte, go_sem, Nat.reduceAdd, Nat.reduceSub, Nat.reduceMul, Nat.reduceBEq, Nat.reduceLeDiff, Nat.reduceLT, Nat.reduceEqDiff, reduceCtorEq, Int.reduceBEq, Int.reduceBNe, Int.reduceLT, Int.reduceLE, Int.reduceAdd, Int.reduceSub, Int.reduceMul, Int.reduceNeg, Int.reduceEq, Int.reduceToNat, Tryz.f117, hs, hsI]
                  repeat' ((first | refine split_cond (fun hc => ?_) (fun hc => ?_) | refine split_yes (fun hc => ?_) (fun hc => ?_) | refine split_no (fun hc => ?_) (fun hc => ?_)) <;> simp -implicitDefEqProofs only [hc, ↓reduceIte, go_sem, Nat.reduceAdd, Nat.reduceSub, Nat.reduceMul, Nat.reduceBEq, Nat.reduceLeDiff, Nat.reduceLT, Nat.reduceEqDiff, reduceCtorEq, Int.reduceBEq, Int.reduceBNe, Int.reduceLT, Int.reduceLE, Int.reduceAdd, Int.reduceSub, Int.reduceMul, Int.reduceNeg, Int.reduceEq, Int.reduceToNat, hs, hsI])
                  rw [RL_eq]
                  simp -implicitDefEqProofs only [↓reduceIte, go_sem, Nat.reduceAdd, Nat.reduceSub, Nat.reduceMul, Nat.reduceBEq, Nat.reduceLeDiff, Nat.reduceLT, Nat.reduceEqDiff, reduceCtorEq, Int.reduceBEq, Int.reduceBNe, Int.reduceLT, Int.reduceLE, Int.reduceAdd, Int.reduceSub, Int.reduceMul, Int.reduceNeg, Int.reduceEq, Int.reduceToNat, hs, hsI, at?, small_room, a0, a1, a2, a3, a4, a5]
                  repeat' ((first | refine split_cond (fun hc => ?_) (fun hc => ?_) | refine split_yes (fun hc => ?_) (fun hc => ?_) | refine split_no (fun hc => ?_) (fun hc => ?_)) <;> simp -implicitDefEqProofs only [hc, ↓reduceIte, go_sem, Nat.reduceAdd, Nat.reduceSub, Nat.reduceMul, Nat.reduceBEq, Nat.reduceLeDiff, Nat.reduceLT, Nat.reduceEqDiff, reduceCtorEq, Int.reduceBEq, Int.reduceBNe, Int.reduceLT, Int.reduceLE, Int.reduceAdd, Int.reduceSub, Int.reduceMul, Int.reduceNeg, Int.reduceEq, Int.reduceToNat, hs, hsI, at?, small_room, a0, a1, a2, a3, a4, a5])
                  rw [RL_eq]
                  simp -implicitDefEqProofs only [↓reduceIte, go_sem, Nat.reduceAdd, Nat.reduceSub, Nat.reduceMul, Nat.reduceBEq, Nat.reduceLeDiff, Nat.reduceLT, Nat.reduceEqDiff, reduceCtorEq, Int.reduceBEq, Int.reduceBNe, Int.reduceLT, Int.reduceLE, Int.reduceAdd, Int.reduceSub, Int.reduceMul, Int.reduceNeg, Int.reduceEq, Int.reduceToNat, hs, hsI, at?, small_room, a0, a1, a2, a3, a4, a5]
                  repeat' ((first | refine split_cond (fun hc => ?_) (fun hc => ?_) | refine split_yes (fun hc => ?_) (fun hc => ?_) | refine split_no (fun hc => ?_) (fun hc => ?_)) <;> simp -implicitDefEqProofs only [hc, ↓reduceIte, go_sem, Nat.reduceAdd, Nat.reduceSub, Nat.reduceMul, Nat.reduceBEq, Nat.reduceLeDiff, Nat.reduceLT, Nat.reduceEqDiff, reduceCtorEq, Int.reduceBEq, Int.reduceBNe, Int.reduceLT, Int.reduceLE, Int.reduceAdd, Int.reduceSub, Int.reduceMul, Int.reduceNeg, Int.reduceEq, Int.reduceToNat, hs, hsI, at?, small_room, a0, a1, a2, a3, a4, a5])
                  rw [RL_eq]
                  simp -implicitDefEqProofs only [↓reduceIte, go_sem, Nat.reduceAdd, Nat.reduceSub, Nat.reduceMul, Nat.reduceBEq, Nat.reduceLeDiff, Nat.reduceLT, Nat.reduceEqDiff, reduceCtorEq, Int.reduceBEq, Int.reduceBNe, Int.reduceLT, Int.reduceLE, Int.reduceAdd, Int.reduceSub, Int.reduceMul, Int.reduceNeg, Int.reduceEq, Int.reduceToNat, hs, hsI, at?, small_room, a0, a1, a2, a3, a4, a5]
                  repeat' ((first | refine split_cond (fun hc => ?_) (fun hc => ?_) | refine split_yes (fun hc => ?_) (fun hc => ?_) | refine split_no (fun hc => ?_) (fun hc => ?_)) <;> simp -implicitDefEqProofs only [hc, ↓reduceIte, go_sem, Nat.reduceAdd, Nat.reduceSub, Nat.reduceMul, Nat.reduceBEq, Nat.reduceLeDiff, Nat.reduceLT, Nat.reduceEqDiff, reduceCtorEq, Int.reduceBEq, Int.reduceBNe, Int.reduceLT, Int.reduceLE, Int.reduceAdd, Int.reduceSub, Int.reduceMul, Int.reduceNeg, Int.reduceEq, Int.reduceToNat, hs, hsI, at?, small_room, a0, a1, a2, a3, a4, a5])
                  rw [RL_eq]
                  simp -implicitDefEqProofs only [↓reduceIte, go_sem, Nat.reduceAdd, Nat.reduceSub, Nat.reduceMul, Nat.reduceBEq, Nat.reduceLeDiff, Nat.reduceLT, Nat.reduceEqDiff, reduceCtorEq, Int.reduceBEq, Int.reduceBNe, Int.reduceLT, Int.reduceLE, Int.reduceAdd, Int.reduceSub, Int.reduceMul, Int.reduceNeg, Int.reduceEq, Int.reduceToNat, hs, hsI, at?, small_room, a0, a1, a2, a3, a4, a5]
                  repeat' ((first | refine split_cond (fun hc => ?_) (fun hc => ?_) | refine split_yes (fun hc => ?_) (fun hc => ?_) | refine split_no (fun hc => ?_) (fun hc => ?_)) <;> simp -implicitDefEqProofs only [hc, ↓reduceIte, go_sem, Nat.reduceAdd, Nat.reduceSub, Nat.reduceMul, Nat.reduceBEq, Nat.reduceLeDiff, Nat.reduceLT, Nat.reduceEqDiff, reduceCtorEq, Int.reduceBEq, Int.reduceBNe, Int.reduceLT, Int.reduceLE, Int.reduceAdd, Int.reduceSub, Int.reduceMul, Int.reduceNeg, Int.reduceEq, Int.reduceToNat, hs, hsI, at?, small_room, a0, a1, a2, a3, a4, a5])
                  rw [RL_eq]
                  simp -implicitDefEqProofs only [↓reduceIte, go_sem, Nat.reduceAdd, Nat.reduceSub, Nat.reduceMul, Nat.reduceBEq, Nat.reduceLeDiff, Nat.reduceLT, Nat.reduceEqDiff, reduceCtorEq, Int.reduceBEq, Int.reduceBNe, Int.reduceLT, Int.reduceLE, Int.reduceAdd, Int.reduceSub, Int.reduceMul, Int.reduceNeg, Int.reduceEq, Int.reduceToNat, hs, hsI, at?, small_room, a0, a1, a2, a3, a4, a5]
                  repeat' ((first | refine split_cond (fun hc => ?_) (fun hc => ?_) | refine split_yes (fun hc => ?_) (fun hc => ?_) | refine split_no (fun hc => ?_) (fun hc => ?_)) <;> simp -implicitDefEqProofs only [hc, ↓reduceIte, go_sem, Nat.reduceAdd, Nat.reduceSub, Nat.reduceMul, Nat.reduceBEq, Nat.reduceLeDiff, Nat.reduceLT, Nat.reduceEqDiff, reduceCtorEq, Int.reduceBEq, Int.reduceBNe, Int.reduceLT, Int.reduceLE, Int.reduceAdd, Int.reduceSub, Int.reduceMul, Int.reduceNeg, Int.reduceEq, Int.reduceToNat, hs, hsI, at?, small_room, a0, a1, a2, a3, a4, a5])
                  rw [RL_eq]
                  simp -implicitDefEqProofs only [↓reduceIte, go_sem, Nat.reduceAdd, Nat.reduceSub, Nat.reduceMul, Nat.reduceBEq, Nat.reduceLeDiff, Nat.reduceLT, Nat.reduceEqDiff, reduceCtorEq, Int.reduceBEq, Int.reduceBNe, Int.reduceLT, Int.reduceLE, Int.reduceAdd, Int.reduceSub, Int.reduceMul, Int.reduceNeg, Int.reduceEq, Int.reduceToNat, hs, hsI, at?, small_room, a0, a1, a2, a3, a4, a5]
                  repeat' ((first | refine split_cond (fun hc => ?_) (fun hc => ?_) | refine split_yes (fun hc => ?_) (fun hc => ?_) | refine split_no (fun hc => ?_) (fun hc => ?_)) <;> simp -implicitDefEqProofs only [hc, ↓reduceIte, go_sem, Nat.reduceAdd, Nat.reduceSub, Nat.reduceMul, Nat.reduceBEq, Nat.reduceLeDiff, Nat.reduceLT, Nat.reduceEqDiff, reduceCtorEq, Int.reduceBEq, Int.reduceBNe, Int.reduceLT, Int.reduceLE, Int.reduceAdd, Int.reduceSub, Int.reduceMul, Int.reduceNeg, Int.reduceEq, Int.reduceToNat, hs, hsI, at?, small_room, a0, a1, a2, a3, a4, a5])
                  rw [RL_eq]
                  simp -implicitDefEqProofs only [↓reduceIte, go_sem, Nat.reduceAdd, Nat.reduceSub, Nat.reduceMul, Nat.reduceBEq, Nat.reduceLeDiff, Nat.reduceLT, Nat.reduceEqDiff, reduceCtorEq, Int.reduceBEq, Int.reduceBNe, Int.reduceLT, Int.reduceLE, Int.reduceAdd, Int.reduceSub, Int.reduceMul, Int.reduceNeg, Int.reduceEq, Int.reduceToNat, hs, hsI, at?, small_room, a0, a1, a2, a3, a4, a5, hd, hk, ht, hq2]
                  repeat' ((first | refine split_cond (fun hc => ?_) (fun hc => ?_) | refine split_yes (fun hc => ?_) (fun hc => ?_) | refine split_no (fun hc => ?_) (fun hc => ?_)) <;> simp -implicitDefEqProofs only [hc, ↓reduceIte, go_sem, Nat.reduceAdd, Nat.reduceSub, Nat.reduceMul, Nat.reduceBEq, Nat.reduceLeDiff, Nat.reduceLT, Nat.reduceEqDiff, reduceCtorEq, Int.reduceBEq, Int.reduceBNe, Int.reduceLT, Int.reduceLE, Int.reduceAdd, Int.reduceSub, Int.reduceMul, Int.reduceNeg, Int.reduceEq, Int.reduceToNat, hs, hsI, at?, small_room, a0, a1, a2, a3, a4, a5, hd, hk, ht, hq2])
                · have hv : dreadS s = null := by rw [hv, if_pos (.inr hq)]
                  have hq2 : (dtextS (dateV n0 n1 n2 n3 n4 n5).n == s) = false := by simpa using hq
                  rw [hv]
                  rw [call_117]
                  simp -implicitDefEqProofs only [↓reduceIte, go_sem, Nat.reduceAdd, Nat.reduceSub, Nat.reduceMul, Nat.reduceBEq, Nat.reduceLeDiff, Nat.reduceLT, Nat.reduceEqDiff, reduceCtorEq, Int.reduceBEq, Int.reduceBNe, Int.reduceLT, Int.reduceLE, Int.reduceAdd, Int.reduceSub, Int.reduceMul, Int.reduceNeg, Int.reduceEq, Int.reduceToNat, Tryz.f117, hs, hsI]
                  repeat' ((first | refine split_cond (fun hc => ?_) (fun hc => ?_) | refine split_yes (fun hc => ?_) (fun hc => ?_) | refine split_no (fun hc => ?_) (fun hc => ?_)) <;> simp -implicitDefEqProofs only [hc, ↓reduceIte, go_sem, Nat.reduceAdd, Nat.reduceSub, Nat.reduceMul, Nat.reduceBEq, Nat.reduceLeDiff, Nat.reduceLT, Nat.reduceEqDiff, reduceCtorEq, Int.reduceBEq, Int.reduceBNe, Int.reduceLT, Int.reduceLE, Int.reduceAdd, Int.reduceSub, Int.reduceMul, Int.reduceNeg, Int.reduceEq, Int.reduceToNat, hs, hsI])
                  rw [RL_eq]
                  simp -implicitDefEqProofs only [↓reduceIte, go_sem, Nat.reduceAdd, Nat.reduceSub, Nat.reduceMul, Nat.reduceBEq, Nat.reduceLeDiff, Nat.reduceLT, Nat.reduceEqDiff, reduceCtorEq, Int.reduceBEq, Int.reduceBNe, Int.reduceLT, Int.reduceLE, Int.reduceAdd, Int.reduceSub, Int.reduceMul, Int.reduceNeg, Int.reduceEq, Int.reduceToNat, hs, hsI, at?, small_room, a0, a1, a2, a3, a4, a5]
                  repeat' ((first | refine split_cond (fun hc => ?_) (fun hc => ?_) | refine split_yes (fun hc => ?_) (fun hc => ?_) | refine split_no (fun hc => ?_) (fun hc => ?_)) <;> simp -implicitDefEqProofs only [hc, ↓reduceIte, go_sem, Nat.reduceAdd, Nat.reduceSub, Nat.reduceMul, Nat.reduceBEq, Nat.reduceLeDiff, Nat.reduceLT, Nat.reduceEqDiff, reduceCtorEq, Int.reduceBEq, Int.reduceBNe, Int.reduceLT, Int.reduceLE, Int.reduceAdd, Int.reduceSub, Int.reduceMul, Int.reduceNeg, Int.reduceEq, Int.reduceToNat, hs, hsI, at?, small_room, a0, a1, a2, a3, a4, a5])
                  rw [RL_eq]
                  simp -implicitDefEqProofs only [↓reduceIte, go_sem, Nat.reduceAdd, Nat.reduceSub, Nat.reduceMul, Nat.reduceBEq, Nat.reduceLeDiff, Nat.reduceLT, Nat.reduceEqDiff, reduceCtorEq, Int.reduceBEq, Int.reduceBNe, Int.reduceLT, Int.reduceLE, Int.reduceAdd, Int.reduceSub, Int.reduceMul, Int.reduceNeg, Int.reduceEq, Int.reduceToNat, hs, hsI, at?, small_room, a0, a1, a2, a3, a4, a5]
                  repeat' ((first | refine split_cond (fun hc => ?_) (fun hc => ?_) | refine split_yes (fun hc => ?_) (fun hc => ?_) | refine split_no (fun hc => ?_) (fun hc => ?_)) <;> simp -implicitDefEqProofs only [hc, ↓reduceIte, go_sem, Nat.reduceAdd, Nat.reduceSub, Nat.reduceMul, Nat.reduceBEq, Nat.reduceLeDiff, Nat.reduceLT, Nat.reduceEqDiff, reduceCtorEq, Int.reduceBEq, Int.reduceBNe, Int.reduceLT, Int.reduceLE, Int.reduceAdd, Int.reduceSub, Int.reduceMul, Int.reduceNeg, Int.reduceEq, Int.reduceToNat, hs, hsI, at?, small_room, a0, a1, a2, a3, a4, a5])
                  rw [RL_eq]
                  simp -implicitDefEqProofs only [↓reduceIte, go_sem, Nat.reduceAdd, Nat.reduceSub, Nat.reduceMul, Nat.reduceBEq, Nat.reduceLeDiff, Nat.reduceLT, Nat.reduceEqDiff, reduceCtorEq, Int.reduceBEq, Int.reduceBNe, Int.reduceLT, Int.reduceLE, Int.reduceAdd, Int.reduceSub, Int.reduceMul, Int.reduceNeg, Int.reduceEq, Int.reduceToNat, hs, hsI, at?, small_room, a0, a1, a2, a3, a4, a5]
                  repeat' ((first | refine split_cond (fun hc => ?_) (fun hc => ?_) | refine split_yes (fun hc => ?_) (fun hc => ?_) | refine split_no (fun hc => ?_) (fun hc => ?_)) <;> simp -implicitDefEqProofs only [hc, ↓reduceIte, go_sem, Nat.reduceAdd, Nat.reduceSub, Nat.reduceMul, Nat.reduceBEq, Nat.reduceLeDiff, Nat.reduceLT, Nat.reduceEqDiff, reduceCtorEq, Int.reduceBEq, Int.reduceBNe, Int.reduceLT, Int.reduceLE, Int.reduceAdd, Int.reduceSub, Int.reduceMul, Int.reduceNeg, Int.reduceEq, Int.reduceToNat, hs, hsI, at?, small_room, a0, a1, a2, a3, a4, a5])
                  rw [RL_eq]
                  simp -implicitDefEqProofs only [↓reduceIte, go_sem, Nat.reduceAdd, Nat.reduceSub, Nat.reduceMul, Nat.reduceBEq, Nat.reduceLeDiff, Nat.reduceLT, Nat.reduceEqDiff, reduceCtorEq, Int.reduceBEq, Int.reduceBNe, Int.reduceLT, Int.reduceLE, Int.reduceAdd, Int.reduceSub, Int.reduceMul, Int.reduceNeg, Int.reduceEq, Int.reduceToNat, hs, hsI, at?, small_room, a0, a1, a2, a3, a4, a5]
                  repeat' ((first | refine split_cond (fun hc => ?_) (fun hc => ?_) | refine split_yes (fun hc => ?_) (fun hc => ?_) | refine split_no (fun hc => ?_) (fun hc => ?_)) <;> simp -implicitDefEqProofs only [hc, ↓reduceIte, go_sem, Nat.reduceAdd, Nat.reduceSub, Nat.reduceMul, Nat.reduceBEq, Nat.reduceLeDiff, Nat.reduceLT, Nat.reduceEqDiff, reduceCtorEq, Int.reduceBEq, Int.reduceBNe, Int.reduceLT, Int.reduceLE, Int.reduceAdd, Int.reduceSub, Int.reduceMul, Int.reduceNeg, Int.reduceEq, Int.reduceToNat, hs, hsI, at?, small_room, a0, a1, a2, a3, a4, a5])
                  rw [RL_eq]
                  simp -implicitDefEqProofs only [↓reduceIte, go_sem, Nat.reduceAdd, Nat.reduceSub, Nat.reduceMul, Nat.reduceBEq, Nat.reduceLeDiff, Nat.reduceLT, Nat.reduceEqDiff, reduceCtorEq, Int.reduceBEq, Int.reduceBNe, Int.reduceLT, Int.reduceLE, Int.reduceAdd, Int.reduceSub, Int.reduceMul, Int.reduceNeg, Int.reduceEq, Int.reduceToNat, hs, hsI, at?, small_room, a0, a1, a2, a3, a4, a5]
                  repeat' ((first | refine split_cond (fun hc => ?_) (fun hc => ?_) | refine split_yes (fun hc => ?_) (fun hc => ?_) | refine split_no (fun hc => ?_) (fun hc => ?_)) <;> simp -implicitDefEqProofs only [hc, ↓reduceIte, go_sem, Nat.reduceAdd, Nat.reduceSub, Nat.reduceMul, Nat.reduceBEq, Nat.reduceLeDiff, Nat.reduceLT, Nat.reduceEqDiff, reduceCtorEq, Int.reduceBEq, Int.reduceBNe, Int.reduceLT, Int.reduceLE, Int.reduceAdd, Int.reduceSub, Int.reduceMul, Int.reduceNeg, Int.reduceEq, Int.reduceToNat, hs, hsI, at?, small_room, a0, a1, a2, a3, a4, a5])
                  rw [RL_eq]
                  simp -implicitDefEqProofs only [↓reduceIte, go_sem, Nat.reduceAdd, Nat.reduceSub, Nat.reduceMul, Nat.reduceBEq, Nat.reduceLeDiff, Nat.reduceLT, Nat.reduceEqDiff, reduceCtorEq, Int.reduceBEq, Int.reduceBNe, Int.reduceLT, Int.reduceLE, Int.reduceAdd, Int.reduceSub, Int.reduceMul, Int.reduceNeg, Int.reduceEq, Int.reduceToNat, hs, hsI, at?, small_room, a0, a1, a2, a3, a4, a5]
                  repeat' ((first | refine split_cond (fun hc => ?_) (fun hc => ?_) | refine split_yes (fun hc => ?_) (fun hc => ?_) | refine split_no (fun hc => ?_) (fun hc => ?_)) <;> simp -implicitDefEqProofs only [hc, ↓reduceIte, go_sem, Nat.reduceAdd, Nat.reduceSub, Nat.reduceMul, Nat.reduceBEq, Nat.reduceLeDiff, Nat.reduceLT, Nat.reduceEqDiff, reduceCtorEq, Int.reduceBEq, Int.reduceBNe, Int.reduceLT, Int.reduceLE, Int.reduceAdd, Int.reduceSub, Int.reduceMul, Int.reduceNeg, Int.reduceEq, Int.reduceToNat, hs, hsI, at?, small_room, a0, a1, a2, a3, a4, a5])
                  rw [RL_eq]
                  simp -implicitDefEqProofs only [↓reduceIte, go_sem, Nat.reduceAdd, Nat.reduceSub, Nat.reduceMul, Nat.reduceBEq, Nat.reduceLeDiff, Nat.reduceLT, Nat.reduceEqDiff, reduceCtorEq, Int.reduceBEq, Int.reduceBNe, Int.reduceLT, Int.reduceLE, Int.reduceAdd, Int.reduceSub, Int.reduceMul, Int.reduceNeg, Int.reduceEq, Int.reduceToNat, hs, hsI, at?, small_room, a0, a1, a2, a3, a4, a5, hd, hk, ht, hq2]
                  repeat' ((first | refine split_cond (fun hc => ?_) (fun hc => ?_) | refine split_yes (fun hc => ?_) (fun hc => ?_) | refine split_no (fun hc => ?_) (fun hc => ?_)) <;> simp -implicitDefEqProofs only [hc, ↓reduceIte, go_sem, Nat.reduceAdd, Nat.reduceSub, Nat.reduceMul, Nat.reduceBEq, Nat.reduceLeDiff, Nat.reduceLT, Nat.reduceEqDiff, reduceCtorEq, Int.reduceBEq, Int.reduceBNe, Int.reduceLT, Int.reduceLE, Int.reduceAdd, Int.reduceSub, Int.reduceMul, Int.reduceNeg, Int.reduceEq, Int.reduceToNat, hs, hsI, at?, small_room, a0, a1, a2, a3, a4, a5, hd, hk, ht, hq2])
                  rfl
end Go.Ab
