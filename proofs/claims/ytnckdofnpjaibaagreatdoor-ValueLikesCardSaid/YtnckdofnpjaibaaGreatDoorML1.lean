/- What is proved: contracts of the program's and the reference's functions in the evaluator, and plain laws on them. Conditions: as each states. -/
import Derived.Test.YtnckdofnpjaibaaGreatDoorMC
import Derived.IntWalk
import Derived.KernelRfl
import Derived.Lib.ItoaMem
import Derived.Lib.AtoiAllCases
import Derived.Lib.ItoaLen
import Derived.Lib.CountLaws
set_option linter.unusedSimpArgs false
set_option linter.unusedVariables false
set_option maxRecDepth 100000
namespace Go.Ab
open Go Go.Proofs
structure Val where
  k : Int
  n : Int
  s : List UInt8
  deriving DecidableEq
@[go_sem] def enc (v : Val) : AV := .agg [.int .i64 v.k, .int .i64 v.n, .str v.s]
@[go_sem] theorem Val.eta (v : Val) : Val.mk v.k v.n v.s = v := rfl
def null : Val := ⟨0, 0, []⟩
def loopOf : Code → Nat → Option Code
  | .seq a b, i => match loopOf a i with
    | some c => some c
    | none => loopOf b i
  | .cond _ a b, i => match loopOf a i with
    | some c => some c
    | none => loopOf b i
  | .block j c, i => if j = i then (match c with
    | .loop b => some b
    | _ => none) else loopOf c i
  | .loop c, i => loopOf c i
  | _, _ => none
def Loop (f : Func) (i : Nat) (B : Code) : Prop := loopOf (f.body.getD .skip) i = some B
@[go_sem] theorem wrap_id {n : Int} (h1 : -9223372036854775808 ≤ n) (h2 : n ≤ 9223372036854775807) : wrapI .i64 n = n := by
  exact IntWalk.i64_in _ ⟨h1, h2⟩
theorem at_get {α : Type} {l : List α} {i : Nat} {x : α} (h : l[i]? = some x) : at? l (i : Int) = some x := by
  simp [at?, h]
theorem byte_get {s : List UInt8} {i : Nat} {b : UInt8} (h : s[i]? = some b) : at? s (i : Int) = some b := at_get h
theorem drop_get {α : Type} {l : List α} {i : Nat} {x : α} (h : l[i]? = some x) : l.drop i = x :: l.drop (i + 1) := by
  obtain ⟨h1, h2⟩ := List.getElem?_eq_some_iff.1 h
  rw [List.drop_eq_getElem_cons h1, h2]
abbrev V (k n : Int) (s : List UInt8) : AV := .agg [.int .i64 k, .int .i64 n, .str s]
def rowV (v : Val) : List AV := [.int .i64 v.k, .int .i64 v.n, .str v.s]
def within (n a b : Int) : Bool := decide (a ≤ n) && decide (n ≤ b)
theorem c_within (n a b : Int) : R K (.call 74 [.int .i64 n, .int .i64 a, .int .i64 b] []) = some (.bool (within n a b), []) := by
  rw [call_74]
  simp -implicitDefEqProofs only [↓reduceIte, go_sem, Nat.reduceAdd, Nat.reduceSub, Nat.reduceMul, Nat.reduceBEq, Nat.reduceLeDiff, Nat.reduceLT, Nat.reduceEqDiff, reduceCtorEq, Int.reduceBEq, Int.reduceBNe, Int.reduceLT, Int.reduceLE, Int.reduceAdd, Int.reduceSub, Int.reduceMul, Int.reduceNeg, Int.reduceEq, Int.reduceToNat, Tryz.f74]
  repeat' ((first | refine split_cond (fun hc => ?_) (fun hc => ?_) | refine split_yes (fun hc => ?_) (fun hc => ?_) | refine split_no (fun hc => ?_) (fun hc => ?_)) <;> simp -implicitDefEqProofs only [hc, ↓reduceIte, go_sem, Nat.reduceAdd, Nat.reduceSub, Nat.reduceMul, Nat.reduceBEq, Nat.reduceLeDiff, Nat.reduceLT, Nat.reduceEqDiff, reduceCtorEq, Int.reduceBEq, Int.reduceBNe, Int.reduceLT, Int.reduceLE, Int.reduceAdd, Int.reduceSub, Int.reduceMul, Int.reduceNeg, Int.reduceEq, Int.reduceToNat])
  all_goals simp [within, *]
theorem r_within (n a b : Int) : R K (.call 75 [.int .i64 n, .int .i64 a, .int .i64 b] []) = some (.bool (within n a b), []) := by
  rw [call_75]
  simp -implicitDefEqProofs only [↓reduceIte, go_sem, Nat.reduceAdd, Nat.reduceSub, Nat.reduceMul, Nat.reduceBEq, Nat.reduceLeDiff, Nat.reduceLT, Nat.reduceEqDiff, reduceCtorEq, Int.reduceBEq, Int.reduceBNe, Int.reduceLT, Int.reduceLE, Int.reduceAdd, Int.reduceSub, Int.reduceMul, Int.reduceNeg, Int.reduceEq, Int.reduceToNat, Tryz.f75]
  repeat' ((first | refine split_cond (fun hc => ?_) (fun hc => ?_) | refine split_yes (fun hc => ?_) (fun hc => ?_) | refine split_no (fun hc => ?_) (fun hc => ?_)) <;> simp -implicitDefEqProofs only [hc, ↓reduceIte, go_sem, Nat.reduceAdd, Nat.reduceSub, Nat.reduceMul, Nat.reduceBEq, Nat.reduceLeDiff, Nat.reduceLT, Nat.reduceEqDiff, reduceCtorEq, Int.reduceBEq, Int.reduceBNe, Int.reduceLT, Int.reduceLE, Int.reduceAdd, Int.reduceSub, Int.reduceMul, Int.reduceNeg, Int.reduceEq, Int.reduceToNat])
  all_goals simp [within, *]
def formS (v : Val) : Bool := if v.k = 0 then v.n == 0 && v.s == [] else if v.k = 3 then v.n == 0 else within v.k 1 4 && v.s == []
theorem c_form (k n : Int) (s : List UInt8) : R K (.call 119 [V k n s] []) = some (.bool (formS ⟨k, n, s⟩), []) := by
  rw [call_119]
  simp -implicitDefEqProofs only [↓reduceIte, go_sem, Nat.reduceAdd, Nat.reduceSub, Nat.reduceMul, Nat.reduceBEq, Nat.reduceLeDiff, Nat.reduceLT, Nat.reduceEqDiff, reduceCtorEq, Int.reduceBEq, Int.reduceBNe, Int.reduceLT, Int.reduceLE, Int.reduceAdd, Int.reduceSub, Int.reduceMul, Int.reduceNeg, Int.reduceEq, Int.reduceToNat, Tryz.f119, c_within]
  repeat' ((first | refine split_cond (fun hc => ?_) (fun hc => ?_) | refine split_yes (fun hc => ?_) (fun hc => ?_) | refine split_no (fun hc => ?_) (fun hc => ?_)) <;> simp -implicitDefEqProofs only [hc, ↓reduceIte, go_sem, Nat.reduceAdd, Nat.reduceSub, Nat.reduceMul, Nat.reduceBEq, Nat.reduceLeDiff, Nat.reduceLT, Nat.reduceEqDiff, reduceCtorEq, Int.reduceBEq, Int.reduceBNe, Int.reduceLT, Int.reduceLE, Int.reduceAdd, Int.reduceSub, Int.reduceMul, Int.reduceNeg, Int.reduceEq, Int.reduceToNat, c_within])
  all_goals simp_all [formS]
def ok7 (s : List UInt8) : Bool := s.all fun c => decide (32 ≤ c.toNat) && decide (c.toNat ≤ 126)
theorem ok7_cons (b : UInt8) (s : List UInt8) : ok7 (b :: s) = (decide (32 ≤ b.toNat) && decide (b.toNat ≤ 126) && ok7 s) := by simp [ok7]
theorem l_range (k n : Int) (s : List UInt8) (hs : s.length ≤ 100) (ks : List It) : ∀ (m i : Nat) (j : Int) (B : Code), Loop Tryz.f120 1 B → j = (i : Int) → s.length = i + m →
   RL K (.run 120 0 (.code B :: .lp B (some ([1, 23, 24], [])) 1 :: .blk 1 1 :: ks) [(1, .ptr 0 0), (23, .int .i64 s.length), (24, .int .i64 j)] [.cells [.int .i64 k, .int .i64 n, .str s]]) =
   if ok7 (s.drop i) = true then R K (.run 120 0 ks [] [.cells [.int .i64 k, .int .i64 n, .str s]]) else some (.bool false, [])
  | 0, i, j, B, hB, hj, hm => by
    subst hj
    have h1 : ¬ ((i : Int) < (s.length : Int)) := by omega
    unfold Loop at hB
    simp -implicitDefEqProofs only [↓reduceIte, go_sem, Nat.reduceAdd, Nat.reduceSub, Nat.reduceMul, Nat.reduceBEq, Nat.reduceLeDiff, Nat.reduceLT, Nat.reduceEqDiff, reduceCtorEq, Int.reduceBEq, Int.reduceBNe, Int.reduceLT, Int.reduceLE, Int.reduceAdd, Int.reduceSub, Int.reduceMul, Int.reduceNeg, Int.reduceEq, Int.reduceToNat, Tryz.f120, loopOf] at hB
    subst hB
    rw [RL_eq]
    simp -implicitDefEqProofs only [↓reduceIte, go_sem, Nat.reduceAdd, Nat.reduceSub, Nat.reduceMul, Nat.reduceBEq, Nat.reduceLeDiff, Nat.reduceLT, Nat.reduceEqDiff, reduceCtorEq, Int.reduceBEq, Int.reduceBNe, Int.reduceLT, Int.reduceLE, Int.reduceAdd, Int.reduceSub, Int.reduceMul, Int.reduceNeg, Int.reduceEq, Int.reduceToNat, h1]
    repeat' ((first | refine split_cond (fun hc => ?_) (fun hc => ?_) | refine split_yes (fun hc => ?_) (fun hc => ?_) | refine split_no (fun hc => ?_) (fun hc => ?_)) <;> simp -implicitDefEqProofs only [hc, ↓reduceIte, go_sem, Nat.reduceAdd, Nat.reduceSub, Nat.reduceMul, Nat.reduceBEq, Nat.reduceLeDiff, Nat.reduceLT, Nat.reduceEqDiff, reduceCtorEq, Int.reduceBEq, Int.reduceBNe, Int.reduceLT, Int.reduceLE, Int.reduceAdd, Int.reduceSub, Int.reduceMul, Int.reduceNeg, Int.reduceEq, Int.reduceToNat, h1])
    rw [List.drop_of_length_le (by omega)]
    rfl
  | m + 1, i, j, B, hB, hj, hm => by
    subst hj
    have h1 : ((i : Int) < (s.length : Int)) := by omega
    have hB' := hB
    obtain ⟨b, hb⟩ : ∃ b, s[i]? = some b := ⟨s[i]'(by omega), List.getElem?_eq_getElem _⟩
    have hg := byte_get hb
    have hw : wrapI .i64 ((i : Int) + 1) = ((i + 1 : Nat) : Int) := by rw [wrap_id (by omega) (by omega)]; rfl
    unfold Loop at hB
    simp -implicitDefEqProofs only [↓reduceIte, go_sem, Nat.reduceAdd, Nat.reduceSub, Nat.reduceMul, Nat.reduceBEq, Nat.reduceLeDiff, Nat.reduceLT, Nat.reduceEqDiff, reduceCtorEq, Int.reduceBEq, Int.reduceBNe, Int.reduceLT, Int.reduceLE, Int.reduceAdd, Int.reduceSub, Int.reduceMul, Int.reduceNeg, Int.reduceEq, Int.reduceToNat, Tryz.f120, loopOf] at hB
    subst hB
    rw [RL_eq]
    rw [drop_get hb]
    have ih := l_range k n s hs ks m (i + 1) _ _ hB' rfl (by omega)
    simp -implicitDefEqProofs only [↓reduceIte, go_sem, Nat.reduceAdd, Nat.reduceSub, Nat.reduceMul, Nat.reduceBEq, Nat.reduceLeDiff, Nat.reduceLT, Nat.reduceEqDiff, reduceCtorEq, Int.reduceBEq, Int.reduceBNe, Int.reduceLT, Int.reduceLE, Int.reduceAdd, Int.reduceSub, Int.reduceMul, Int.reduceNeg, Int.reduceEq, Int.reduceToNat, h1, hg, hw]
    repeat' ((first | refine split_cond (fun hc => ?_) (fun hc => ?_) | refine split_yes (fun hc => ?_) (fun hc => ?_) | refine split_no (fun hc => ?_) (fun hc => ?_)) <;> simp -implicitDefEqProofs only [hc, ↓reduceIte, go_sem, Nat.reduceAdd, Nat.reduceSub, Nat.reduceMul, Nat.reduceBEq, Nat.reduceLeDiff, Nat.reduceLT, Nat.reduceEqDiff, reduceCtorEq, Int.reduceBEq, Int.reduceBNe, Int.reduceLT, Int.reduceLE, Int.reduceAdd, Int.reduceSub, Int.reduceMul, Int.reduceNeg, Int.reduceEq, Int.reduceToNat, h1, hg, hw])
    all_goals simp only [decide_eq_true_eq, decide_eq_false_iff_not] at *
    · have : ok7 (b :: s.drop (i + 1)) = false := by simp [ok7_cons]; omega
      simp [this]
    · have : ok7 (b :: s.drop (i + 1)) = false := by simp [ok7_cons]; omega
      simp [this]
    · have : ok7 (b :: s.drop (i + 1)) = ok7 (s.drop (i + 1)) := by
        have : 32 ≤ b.toNat ∧ b.toNat ≤ 126 := by omega
        simp [ok7_cons, this]
      rw [this, ih]
def rangeS (v : Val) : Bool := if v.k = 1 then within v.n 0 1 else if v.k = 2 then within v.n (-999999999999999) 999999999999999 else if v.k = 4 then within v.n 0 253402300799 else ok7 v.s
theorem c_range (k n : Int) (s : List UInt8) (hs : s.length ≤ 100) : R K (.call 120 [V k n s] []) = some (.bool (rangeS ⟨k, n, s⟩), []) := by
  rw [call_120]
  simp -implicitDefEqProofs only [↓reduceIte, go_sem, Nat.reduceAdd, Nat.reduceSub, Nat.reduceMul, Nat.reduceBEq, Nat.reduceLeDiff, Nat.reduceLT, Nat.reduceEqDiff, reduceCtorEq, Int.reduceBEq, Int.reduceBNe, Int.reduceLT, Int.reduceLE, Int.reduceAdd, Int.reduceSub, Int.reduceMul, Int.reduceNeg, Int.reduceEq, Int.reduceToNat, Tryz.f120, c_within]
  repeat' ((first | refine split_cond (fun hc => ?_) (fun hc => ?_) | refine split_yes (fun hc => ?_) (fun hc => ?_) | refine split_no (fun hc => ?_) (fun hc => ?_)) <;> simp -implicitDefEqProofs only [hc, ↓reduceIte, go_sem, Nat.reduceAdd, Nat.reduceSub, Nat.reduceMul, Nat.reduceBEq, Nat.reduceLeDiff, Nat.reduceLT, Nat.reduceEqDiff, reduceCtorEq, Int.reduceBEq, Int.reduceBNe, Int.reduceLT, Int.reduceLE, Int.reduceAdd, Int.reduceSub, Int.reduceMul, Int.reduceNeg, Int.reduceEq, Int.reduceToNat, c_within])
  · simp_all [rangeS]
  · simp_all [rangeS]
  · simp_all [rangeS]
  · rw [l_range k n s hs _ s.length 0 0 _ ?_ rfl (by omega), List.drop_zero]
    · split
      · simp -implicitDefEqProofs only [↓reduceIte, go_sem, Nat.reduceAdd, Nat.reduceSub, Nat.reduceMul, Nat.reduceBEq, Nat.reduceLeDiff, Nat.reduceLT, Nat.reduceEqDiff, reduceCtorEq, Int.reduceBEq, Int.reduceBNe, Int.reduceLT, Int.reduceLE, Int.reduceAdd, Int.reduceSub, Int.reduceMul, Int.reduceNeg, Int.reduceEq, Int.reduceToNat]
        repeat' ((first | refine split_cond (fun hc => ?_) (fun hc => ?_) | refine split_yes (fun hc => ?_) (fun hc => ?_) | refine split_no (fun hc => ?_) (fun hc => ?_)) <;> simp -implicitDefEqProofs only [hc, ↓reduceIte, go_sem, Nat.reduceAdd, Nat.reduceSub, Nat.reduceMul, Nat.reduceBEq, Nat.reduceLeDiff, Nat.reduceLT, Nat.reduceEqDiff, reduceCtorEq, Int.reduceBEq, Int.reduceBNe, Int.reduceLT, Int.reduceLE, Int.reduceAdd, Int.reduceSub, Int.reduceMul, Int.reduceNeg, Int.reduceEq, Int.reduceToNat])
        simp_all [rangeS]
      · simp_all [rangeS]
    · rfl
def rightS (v : Val) : Bool := formS v && (decide (v.s.length ≤ 100) && rangeS v)
theorem c_right (k n : Int) (s : List UInt8) : R K (.call 55 [V k n s] []) = some (.bool (rightS ⟨k, n, s⟩), []) := by
  by_cases hs : s.length ≤ 100
  · have hs' : (s.length : Int) ≤ 100 := by omega
    rw [call_55]
    simp -implicitDefEqProofs only [↓reduceIte, go_sem, Nat.reduceAdd, Nat.reduceSub, Nat.reduceMul, Nat.reduceBEq, Nat.reduceLeDiff, Nat.reduceLT, Nat.reduceEqDiff, reduceCtorEq, Int.reduceBEq, Int.reduceBNe, Int.reduceLT, Int.reduceLE, Int.reduceAdd, Int.reduceSub, Int.reduceMul, Int.reduceNeg, Int.reduceEq, Int.reduceToNat, Tryz.f55, c_form, c_range k n s hs, hs']
    repeat' ((first | refine split_cond (fun hc => ?_) (fun hc => ?_) | refine split_yes (fun hc => ?_) (fun hc => ?_) | refine split_no (fun hc => ?_) (fun hc => ?_)) <;> simp -implicitDefEqProofs only [hc, ↓reduceIte, go_sem, Nat.reduceAdd, Nat.reduceSub, Nat.reduceMul, Nat.reduceBEq, Nat.reduceLeDiff, Nat.reduceLT, Nat.reduceEqDiff, reduceCtorEq, Int.reduceBEq, Int.reduceBNe, Int.reduceLT, Int.reduceLE, Int.reduceAdd, Int.reduceSub, Int.reduceMul, Int.reduceNeg, Int.reduceEq, Int.reduceToNat, c_form, c_range k n s hs, hs'])
    all_goals simp_all [rightS] <;> omega
  · have hs' : ¬ (s.length : Int) ≤ 100 := by omega
    rw [call_55]
    simp -implicitDefEqProofs only [↓reduceIte, go_sem, Nat.reduceAdd, Nat.reduceSub, Nat.reduceMul, Nat.reduceBEq, Nat.reduceLeDiff, Nat.reduceLT, Nat.reduceEqDiff, reduceCtorEq, Int.reduceBEq, Int.reduceBNe, Int.reduceLT, Int.reduceLE, Int.reduceAdd, Int.reduceSub, Int.reduceMul, Int.reduceNeg, Int.reduceEq, Int.reduceToNat, Tryz.f55, c_form, hs']
    repeat' ((first | refine split_cond (fun hc => ?_) (fun hc => ?_) | refine split_yes (fun hc => ?_) (fun hc => ?_) | refine split_no (fun hc => ?_) (fun hc => ?_)) <;> simp -implicitDefEqProofs only [hc, ↓reduceIte, go_sem, Nat.reduceAdd, Nat.reduceSub, Nat.reduceMul, Nat.reduceBEq, Nat.reduceLeDiff, Nat.reduceLT, Nat.reduceEqDiff, reduceCtorEq, Int.reduceBEq, Int.reduceBNe, Int.reduceLT, Int.reduceLE, Int.reduceAdd, Int.reduceSub, Int.reduceMul, Int.reduceNeg, Int.reduceEq, Int.reduceToNat, c_form, hs'])
    all_goals simp_all [rightS] <;> omega
def plainV (v : Val) : Val := if rightS v = true then v else null
theorem c_plain (k n : Int) (s : List UInt8) : R K (.call 57 [V k n s] []) = some (enc (plainV ⟨k, n, s⟩), []) := by
  rw [call_57]
  simp -implicitDefEqProofs only [↓reduceIte, go_sem, Nat.reduceAdd, Nat.reduceSub, Nat.reduceMul, Nat.reduceBEq, Nat.reduceLeDiff, Nat.reduceLT, Nat.reduceEqDiff, reduceCtorEq, Int.reduceBEq, Int.reduceBNe, Int.reduceLT, Int.reduceLE, Int.reduceAdd, Int.reduceSub, Int.reduceMul, Int.reduceNeg, Int.reduceEq, Int.reduceToNat, Tryz.f57, c_right]
  repeat' ((first | refine split_cond (fun hc => ?_) (fun hc => ?_) | refine split_yes (fun hc => ?_) (fun hc => ?_) | refine split_no (fun hc => ?_) (fun hc => ?_)) <;> simp -implicitDefEqProofs only [hc, ↓reduceIte, go_sem, Nat.reduceAdd, Nat.reduceSub, Nat.reduceMul, Nat.reduceBEq, Nat.reduceLeDiff, Nat.reduceLT, Nat.reduceEqDiff, reduceCtorEq, Int.reduceBEq, Int.reduceBNe, Int.reduceLT, Int.reduceLE, Int.reduceAdd, Int.reduceSub, Int.reduceMul, Int.reduceNeg, Int.reduceEq, Int.reduceToNat, c_right])
  all_goals simp_all [plainV, null]
def boolV (b : Bool) : Val := ⟨1, if b = true then 1 else 0, []⟩
theorem c_boolean (b : Bool) : R K (.call 68 [.bool b] []) = some (enc (boolV b), []) := by
  rw [call_68]
  simp -implicitDefEqProofs only [↓reduceIte, go_sem, Nat.reduceAdd, Nat.reduceSub, Nat.reduceMul, Nat.reduceBEq, Nat.reduceLeDiff, Nat.reduceLT, Nat.reduceEqDiff, reduceCtorEq, Int.reduceBEq, Int.reduceBNe, Int.reduceLT, Int.reduceLE, Int.reduceAdd, Int.reduceSub, Int.reduceMul, Int.reduceNeg, Int.reduceEq, Int.reduceToNat, Tryz.f68]
  repeat' ((first | refine split_cond (fun hc => ?_) (fun hc => ?_) | refine split_yes (fun hc => ?_) (fun hc => ?_) | refine split_no (fun hc => ?_) (fun hc => ?_)) <;> simp -implicitDefEqProofs only [hc, ↓reduceIte, go_sem, Nat.reduceAdd, Nat.reduceSub, Nat.reduceMul, Nat.reduceBEq, Nat.reduceLeDiff, Nat.reduceLT, Nat.reduceEqDiff, reduceCtorEq, Int.reduceBEq, Int.reduceBNe, Int.reduceLT, Int.reduceLE, Int.reduceAdd, Int.reduceSub, Int.reduceMul, Int.reduceNeg, Int.reduceEq, Int.reduceToNat])
  all_goals simp_all [boolV]
theorem r_Truth (b : Bool) : R K (.call 71 [.bool b] []) = some (enc (boolV b), []) := by
  rw [call_71]
  simp -implicitDefEqProofs only [↓reduceIte, go_sem, Nat.reduceAdd, Nat.reduceSub, Nat.reduceMul, Nat.reduceBEq, Nat.reduceLeDiff, Nat.reduceLT, Nat.reduceEqDiff, reduceCtorEq, Int.reduceBEq, Int.reduceBNe, Int.reduceLT, Int.reduceLE, Int.reduceAdd, Int.reduceSub, Int.reduceMul, Int.reduceNeg, Int.reduceEq, Int.reduceToNat, Tryz.f71]
  repeat' ((first | refine split_cond (fun hc => ?_) (fun hc => ?_) | refine split_yes (fun hc => ?_) (fun hc => ?_) | refine split_no (fun hc => ?_) (fun hc => ?_)) <;> simp -implicitDefEqProofs only [hc, ↓reduceIte, go_sem, Nat.reduceAdd, Nat.reduceSub, Nat.reduceMul, Nat.reduceBEq, Nat.reduceLeDiff, Nat.reduceLT, Nat.reduceEqDiff, reduceCtorEq, Int.reduceBEq, Int.reduceBNe, Int.reduceLT, Int.reduceLE, Int.reduceAdd, Int.reduceSub, Int.reduceMul, Int.reduceNeg, Int.reduceEq, Int.reduceToNat])
  all_goals simp_all [boolV]
def isS (v : Val) (b : Bool) : Bool := decide (v = boolV b)
def notS (a : Val) : Val := if isS a true || isS a false then boolV (isS a false) else null
def andS (a b : Val) : Val := if isS a false || isS b false then boolV false else if isS a true && isS b true then boolV true else null
theorem row_get {l : List Val} {i : Nat} {v : Val} (h : l[i]? = some v) : at? (l.map rowV) (i : Int) = some (rowV v) := at_get (by simp [h])
theorem next_id {i n : Nat} (h : i < n) (hn : n ≤ 9223372036854775807) : wrapI .i64 ((i : Int) + 1) = ((i + 1 : Nat) : Int) := by rw [wrap_id (by omega) (by omega)]; rfl
theorem some_at {α : Type} {l : List α} {i : Nat} (h : i < l.length) : ∃ x, l[i]? = some x := ⟨l[i], List.getElem?_eq_getElem h⟩
def allK (k : Int) (l : List Val) : Bool := l.all fun v => (plainV v).k == k
theorem l_texts (l : List Val) (hl : l.length ≤ 9223372036854775807) (ks : List It) : ∀ (m i : Nat) (j : Int) (B : Code), Loop Tryz.f89 0 B → j = (i : Int) → l.length = i + m →
   RL K (.run 89 0 (.code B :: .lp B (some ([5, 6, 7], [])) 0 :: .blk 0 0 :: ks) [(5, .rows (l.map rowV)), (6, .int .i64 l.length), (7, .int .i64 j)] []) =
   if allK 3 (l.drop i) = true then R K (.run 89 0 ks [] []) else some (.bool false, [])
  | 0, i, j, B, hB, hj, hm => by
    subst hj
    have h1 : ¬ ((i : Int) < (l.length : Int)) := by omega
    unfold Loop at hB
    simp -implicitDefEqProofs only [↓reduceIte, go_sem, Nat.reduceAdd, Nat.reduceSub, Nat.reduceMul, Nat.reduceBEq, Nat.reduceLeDiff, Nat.reduceLT, Nat.reduceEqDiff, reduceCtorEq, Int.reduceBEq, Int.reduceBNe, Int.reduceLT, Int.reduceLE, Int.reduceAdd, Int.reduceSub, Int.reduceMul, Int.reduceNeg, Int.reduceEq, Int.reduceToNat, Tryz.f89, loopOf] at hB
    subst hB
    rw [RL_eq]
    simp -implicitDefEqProofs only [↓reduceIte, go_sem, Nat.reduceAdd, Nat.reduceSub, Nat.reduceMul, Nat.reduceBEq, Nat.reduceLeDiff, Nat.reduceLT, Nat.reduceEqDiff, reduceCtorEq, Int.reduceBEq, Int.reduceBNe, Int.reduceLT, Int.reduceLE, Int.reduceAdd, Int.reduceSub, Int.reduceMul, Int.reduceNeg, Int.reduceEq, Int.reduceToNat, h1]
    repeat' ((first | refine split_cond (fun hc => ?_) (fun hc => ?_) | refine split_yes (fun hc => ?_) (fun hc => ?_) | refine split_no (fun hc => ?_) (fun hc => ?_)) <;> simp -implicitDefEqProofs only [hc, ↓reduceIte, go_sem, Nat.reduceAdd, Nat.reduceSub, Nat.reduceMul, Nat.reduceBEq, Nat.reduceLeDiff, Nat.reduceLT, Nat.reduceEqDiff, reduceCtorEq, Int.reduceBEq, Int.reduceBNe, Int.reduceLT, Int.reduceLE, Int.reduceAdd, Int.reduceSub, Int.reduceMul, Int.reduceNeg, Int.reduceEq, Int.reduceToNat, h1])
    rw [List.drop_of_length_le (by omega)]
    rfl
  | m + 1, i, j, B, hB, hj, hm => by
    subst hj
    have h1 : ((i : Int) < (l.length : Int)) := by omega
    have hB' := hB
    obtain ⟨v, hv⟩ := some_at (l := l) (i := i) (by omega)
    have hg := row_get hv
    have hw := next_id (i := i) (n := l.length) (by omega) hl
    unfold Loop at hB
    simp -implicitDefEqProofs only [↓reduceIte, go_sem, Nat.reduceAdd, Nat.reduceSub, Nat.reduceMul, Nat.reduceBEq, Nat.reduceLeDiff, Nat.reduceLT, Nat.reduceEqDiff, reduceCtorEq, Int.reduceBEq, Int.reduceBNe, Int.reduceLT, Int.reduceLE, Int.reduceAdd, Int.reduceSub, Int.reduceMul, Int.reduceNeg, Int.reduceEq, Int.reduceToNat, Tryz.f89, loopOf] at hB
    subst hB
    rw [RL_eq]
    rw [drop_get hv]
    have ih := l_texts l hl ks m (i + 1) _ _ hB' rfl (by omega)
    simp -implicitDefEqProofs only [↓reduceIte, go_sem, Nat.reduceAdd, Nat.reduceSub, Nat.reduceMul, Nat.reduceBEq, Nat.reduceLeDiff, Nat.reduceLT, Nat.reduceEqDiff, reduceCtorEq, Int.reduceBEq, Int.reduceBNe, Int.reduceLT, Int.reduceLE, Int.reduceAdd, Int.reduceSub, Int.reduceMul, Int.reduceNeg, Int.reduceEq, Int.reduceToNat, h1, hg, hw, rowV, c_plain]
    repeat' ((first | refine split_cond (fun hc => ?_) (fun hc => ?_) | refine split_yes (fun hc => ?_) (fun hc => ?_) | refine split_no (fun hc => ?_) (fun hc => ?_)) <;> simp -implicitDefEqProofs only [hc, ↓reduceIte, go_sem, Nat.reduceAdd, Nat.reduceSub, Nat.reduceMul, Nat.reduceBEq, Nat.reduceLeDiff, Nat.reduceLT, Nat.reduceEqDiff, reduceCtorEq, Int.reduceBEq, Int.reduceBNe, Int.reduceLT, Int.reduceLE, Int.reduceAdd, Int.reduceSub, Int.reduceMul, Int.reduceNeg, Int.reduceEq, Int.reduceToNat, h1, hg, hw, rowV, c_plain])
    · simp_all [allK]
    · rw [ih]
      simp_all [allK]
theorem c_texts (l : List Val) (hl : l.length ≤ 9223372036854775807) : R K (.call 89 [.rows (l.map rowV)] []) = some (.bool (allK 3 l), []) := by
  rw [call_89]
  simp -implicitDefEqProofs only [↓reduceIte, go_sem, Nat.reduceAdd, Nat.reduceSub, Nat.reduceMul, Nat.reduceBEq, Nat.reduceLeDiff, Nat.reduceLT, Nat.reduceEqDiff, reduceCtorEq, Int.reduceBEq, Int.reduceBNe, Int.reduceLT, Int.reduceLE, Int.reduceAdd, Int.reduceSub, Int.reduceMul, Int.reduceNeg, Int.reduceEq, Int.reduceToNat, Tryz.f89]
  repeat' ((first | refine split_cond (fun hc => ?_) (fun hc => ?_) | refine split_yes (fun hc => ?_) (fun hc => ?_) | refine split_no (fun hc => ?_) (fun hc => ?_)) <;> simp -implicitDefEqProofs only [hc, ↓reduceIte, go_sem, Nat.reduceAdd, Nat.reduceSub, Nat.reduceMul, Nat.reduceBEq, Nat.reduceLeDiff, Nat.reduceLT, Nat.reduceEqDiff, reduceCtorEq, Int.reduceBEq, Int.reduceBNe, Int.reduceLT, Int.reduceLE, Int.reduceAdd, Int.reduceSub, Int.reduceMul, Int.reduceNeg, Int.reduceEq, Int.reduceToNat])
  rw [l_texts l hl _ l.length 0 0 _ ?_ rfl (by omega), List.drop_zero]
  · split
    · simp -implicitDefEqProofs only [↓reduceIte, go_sem, Nat.reduceAdd, Nat.reduceSub, Nat.reduceMul, Nat.reduceBEq, Nat.reduceLeDiff, Nat.reduceLT, Nat.reduceEqDiff, reduceCtorEq, Int.reduceBEq, Int.reduceBNe, Int.reduceLT, Int.reduceLE, Int.reduceAdd, Int.reduceSub, Int.reduceMul, Int.reduceNeg, Int.reduceEq, Int.reduceToNat]
      repeat' ((first | refine split_cond (fun hc => ?_) (fun hc => ?_) | refine split_yes (fun hc => ?_) (fun hc => ?_) | refine split_no (fun hc => ?_) (fun hc => ?_)) <;> simp -implicitDefEqProofs only [hc, ↓reduceIte, go_sem, Nat.reduceAdd, Nat.reduceSub, Nat.reduceMul, Nat.reduceBEq, Nat.reduceLeDiff, Nat.reduceLT, Nat.reduceEqDiff, reduceCtorEq, Int.reduceBEq, Int.reduceBNe, Int.reduceLT, Int.reduceLE, Int.reduceAdd, Int.reduceSub, Int.reduceMul, Int.reduceNeg, Int.reduceEq, Int.reduceToNat])
      simp_all
    · simp_all
  · rfl
def isK (k : Int) (v : Val) : Bool := (plainV v).k == k
theorem c_texts2 (k n : Int) (s : List UInt8) (k' n' : Int) (s' : List UInt8) : R K (.call 89 [.rows [[.int .i64 k, .int .i64 n, .str s], [.int .i64 k', .int .i64 n', .str s']]] []) = some (.bool (isK 3 ⟨k, n, s⟩ && isK 3 ⟨k', n', s'⟩), []) := by
  have := c_texts [⟨k, n, s⟩, ⟨k', n', s'⟩] (by simp)
  simpa [allK, rowV, isK] using this
def cmpI (a b : Int) : Int := if a < b then -1 else if b < a then 1 else 0
theorem plain_len (v : Val) (h : (plainV v).k = 3) : (plainV v) = v ∧ v.s.length ≤ 100 ∧ ok7 v.s = true := by
  unfold plainV at h ⊢
  split at h
  · rename_i hr
    have hk : v.k = 3 := by simpa [hr] using h
    simp only [rightS, Bool.and_eq_true, decide_eq_true_eq] at hr
    obtain ⟨h1, h2, h3⟩ := hr
    refine ⟨by simp [rightS, h1, h2, h3], h2, ?_⟩
    simpa [rangeS, hk] using h3
  · simp [null] at h
theorem byteRows_get : ∀ (s : List UInt8) (i : Nat) (b : UInt8), s[i]? = some b → (byteRows s)[i]? = some [.int .u8 (b.toNat : Int)]
  | [], i, b, h => by simp at h
  | c :: r, 0, b, h => by simp at h; subst h; rfl
  | c :: r, i + 1, b, h => by simpa [byteRows] using byteRows_get r i b (by simpa using h)
theorem l_rplain (s : List UInt8) (hs : s.length ≤ 100) (ks : List It) : ∀ (m i : Nat) (j : Int) (B : Code), Loop Tryz.f259 0 B → j = (i : Int) → s.length = i + m →
   RL K (.run 259 0 (.code B :: .lp B (some ([6, 7, 8], [])) 0 :: .blk 0 0 :: ks) [(6, .rows (byteRows s)), (7, .int .i64 s.length), (8, .int .i64 j)] []) =
   if ok7 (s.drop i) = true then R K (.run 259 0 ks [] []) else some (.bool false, [])
  | 0, i, j, B, hB, hj, hm => by
    subst hj
    have h1 : ¬ ((i : Int) < (s.length : Int)) := by omega
    unfold Loop at hB
    simp -implicitDefEqProofs only [↓reduceIte, go_sem, Nat.reduceAdd, Nat.reduceSub, Nat.reduceMul, Nat.reduceBEq, Nat.reduceLeDiff, Nat.reduceLT, Nat.reduceEqDiff, reduceCtorEq, Int.reduceBEq, Int.reduceBNe, Int.reduceLT, Int.reduceLE, Int.reduceAdd, Int.reduceSub, Int.reduceMul, Int.reduceNeg, Int.reduceEq, Int.reduceToNat, Tryz.f259, loopOf] at hB
    subst hB
    rw [RL_eq]
    simp -implicitDefEqProofs only [↓reduceIte, go_sem, Nat.reduceAdd, Nat.reduceSub, Nat.reduceMul, Nat.reduceBEq, Nat.reduceLeDiff, Nat.reduceLT, Nat.reduceEqDiff, reduceCtorEq, Int.reduceBEq, Int.reduceBNe, Int.reduceLT, Int.reduceLE, Int.reduceAdd, Int.reduceSub, Int.reduceMul, Int.reduceNeg, Int.reduceEq, Int.reduceToNat, h1]
    repeat' ((first | refine split_cond (fun hc => ?_) (fun hc => ?_) | refine split_yes (fun hc => ?_) (fun hc => ?_) | refine split_no (fun hc => ?_) (fun hc => ?_)) <;> simp -implicitDefEqProofs only [hc, ↓reduceIte, go_sem, Nat.reduceAdd, Nat.reduceSub, Nat.reduceMul, Nat.reduceBEq, Nat.reduceLeDiff, Nat.reduceLT, Nat.reduceEqDiff, reduceCtorEq, Int.reduceBEq, Int.reduceBNe, Int.reduceLT, Int.reduceLE, Int.reduceAdd, Int.reduceSub, Int.reduceMul, Int.reduceNeg, Int.reduceEq, Int.reduceToNat, h1])
    rw [List.drop_of_length_le (by omega)]
    rfl
  | m + 1, i, j, B, hB, hj, hm => by
    subst hj
    have h1 : ((i : Int) < (s.length : Int)) := by omega
    have hB' := hB
    obtain ⟨b, hb⟩ := some_at (l := s) (i := i) (by omega)
    have hg := at_get (byteRows_get s i b hb)
    have hw := next_id (i := i) (n := s.length) (by omega) (by omega)
    unfold Loop at hB
    simp -implicitDefEqProofs only [↓reduceIte, go_sem, Nat.reduceAdd, Nat.reduceSub, Nat.reduceMul, Nat.reduceBEq, Nat.reduceLeDiff, Nat.reduceLT, Nat.reduceEqDiff, reduceCtorEq, Int.reduceBEq, Int.reduceBNe, Int.reduceLT, Int.reduceLE, Int.reduceAdd, Int.reduceSub, Int.reduceMul, Int.reduceNeg, Int.reduceEq, Int.reduceToNat, Tryz.f259, loopOf] at hB
    subst hB
    rw [RL_eq]
    rw [drop_get hb]
    have ih := l_rplain s hs ks m (i + 1) _ _ hB' rfl (by omega)
    simp -implicitDefEqProofs only [↓reduceIte, go_sem, Nat.reduceAdd, Nat.reduceSub, Nat.reduceMul, Nat.reduceBEq, Nat.reduceLeDiff, Nat.reduceLT, Nat.reduceEqDiff, reduceCtorEq, Int.reduceBEq, Int.reduceBNe, Int.reduceLT, Int.reduceLE, Int.reduceAdd, Int.reduceSub, Int.reduceMul, Int.reduceNeg, Int.reduceEq, Int.reduceToNat, h1, hg, hw]
    repeat' ((first | refine split_cond (fun hc => ?_) (fun hc => ?_) | refine split_yes (fun hc => ?_) (fun hc => ?_) | refine split_no (fun hc => ?_) (fun hc => ?_)) <;> simp -implicitDefEqProofs only [hc, ↓reduceIte, go_sem, Nat.reduceAdd, Nat.reduceSub, Nat.reduceMul, Nat.reduceBEq, Nat.reduceLeDiff, Nat.reduceLT, Nat.reduceEqDiff, reduceCtorEq, Int.reduceBEq, Int.reduceBNe, Int.reduceLT, Int.reduceLE, Int.reduceAdd, Int.reduceSub, Int.reduceMul, Int.reduceNeg, Int.reduceEq, Int.reduceToNat, h1, hg, hw])
    all_goals simp only [decide_eq_true_eq, decide_eq_false_iff_not] at *
    · have : ok7 (b :: s.drop (i + 1)) = false := by simp [ok7_cons]; omega
      simp [this]
    · have : ok7 (b :: s.drop (i + 1)) = false := by simp [ok7_cons]; omega
      simp [this]
    · have : ok7 (b :: s.drop (i + 1)) = ok7 (s.drop (i + 1)) := by
        have : 32 ≤ b.toNat ∧ b.toNat ≤ 126 := by omega
        simp [ok7_cons, this]
      rw [this, ih]
theorem r_plain (s : List UInt8) (hs : s.length ≤ 100) : R K (.call 259 [.str s] []) = some (.bool (ok7 s), []) := by
  rw [call_259]
  simp -implicitDefEqProofs only [↓reduceIte, go_sem, Nat.reduceAdd, Nat.reduceSub, Nat.reduceMul, Nat.reduceBEq, Nat.reduceLeDiff, Nat.reduceLT, Nat.reduceEqDiff, reduceCtorEq, Int.reduceBEq, Int.reduceBNe, Int.reduceLT, Int.reduceLE, Int.reduceAdd, Int.reduceSub, Int.reduceMul, Int.reduceNeg, Int.reduceEq, Int.reduceToNat, Tryz.f259, byteRows_len]
  repeat' ((first | refine split_cond (fun hc => ?_) (fun hc => ?_) | refine split_yes (fun hc => ?_) (fun hc => ?_) | refine split_no (fun hc => ?_) (fun hc => ?_)) <;> simp -implicitDefEqProofs only [hc, ↓reduceIte, go_sem, Nat.reduceAdd, Nat.reduceSub, Nat.reduceMul, Nat.reduceBEq, Nat.reduceLeDiff, Nat.reduceLT, Nat.reduceEqDiff, reduceCtorEq, Int.reduceBEq, Int.reduceBNe, Int.reduceLT, Int.reduceLE, Int.reduceAdd, Int.reduceSub, Int.reduceMul, Int.reduceNeg, Int.reduceEq, Int.reduceToNat, byteRows_len])
  rw [l_rplain s hs _ s.length 0 0 _ ?_ rfl (by omega), List.drop_zero]
  · split
    · simp -implicitDefEqProofs only [↓reduceIte, go_sem, Nat.reduceAdd, Nat.reduceSub, Nat.reduceMul, Nat.reduceBEq, Nat.reduceLeDiff, Nat.reduceLT, Nat.reduceEqDiff, reduceCtorEq, Int.reduceBEq, Int.reduceBNe, Int.reduceLT, Int.reduceLE, Int.reduceAdd, Int.reduceSub, Int.reduceMul, Int.reduceNeg, Int.reduceEq, Int.reduceToNat]
      repeat' ((first | refine split_cond (fun hc => ?_) (fun hc => ?_) | refine split_yes (fun hc => ?_) (fun hc => ?_) | refine split_no (fun hc => ?_) (fun hc => ?_)) <;> simp -implicitDefEqProofs only [hc, ↓reduceIte, go_sem, Nat.reduceAdd, Nat.reduceSub, Nat.reduceMul, Nat.reduceBEq, Nat.reduceLeDiff, Nat.reduceLT, Nat.reduceEqDiff, reduceCtorEq, Int.reduceBEq, Int.reduceBNe, Int.reduceLT, Int.reduceLE, Int.reduceAdd, Int.reduceSub, Int.reduceMul, Int.reduceNeg, Int.reduceEq, Int.reduceToNat])
      simp_all
    · simp_all
  · rfl
def faultS (v : Val) : Int :=
  if !(within v.k 0 4) || (v.k != 3 && v.s != []) || ((v.k == 3 || v.k == 0) && v.n != 0) then 3
  else if 100 < v.s.length then 2
  else if !(ok7 v.s) || (v.k == 1 && !(within v.n 0 1)) || (v.k == 2 && !(within v.n (-999999999999999) 999999999999999)) || (v.k == 4 && !(within v.n 0 253402300799)) then 1
  else 0
theorem r_fault (k n : Int) (s : List UInt8) : R K (.call 193 [.int .i64 0, V k n s] []) = some (.int .i64 (faultS ⟨k, n, s⟩), []) := by
  by_cases hs : s.length ≤ 100
  · have hs' : ¬ (100 < (s.length : Int)) := by omega
    have hs2 : ¬ (100 < s.length) := by omega
    rw [call_193]
    simp -implicitDefEqProofs only [↓reduceIte, go_sem, Nat.reduceAdd, Nat.reduceSub, Nat.reduceMul, Nat.reduceBEq, Nat.reduceLeDiff, Nat.reduceLT, Nat.reduceEqDiff, reduceCtorEq, Int.reduceBEq, Int.reduceBNe, Int.reduceLT, Int.reduceLE, Int.reduceAdd, Int.reduceSub, Int.reduceMul, Int.reduceNeg, Int.reduceEq, Int.reduceToNat, Tryz.f193, r_within, r_plain s hs, hs']
    repeat' ((first | refine split_cond (fun hc => ?_) (fun hc => ?_) | refine split_yes (fun hc => ?_) (fun hc => ?_) | refine split_no (fun hc => ?_) (fun hc => ?_)) <;> simp -implicitDefEqProofs only [hc, ↓reduceIte, go_sem, Nat.reduceAdd, Nat.reduceSub, Nat.reduceMul, Nat.reduceBEq, Nat.reduceLeDiff, Nat.reduceLT, Nat.reduceEqDiff, reduceCtorEq, Int.reduceBEq, Int.reduceBNe, Int.reduceLT, Int.reduceLE, Int.reduceAdd, Int.reduceSub, Int.reduceMul, Int.reduceNeg, Int.reduceEq, Int.reduceToNat, r_within, r_plain s hs, hs'])
    all_goals simp_all [faultS]
  · have hs' : (100 < (s.length : Int)) := by omega
    have hs2 : (100 < s.length) := by omega
    rw [call_193]
    simp -implicitDefEqProofs only [↓reduceIte, go_sem, Nat.reduceAdd, Nat.reduceSub, Nat.reduceMul, Nat.reduceBEq, Nat.reduceLeDiff, Nat.reduceLT, Nat.reduceEqDiff, reduceCtorEq, Int.reduceBEq, Int.reduceBNe, Int.reduceLT, Int.reduceLE, Int.reduceAdd, Int.reduceSub, Int.reduceMul, Int.reduceNeg, Int.reduceEq, Int.reduceToNat, Tryz.f193, r_within, hs']
    repeat' ((first | refine split_cond (fun hc => ?_) (fun hc => ?_) | refine split_yes (fun hc => ?_) (fun hc => ?_) | refine split_no (fun hc => ?_) (fun hc => ?_)) <;> simp -implicitDefEqProofs only [hc, ↓reduceIte, go_sem, Nat.reduceAdd, Nat.reduceSub, Nat.reduceMul, Nat.reduceBEq, Nat.reduceLeDiff, Nat.reduceLT, Nat.reduceEqDiff, reduceCtorEq, Int.reduceBEq, Int.reduceBNe, Int.reduceLT, Int.reduceLE, Int.reduceAdd, Int.reduceSub, Int.reduceMul, Int.reduceNeg, Int.reduceEq, Int.reduceToNat, r_within, hs'])
    all_goals simp_all [faultS]
theorem fault_right (v : Val) : (faultS v = 0) ↔ rightS v = true := by
  obtain ⟨k, n, s⟩ := v
  by_cases h0 : k = 0
  · subst h0
    by_cases h1 : n = 0 <;> by_cases h2 : s = [] <;> simp [faultS, rightS, formS, rangeS, within, ok7, h1, h2]
  · by_cases h3 : k = 3
    · subst h3
      by_cases h1 : n = 0 <;> by_cases h2 : s.length ≤ 100 <;> simp [faultS, rightS, formS, rangeS, within, h1, h2, Nat.not_lt.2, Nat.not_le.1] <;> (try omega) <;> (cases ok7 s <;> simp <;> omega)
    · by_cases h4 : within k 0 4 = true
      · have h5 : within k 1 4 = true := by simp [within] at h4 ⊢; omega
        by_cases h2 : s = []
        · subst h2
          by_cases k1 : k = 1
          · subst k1; simp [faultS, rightS, formS, rangeS, h4, h5, ok7]
          · by_cases k2 : k = 2
            · subst k2; simp [faultS, rightS, formS, rangeS, h4, h5, ok7]
            · by_cases k4 : k = 4
              · subst k4; simp [faultS, rightS, formS, rangeS, h4, h5, ok7]
              · simp [within] at h4; omega
        · simp [faultS, rightS, formS, h0, h3, h2]
      · have h5 : within k 1 4 = false := by simp [within] at h4 ⊢; omega
        simp [faultS, rightS, formS, h0, h3, h4, h5]
theorem r_AnyFault (k n : Int) (s : List UInt8) : R K (.call 129 [V k n s] []) = some (.int .i64 (faultS ⟨k, n, s⟩), []) := by
  rw [call_129]
  simp -implicitDefEqProofs only [↓reduceIte, go_sem, Nat.reduceAdd, Nat.reduceSub, Nat.reduceMul, Nat.reduceBEq, Nat.reduceLeDiff, Nat.reduceLT, Nat.reduceEqDiff, reduceCtorEq, Int.reduceBEq, Int.reduceBNe, Int.reduceLT, Int.reduceLE, Int.reduceAdd, Int.reduceSub, Int.reduceMul, Int.reduceNeg, Int.reduceEq, Int.reduceToNat, Tryz.f129, r_fault]
  repeat' ((first | refine split_cond (fun hc => ?_) (fun hc => ?_) | refine split_yes (fun hc => ?_) (fun hc => ?_) | refine split_no (fun hc => ?_) (fun hc => ?_)) <;> simp -implicitDefEqProofs only [hc, ↓reduceIte, go_sem, Nat.reduceAdd, Nat.reduceSub, Nat.reduceMul, Nat.reduceBEq, Nat.reduceLeDiff, Nat.reduceLT, Nat.reduceEqDiff, reduceCtorEq, Int.reduceBEq, Int.reduceBNe, Int.reduceLT, Int.reduceLE, Int.reduceAdd, Int.reduceSub, Int.reduceMul, Int.reduceNeg, Int.reduceEq, Int.reduceToNat, r_fault])
theorem r_right (k n : Int) (s : List UInt8) : R K (.call 62 [V k n s] []) = some (enc (plainV ⟨k, n, s⟩), []) := by
  have h := fault_right ⟨k, n, s⟩
  rw [call_62]
  simp -implicitDefEqProofs only [↓reduceIte, go_sem, Nat.reduceAdd, Nat.reduceSub, Nat.reduceMul, Nat.reduceBEq, Nat.reduceLeDiff, Nat.reduceLT, Nat.reduceEqDiff, reduceCtorEq, Int.reduceBEq, Int.reduceBNe, Int.reduceLT, Int.reduceLE, Int.reduceAdd, Int.reduceSub, Int.reduceMul, Int.reduceNeg, Int.reduceEq, Int.reduceToNat, Tryz.f62, r_AnyFault]
  repeat' ((first | refine split_cond (fun hc => ?_) (fun hc => ?_) | refine split_yes (fun hc => ?_) (fun hc => ?_) | refine split_no (fun hc => ?_) (fun hc => ?_)) <;> simp -implicitDefEqProofs only [hc, ↓reduceIte, go_sem, Nat.reduceAdd, Nat.reduceSub, Nat.reduceMul, Nat.reduceBEq, Nat.reduceLeDiff, Nat.reduceLT, Nat.reduceEqDiff, reduceCtorEq, Int.reduceBEq, Int.reduceBNe, Int.reduceLT, Int.reduceLE, Int.reduceAdd, Int.reduceSub, Int.reduceMul, Int.reduceNeg, Int.reduceEq, Int.reduceToNat, r_AnyFault])
  all_goals simp_all [plainV, null]
theorem within_iff (n a b : Int) : within n a b = true ↔ a ≤ n ∧ n ≤ b := by simp [within]
theorem right_bounds (v : Val) : let p := plainV v; (0 ≤ p.k ∧ p.k ≤ 4) ∧ (-999999999999999 ≤ p.n ∧ p.n ≤ 999999999999999) ∧ p.s.length ≤ 100 ∧ (p.k ≠ 3 → p.s = []) ∧ (p.k = 1 → p.n = 0 ∨ p.n = 1) ∧ (p.k = 0 → p.n = 0) ∧ (p.k = 3 → p.n = 0) ∧ ok7 p.s = true ∧ (p.k = 4 → 0 ≤ p.n ∧ p.n ≤ 253402300799) := by
  intro p
  by_cases hr : rightS v = true
  · have hp : p = v := by simp [p, plainV, hr]
    rw [hp]
    have hf := (fault_right v).2 hr
    unfold faultS at hf
    simp only [rightS, Bool.and_eq_true, decide_eq_true_eq] at hr
    obtain ⟨h1, h2, h3⟩ := hr
    unfold rangeS at h3
    unfold formS at h1
    by_cases k0 : v.k = 0
    · simp [k0] at h1 h3
      refine ⟨by omega, by omega, by simp [h1.2], by simp [h1.2], by omega, by omega, by omega, by simpa using h3, by omega⟩
    · by_cases k3 : v.k = 3
      · simp [k3] at h1 h3
        exact ⟨by omega, by omega, h2, by simp [k3], by omega, by omega, by omega, h3, by omega⟩
      · simp [k0, k3] at h1
        obtain ⟨h4, h5⟩ := h1
        rw [within_iff] at h4
        have hk : v.k = 1 ∨ v.k = 2 ∨ v.k = 4 := by omega
        rw [h5] at h3 ⊢
        rcases hk with hk | hk | hk <;> simp [hk, within_iff] at h3 <;> (refine ⟨by omega, by omega, by simp, by simp, by omega, by omega, by omega, rfl, by omega⟩)
  · have hp : p = null := by simp [p, plainV, hr]
    rw [hp]
    simp [null, ok7]
theorem r_sign (n : Int) : R K (.call 132 [.int .i64 n] []) = some (.int .i64 (if n < 0 then -1 else if 0 < n then 1 else 0), []) := by
  rw [call_132]
  simp -implicitDefEqProofs only [↓reduceIte, go_sem, Nat.reduceAdd, Nat.reduceSub, Nat.reduceMul, Nat.reduceBEq, Nat.reduceLeDiff, Nat.reduceLT, Nat.reduceEqDiff, reduceCtorEq, Int.reduceBEq, Int.reduceBNe, Int.reduceLT, Int.reduceLE, Int.reduceAdd, Int.reduceSub, Int.reduceMul, Int.reduceNeg, Int.reduceEq, Int.reduceToNat, Tryz.f132]
  repeat' ((first | refine split_cond (fun hc => ?_) (fun hc => ?_) | refine split_yes (fun hc => ?_) (fun hc => ?_) | refine split_no (fun hc => ?_) (fun hc => ?_)) <;> simp -implicitDefEqProofs only [hc, ↓reduceIte, go_sem, Nat.reduceAdd, Nat.reduceSub, Nat.reduceMul, Nat.reduceBEq, Nat.reduceLeDiff, Nat.reduceLT, Nat.reduceEqDiff, reduceCtorEq, Int.reduceBEq, Int.reduceBNe, Int.reduceLT, Int.reduceLE, Int.reduceAdd, Int.reduceSub, Int.reduceMul, Int.reduceNeg, Int.reduceEq, Int.reduceToNat])
  simp only [Prod.mk.injEq, AV.int.injEq, true_and, and_true]
  split <;> split <;> (try split) <;> (try split) <;> omega
def comparedS (a b : Val) : Int := if cmpI (plainV a).k (plainV b).k ≠ 0 then cmpI (plainV a).k (plainV b).k else if (plainV a).k = 3 then Lib.compareBytes (plainV a).s (plainV b).s else cmpI (plainV a).n (plainV b).n
theorem sign_sub (a b : Int) (h1 : -999999999999999 ≤ a ∧ a ≤ 999999999999999) (h2 : -999999999999999 ≤ b ∧ b ≤ 999999999999999) : (if wrapI .i64 (a - b) < 0 then -1 else if 0 < wrapI .i64 (a - b) then 1 else 0) = cmpI a b := by
  rw [wrap_id (by omega) (by omega)]
  unfold cmpI
  split <;> split <;> (try split) <;> (try split) <;> omega
theorem r_Compare (a b : List UInt8) : R K (.call 133 [.str a, .str b] []) = some (.int .i64 (Lib.compareBytes a b), []) := R_prim rfl
theorem r_Compared (k n : Int) (s : List UInt8) (k' n' : Int) (s' : List UInt8) : R K (.call 79 [V k n s, V k' n' s'] []) = some (.int .i64 (comparedS ⟨k, n, s⟩ ⟨k', n', s'⟩), []) := by
  obtain ⟨b1, b2, _⟩ := right_bounds ⟨k, n, s⟩
  obtain ⟨b1', b2', _⟩ := right_bounds ⟨k', n', s'⟩
  have e1 := sign_sub _ _ (show -999999999999999 ≤ (plainV ⟨k, n, s⟩).k ∧ (plainV ⟨k, n, s⟩).k ≤ 999999999999999 by omega) (show -999999999999999 ≤ (plainV ⟨k', n', s'⟩).k ∧ (plainV ⟨k', n', s'⟩).k ≤ 999999999999999 by omega)
  have e2 := sign_sub _ _ b2 b2'
  rw [call_79]
  simp -implicitDefEqProofs only [↓reduceIte, go_sem, Nat.reduceAdd, Nat.reduceSub, Nat.reduceMul, Nat.reduceBEq, Nat.reduceLeDiff, Nat.reduceLT, Nat.reduceEqDiff, reduceCtorEq, Int.reduceBEq, Int.reduceBNe, Int.reduceLT, Int.reduceLE, Int.reduceAdd, Int.reduceSub, Int.reduceMul, Int.reduceNeg, Int.reduceEq, Int.reduceToNat, Tryz.f79, r_right, r_sign, e1, e2, r_Compare]
  repeat' ((first | refine split_cond (fun hc => ?_) (fun hc => ?_) | refine split_yes (fun hc => ?_) (fun hc => ?_) | refine split_no (fun hc => ?_) (fun hc => ?_)) <;> simp -implicitDefEqProofs only [hc, ↓reduceIte, go_sem, Nat.reduceAdd, Nat.reduceSub, Nat.reduceMul, Nat.reduceBEq, Nat.reduceLeDiff, Nat.reduceLT, Nat.reduceEqDiff, reduceCtorEq, Int.reduceBEq, Int.reduceBNe, Int.reduceLT, Int.reduceLE, Int.reduceAdd, Int.reduceSub, Int.reduceMul, Int.reduceNeg, Int.reduceEq, Int.reduceToNat, r_right, r_sign, e1, e2, r_Compare])
  all_goals simp_all [comparedS]
def alikeB (a b : Val) : Bool := a.k == b.k && a.k != 0
theorem r_alike (k n : Int) (s : List UInt8) (k' n' : Int) (s' : List UInt8) : R K (.call 84 [V k n s, V k' n' s'] []) = some (.bool (alikeB ⟨k, n, s⟩ ⟨k', n', s'⟩), []) := by
  rw [call_84]
  simp -implicitDefEqProofs only [↓reduceIte, go_sem, Nat.reduceAdd, Nat.reduceSub, Nat.reduceMul, Nat.reduceBEq, Nat.reduceLeDiff, Nat.reduceLT, Nat.reduceEqDiff, reduceCtorEq, Int.reduceBEq, Int.reduceBNe, Int.reduceLT, Int.reduceLE, Int.reduceAdd, Int.reduceSub, Int.reduceMul, Int.reduceNeg, Int.reduceEq, Int.reduceToNat, Tryz.f84]
  repeat' ((first | refine split_cond (fun hc => ?_) (fun hc => ?_) | refine split_yes (fun hc => ?_) (fun hc => ?_) | refine split_no (fun hc => ?_) (fun hc => ?_)) <;> simp -implicitDefEqProofs only [hc, ↓reduceIte, go_sem, Nat.reduceAdd, Nat.reduceSub, Nat.reduceMul, Nat.reduceBEq, Nat.reduceLeDiff, Nat.reduceLT, Nat.reduceEqDiff, reduceCtorEq, Int.reduceBEq, Int.reduceBNe, Int.reduceLT, Int.reduceLE, Int.reduceAdd, Int.reduceSub, Int.reduceMul, Int.reduceNeg, Int.reduceEq, Int.reduceToNat])
  all_goals simp_all [alikeB]
def tri (v : Val) : Int := if v = boolV true then 2 else if v = boolV false then 0 else 1
theorem tri_of (v : Val) : (if (plainV v).k = 1 then wrapI .i64 (2 * (plainV v).n) else 1) = tri v := by
  obtain ⟨_, _, _, b4, b5, _⟩ := right_bounds v
  by_cases hk : (plainV v).k = 1
  · rw [if_pos hk]
    have hv : plainV v = v := by
      unfold plainV at hk ⊢
      split
      · rfl
      · rename_i h; simp [h, null] at hk
    rw [hv] at hk b4 b5 ⊢
    have hs := b4 (by omega)
    obtain ⟨k, n, s⟩ := v
    simp only at hk hs b5 ⊢
    subst hk hs
    rcases b5 rfl with h | h <;> subst h <;> rfl
  · rw [if_neg hk]
    unfold tri
    have ht : v ≠ boolV true := by rintro rfl; exact hk rfl
    have hf : v ≠ boolV false := by rintro rfl; exact hk rfl
    rw [if_neg ht, if_neg hf]
theorem r_third (k n : Int) (s : List UInt8) : R K (.call 78 [V k n s] []) = some (.int .i64 (tri ⟨k, n, s⟩), []) := by
  have h := tri_of ⟨k, n, s⟩
  rw [call_78]
  simp -implicitDefEqProofs only [↓reduceIte, go_sem, Nat.reduceAdd, Nat.reduceSub, Nat.reduceMul, Nat.reduceBEq, Nat.reduceLeDiff, Nat.reduceLT, Nat.reduceEqDiff, reduceCtorEq, Int.reduceBEq, Int.reduceBNe, Int.reduceLT, Int.reduceLE, Int.reduceAdd, Int.reduceSub, Int.reduceMul, Int.reduceNeg, Int.reduceEq, Int.reduceToNat, Tryz.f78, r_right]
  repeat' ((first | refine split_cond (fun hc => ?_) (fun hc => ?_) | refine split_yes (fun hc => ?_) (fun hc => ?_) | refine split_no (fun hc => ?_) (fun hc => ?_)) <;> simp -implicitDefEqProofs only [hc, ↓reduceIte, go_sem, Nat.reduceAdd, Nat.reduceSub, Nat.reduceMul, Nat.reduceBEq, Nat.reduceLeDiff, Nat.reduceLT, Nat.reduceEqDiff, reduceCtorEq, Int.reduceBEq, Int.reduceBNe, Int.reduceLT, Int.reduceLE, Int.reduceAdd, Int.reduceSub, Int.reduceMul, Int.reduceNeg, Int.reduceEq, Int.reduceToNat, r_right])
  all_goals simp_all
def fromTri (n : Int) : Val := if n = 1 then null else boolV (n == 2)
theorem r_fromThird (n : Int) : R K (.call 77 [.int .i64 n] []) = some (enc (fromTri n), []) := by
  rw [call_77]
  simp -implicitDefEqProofs only [↓reduceIte, go_sem, Nat.reduceAdd, Nat.reduceSub, Nat.reduceMul, Nat.reduceBEq, Nat.reduceLeDiff, Nat.reduceLT, Nat.reduceEqDiff, reduceCtorEq, Int.reduceBEq, Int.reduceBNe, Int.reduceLT, Int.reduceLE, Int.reduceAdd, Int.reduceSub, Int.reduceMul, Int.reduceNeg, Int.reduceEq, Int.reduceToNat, Tryz.f77, r_Truth]
  repeat' ((first | refine split_cond (fun hc => ?_) (fun hc => ?_) | refine split_yes (fun hc => ?_) (fun hc => ?_) | refine split_no (fun hc => ?_) (fun hc => ?_)) <;> simp -implicitDefEqProofs only [hc, ↓reduceIte, go_sem, Nat.reduceAdd, Nat.reduceSub, Nat.reduceMul, Nat.reduceBEq, Nat.reduceLeDiff, Nat.reduceLT, Nat.reduceEqDiff, reduceCtorEq, Int.reduceBEq, Int.reduceBNe, Int.reduceLT, Int.reduceLE, Int.reduceAdd, Int.reduceSub, Int.reduceMul, Int.reduceNeg, Int.reduceEq, Int.reduceToNat, r_Truth])
  all_goals simp_all [fromTri, null]
theorem tri_bounds (v : Val) : 0 ≤ tri v ∧ tri v ≤ 2 := by unfold tri; split <;> (try split) <;> omega
theorem r_Oper1 (n : Int) (k1 n1 : Int) (s1 : List UInt8) (k2 n2 : Int) (s2 : List UInt8) : R K (.call 21 [.int .i64 1, .int .i64 n, .rows [[.int .i64 k1, .int .i64 n1, .str s1], [.int .i64 k2, .int .i64 n2, .str s2]]] []) = some (enc (fromTri (2 - tri (plainV ⟨k1, n1, s1⟩))), []) := by
  have hb := tri_bounds (plainV ⟨k1, n1, s1⟩)
  have hw : wrapI .i64 (2 - tri (plainV ⟨k1, n1, s1⟩)) = 2 - tri (plainV ⟨k1, n1, s1⟩) := wrap_id (by omega) (by omega)
  rw [call_21]
  simp -implicitDefEqProofs only [↓reduceIte, go_sem, Nat.reduceAdd, Nat.reduceSub, Nat.reduceMul, Nat.reduceBEq, Nat.reduceLeDiff, Nat.reduceLT, Nat.reduceEqDiff, reduceCtorEq, Int.reduceBEq, Int.reduceBNe, Int.reduceLT, Int.reduceLE, Int.reduceAdd, Int.reduceSub, Int.reduceMul, Int.reduceNeg, Int.reduceEq, Int.reduceToNat, Tryz.f21]
  repeat' ((first | refine split_cond (fun hc => ?_) (fun hc => ?_) | refine split_yes (fun hc => ?_) (fun hc => ?_) | refine split_no (fun hc => ?_) (fun hc => ?_)) <;> simp -implicitDefEqProofs only [hc, ↓reduceIte, go_sem, Nat.reduceAdd, Nat.reduceSub, Nat.reduceMul, Nat.reduceBEq, Nat.reduceLeDiff, Nat.reduceLT, Nat.reduceEqDiff, reduceCtorEq, Int.reduceBEq, Int.reduceBNe, Int.reduceLT, Int.reduceLE, Int.reduceAdd, Int.reduceSub, Int.reduceMul, Int.reduceNeg, Int.reduceEq, Int.reduceToNat])
  rw [RL_eq]
  simp -implicitDefEqProofs only [↓reduceIte, go_sem, Nat.reduceAdd, Nat.reduceSub, Nat.reduceMul, Nat.reduceBEq, Nat.reduceLeDiff, Nat.reduceLT, Nat.reduceEqDiff, reduceCtorEq, Int.reduceBEq, Int.reduceBNe, Int.reduceLT, Int.reduceLE, Int.reduceAdd, Int.reduceSub, Int.reduceMul, Int.reduceNeg, Int.reduceEq, Int.reduceToNat, r_right, at?]
  repeat' ((first | refine split_cond (fun hc => ?_) (fun hc => ?_) | refine split_yes (fun hc => ?_) (fun hc => ?_) | refine split_no (fun hc => ?_) (fun hc => ?_)) <;> simp -implicitDefEqProofs only [hc, ↓reduceIte, go_sem, Nat.reduceAdd, Nat.reduceSub, Nat.reduceMul, Nat.reduceBEq, Nat.reduceLeDiff, Nat.reduceLT, Nat.reduceEqDiff, reduceCtorEq, Int.reduceBEq, Int.reduceBNe, Int.reduceLT, Int.reduceLE, Int.reduceAdd, Int.reduceSub, Int.reduceMul, Int.reduceNeg, Int.reduceEq, Int.reduceToNat, r_right, at?])
  rw [RL_eq]
  simp -implicitDefEqProofs only [↓reduceIte, go_sem, Nat.reduceAdd, Nat.reduceSub, Nat.reduceMul, Nat.reduceBEq, Nat.reduceLeDiff, Nat.reduceLT, Nat.reduceEqDiff, reduceCtorEq, Int.reduceBEq, Int.reduceBNe, Int.reduceLT, Int.reduceLE, Int.reduceAdd, Int.reduceSub, Int.reduceMul, Int.reduceNeg, Int.reduceEq, Int.reduceToNat, r_right, at?]
  repeat' ((first | refine split_cond (fun hc => ?_) (fun hc => ?_) | refine split_yes (fun hc => ?_) (fun hc => ?_) | refine split_no (fun hc => ?_) (fun hc => ?_)) <;> simp -implicitDefEqProofs only [hc, ↓reduceIte, go_sem, Nat.reduceAdd, Nat.reduceSub, Nat.reduceMul, Nat.reduceBEq, Nat.reduceLeDiff, Nat.reduceLT, Nat.reduceEqDiff, reduceCtorEq, Int.reduceBEq, Int.reduceBNe, Int.reduceLT, Int.reduceLE, Int.reduceAdd, Int.reduceSub, Int.reduceMul, Int.reduceNeg, Int.reduceEq, Int.reduceToNat, r_right, at?])
  rw [RL_eq]
  simp -implicitDefEqProofs only [↓reduceIte, go_sem, Nat.reduceAdd, Nat.reduceSub, Nat.reduceMul, Nat.reduceBEq, Nat.reduceLeDiff, Nat.reduceLT, Nat.reduceEqDiff, reduceCtorEq, Int.reduceBEq, Int.reduceBNe, Int.reduceLT, Int.reduceLE, Int.reduceAdd, Int.reduceSub, Int.reduceMul, Int.reduceNeg, Int.reduceEq, Int.reduceToNat, r_right, at?, r_third, r_fromThird, r_Compared, r_Truth, r_alike]
  repeat' ((first | refine split_cond (fun hc => ?_) (fun hc => ?_) | refine split_yes (fun hc => ?_) (fun hc => ?_) | refine split_no (fun hc => ?_) (fun hc => ?_)) <;> simp -implicitDefEqProofs only [hc, ↓reduceIte, go_sem, Nat.reduceAdd, Nat.reduceSub, Nat.reduceMul, Nat.reduceBEq, Nat.reduceLeDiff, Nat.reduceLT, Nat.reduceEqDiff, reduceCtorEq, Int.reduceBEq, Int.reduceBNe, Int.reduceLT, Int.reduceLE, Int.reduceAdd, Int.reduceSub, Int.reduceMul, Int.reduceNeg, Int.reduceEq, Int.reduceToNat, r_right, at?, r_third, r_fromThird, r_Compared, r_Truth, r_alike])
  rw [hw]
theorem r_Oper2 (n : Int) (k1 n1 : Int) (s1 : List UInt8) (k2 n2 : Int) (s2 : List UInt8) : R K (.call 21 [.int .i64 2, .int .i64 n, .rows [[.int .i64 k1, .int .i64 n1, .str s1], [.int .i64 k2, .int .i64 n2, .str s2]]] []) = some (enc (fromTri (if tri (plainV ⟨k2, n2, s2⟩) < tri (plainV ⟨k1, n1, s1⟩) then tri (plainV ⟨k2, n2, s2⟩) else tri (plainV ⟨k1, n1, s1⟩))), []) := by
  rw [call_21]
  simp -implicitDefEqProofs only [↓reduceIte, go_sem, Nat.reduceAdd, Nat.reduceSub, Nat.reduceMul, Nat.reduceBEq, Nat.reduceLeDiff, Nat.reduceLT, Nat.reduceEqDiff, reduceCtorEq, Int.reduceBEq, Int.reduceBNe, Int.reduceLT, Int.reduceLE, Int.reduceAdd, Int.reduceSub, Int.reduceMul, Int.reduceNeg, Int.reduceEq, Int.reduceToNat, Tryz.f21]
  repeat' ((first | refine split_cond (fun hc => ?_) (fun hc => ?_) | refine split_yes (fun hc => ?_) (fun hc => ?_) | refine split_no (fun hc => ?_) (fun hc => ?_)) <;> simp -implicitDefEqProofs only [hc, ↓reduceIte, go_sem, Nat.reduceAdd, Nat.reduceSub, Nat.reduceMul, Nat.reduceBEq, Nat.reduceLeDiff, Nat.reduceLT, Nat.reduceEqDiff, reduceCtorEq, Int.reduceBEq, Int.reduceBNe, Int.reduceLT, Int.reduceLE, Int.reduceAdd, Int.reduceSub, Int.reduceMul, Int.reduceNeg, Int.reduceEq, Int.reduceToNat])
  rw [RL_eq]
  simp -implicitDefEqProofs only [↓reduceIte, go_sem, Nat.reduceAdd, Nat.reduceSub, Nat.reduceMul, Nat.reduceBEq, Nat.reduceLeDiff, Nat.reduceLT, Nat.reduceEqDiff, reduceCtorEq, Int.reduceBEq, Int.reduceBNe, Int.reduceLT, Int.reduceLE, Int.reduceAdd, Int.reduceSub, Int.reduceMul, Int.reduceNeg, Int.reduceEq, Int.reduceToNat, r_right, at?]
  repeat' ((first | refine split_cond (fun hc => ?_) (fun hc => ?_) | refine split_yes (fun hc => ?_) (fun hc => ?_) | refine split_no (fun hc => ?_) (fun hc => ?_)) <;> simp -implicitDefEqProofs only [hc, ↓reduceIte, go_sem, Nat.reduceAdd, Nat.reduceSub, Nat.reduceMul, Nat.reduceBEq, Nat.reduceLeDiff, Nat.reduceLT, Nat.reduceEqDiff, reduceCtorEq, Int.reduceBEq, Int.reduceBNe, Int.reduceLT, Int.reduceLE, Int.reduceAdd, Int.reduceSub, Int.reduceMul, Int.reduceNeg, Int.reduceEq, Int.reduceToNat, r_right, at?])
  rw [RL_eq]
  simp -implicitDefEqProofs only [↓reduceIte, go_sem, Nat.reduceAdd, Nat.reduceSub, Nat.reduceMul, Nat.reduceBEq, Nat.reduceLeDiff, Nat.reduceLT, Nat.reduceEqDiff, reduceCtorEq, Int.reduceBEq, Int.reduceBNe, Int.reduceLT, Int.reduceLE, Int.reduceAdd, Int.reduceSub, Int.reduceMul, Int.reduceNeg, Int.reduceEq, Int.reduceToNat, r_right, at?]
  repeat' ((first | refine split_cond (fun hc => ?_) (fun hc => ?_) | refine split_yes (fun hc => ?_) (fun hc => ?_) | refine split_no (fun hc => ?_) (fun hc => ?_)) <;> simp -implicitDefEqProofs only [hc, ↓reduceIte, go_sem, Nat.reduceAdd, Nat.reduceSub, Nat.reduceMul, Nat.reduceBEq, Nat.reduceLeDiff, Nat.reduceLT, Nat.reduceEqDiff, reduceCtorEq, Int.reduceBEq, Int.reduceBNe, Int.reduceLT, Int.reduceLE, Int.reduceAdd, Int.reduceSub, Int.reduceMul, Int.reduceNeg, Int.reduceEq, Int.reduceToNat, r_right, at?])
  rw [RL_eq]
  simp -implicitDefEqProofs only [↓reduceIte, go_sem, Nat.reduceAdd, Nat.reduceSub, Nat.reduceMul, Nat.reduceBEq, Nat.reduceLeDiff, Nat.reduceLT, Nat.reduceEqDiff, reduceCtorEq, Int.reduceBEq, Int.reduceBNe, Int.reduceLT, Int.reduceLE, Int.reduceAdd, Int.reduceSub, Int.reduceMul, Int.reduceNeg, Int.reduceEq, Int.reduceToNat, r_right, at?, r_third, r_fromThird, r_Compared, r_Truth, r_alike]
  repeat' ((first | refine split_cond (fun hc => ?_) (fun hc => ?_) | refine split_yes (fun hc => ?_) (fun hc => ?_) | refine split_no (fun hc => ?_) (fun hc => ?_)) <;> simp -implicitDefEqProofs only [hc, ↓reduceIte, go_sem, Nat.reduceAdd, Nat.reduceSub, Nat.reduceMul, Nat.reduceBEq, Nat.reduceLeDiff, Nat.reduceLT, Nat.reduceEqDiff, reduceCtorEq, Int.reduceBEq, Int.reduceBNe, Int.reduceLT, Int.reduceLE, Int.reduceAdd, Int.reduceSub, Int.reduceMul, Int.reduceNeg, Int.reduceEq, Int.reduceToNat, r_right, at?, r_third, r_fromThird, r_Compared, r_Truth, r_alike])
theorem r_values : R K (.call 15 [] []) = some (.bool true, []) := R_of_runN (n := 30000) (by kernel_rfl)
theorem boolV_ne : boolV true ≠ boolV false := by decide
theorem tri_cases (v : Val) : (v = boolV true ∧ tri v = 2) ∨ (v = boolV false ∧ tri v = 0) ∨ (v ≠ boolV true ∧ v ≠ boolV false ∧ tri v = 1) := by
  unfold tri
  by_cases h1 : v = boolV true
  · exact .inl ⟨h1, by rw [if_pos h1]⟩
  · by_cases h2 : v = boolV false
    · exact .inr (.inl ⟨h2, by rw [if_neg h1, if_pos h2]⟩)
    · exact .inr (.inr ⟨h1, h2, by rw [if_neg h1, if_neg h2]⟩)
theorem plain_bool (b : Bool) : plainV (boolV b) = boolV b := by cases b <;> rfl
theorem plain_or (v : Val) : plainV v = v ∨ plainV v = null := by
  unfold plainV
  split
  · exact .inl rfl
  · exact .inr rfl
theorem tri_plain (v : Val) : tri (plainV v) = tri v := by
  rcases tri_cases v with ⟨h, _⟩ | ⟨h, _⟩ | ⟨h1, h2, h3⟩
  · rw [h, plain_bool]
  · rw [h, plain_bool]
  · rcases plain_or v with h | h
    · rw [h]
    · rw [h, h3]; rfl
theorem not_law (a : Val) : notS a = fromTri (2 - tri (plainV a)) := by
  rw [tri_plain]
  rcases tri_cases a with ⟨h, ht⟩ | ⟨h, ht⟩ | ⟨h1, h2, ht⟩
  · subst h; rfl
  · subst h; rfl
  · rw [ht]; simp [notS, isS, h1, h2, fromTri]
theorem and_law (a b : Val) : andS a b = fromTri (if tri (plainV b) < tri (plainV a) then tri (plainV b) else tri (plainV a)) := by
  rw [tri_plain, tri_plain]
  rcases tri_cases a with ⟨h, ht⟩ | ⟨h, ht⟩ | ⟨h1, h2, ht⟩ <;> rcases tri_cases b with ⟨g, gt⟩ | ⟨g, gt⟩ | ⟨g1, g2, gt⟩ <;> rw [ht, gt]
  · subst h g; rfl
  · subst h g; rfl
  · subst h; simp [andS, isS, g1, g2, fromTri, boolV_ne]
  · subst h g; rfl
  · subst h g; rfl
  · subst h; simp [andS, isS, fromTri]
  · subst g; simp [andS, isS, h1, h2, fromTri, boolV_ne]
  · subst g; simp [andS, isS, fromTri]
  · simp [andS, isS, h1, h2, g1, g2, fromTri]
theorem o1 (n k1 n1 : Int) (s1 : List UInt8) (k2 n2 : Int) (s2 : List UInt8) : R K (.call 21 [.int .i64 1, .int .i64 n, .rows [[.int .i64 k1, .int .i64 n1, .str s1], [.int .i64 k2, .int .i64 n2, .str s2]]] []) = some (enc (notS ⟨k1, n1, s1⟩), []) := by
  rw [r_Oper1, ← not_law]
theorem o2 (n k1 n1 : Int) (s1 : List UInt8) (k2 n2 : Int) (s2 : List UInt8) : R K (.call 21 [.int .i64 2, .int .i64 n, .rows [[.int .i64 k1, .int .i64 n1, .str s1], [.int .i64 k2, .int .i64 n2, .str s2]]] []) = some (enc (andS ⟨k1, n1, s1⟩ ⟨k2, n2, s2⟩), []) := by
  rw [r_Oper2, ← and_law]
theorem ascii_ok7 {s : List UInt8} (h : ok7 s = true) : ascii s = true := by
  simp only [ascii, ok7, List.all_eq_true, Bool.and_eq_true, decide_eq_true_eq] at h ⊢
  intro x hx
  have := (h x hx).2
  omega
theorem is3_text {k n : Int} {s : List UInt8} (h : isK 3 ⟨k, n, s⟩ = true) : s.length ≤ 100 ∧ ascii s = true ∧ plainV ⟨k, n, s⟩ = ⟨k, n, s⟩ ∧ k = 3 ∧ n = 0 := by
  simp only [isK, beq_iff_eq] at h
  obtain ⟨h1, h2, h3⟩ := plain_len _ h
  have hk : k = 3 := by rw [h1] at h; exact h
  have hb := (right_bounds ⟨k, n, s⟩).2.2.2.2.2.2.1 (by rw [h1]; exact hk)
  rw [h1] at hb
  exact ⟨h2, ascii_ok7 h3, h1, hk, hb⟩
theorem plain3 (v : Val) (h : (plainV v).k = 3) : (plainV v).s.length ≤ 100 ∧ ascii (plainV v).s = true := by
  obtain ⟨h1, h2, h3⟩ := plain_len v h
  rw [h1]
  exact ⟨h2, ascii_ok7 h3⟩
structure Pc where
  c : UInt8
  any : Bool
  one : Bool
def pieceOf (c : UInt8) : Pc := if c = 37 then ⟨0, true, false⟩ else ⟨c, false, c == 95⟩
def parse : List UInt8 → List Pc
  | [] => []
  | [c] => [pieceOf c]
  | c :: d :: r => if c = 92 then ⟨d, false, false⟩ :: parse r else pieceOf c :: parse (d :: r)
def fitAt (s : List UInt8) (p : Pc) (i : Nat) : Bool := match s[i]? with
  | some b => p.one || p.c == b
  | none => false
def runOr (f : Nat → Bool) : Nat → Bool
  | 0 => f 0
  | i + 1 => f (i + 1) || runOr f i
def shiftAnd (s : List UInt8) (p : Pc) (f : Nat → Bool) : Nat → Bool
  | 0 => false
  | i + 1 => f i && fitAt s p i
def has (s : List UInt8) (ps : List Pc) : Nat → Nat → Bool
  | 0 => fun i => i == 0
  | k + 1 => match ps[k]? with
    | none => fun _ => false
    | some p => if p.any = true then runOr (has s ps k) else shiftAnd s p (has s ps k)
def anyAt (ps : List Pc) (k : Nat) : Bool := match ps[k]? with
  | some p => p.any
  | none => false
def begun (s : List UInt8) (ps : List Pc) (i k : Nat) : Bool := has s ps k i || (anyAt ps k && has s ps (k + 1) i)
def litAt (s : List UInt8) (ps : List Pc) (i k : Nat) : Bool := match ps[k]? with
  | some p => !p.any && fitAt s p i
  | none => false
def rowNext (s : List UInt8) (ps : List Pc) (i : Nat) (f : Nat → Bool) : Nat → Bool
  | 0 => f 0 && anyAt ps 0
  | k + 1 => (f (k + 1) && anyAt ps (k + 1)) || (f k && litAt s ps i k)
def skips (ps : List Pc) (f : Nat → Bool) : Nat → Bool
  | 0 => f 0
  | k + 1 => f (k + 1) || (skips ps f k && anyAt ps k)
theorem has_any (s : List UInt8) (ps : List Pc) (k i : Nat) (h : anyAt ps k = true) : has s ps (k + 1) (i + 1) = (has s ps k (i + 1) || has s ps (k + 1) i) := by
  unfold anyAt at h
  cases hp : ps[k]? with
  | none => rw [hp] at h; simp at h
  | some p => rw [hp] at h; simp only at h; simp only [has, hp, h, if_true, runOr]
theorem has_any0 (s : List UInt8) (ps : List Pc) (k : Nat) (h : anyAt ps k = true) : has s ps (k + 1) 0 = has s ps k 0 := by
  unfold anyAt at h
  cases hp : ps[k]? with
  | none => rw [hp] at h; simp at h
  | some p => rw [hp] at h; simp only at h; simp only [has, hp, h, if_true, runOr]
theorem has_lit (s : List UInt8) (ps : List Pc) (k i : Nat) (h : anyAt ps k = false) : has s ps (k + 1) (i + 1) = (has s ps k i && litAt s ps i k) := by
  unfold anyAt at h
  unfold litAt
  cases hp : ps[k]? with
  | none => simp [has, hp]
  | some p => rw [hp] at h; simp only at h; simp [has, hp, h, shiftAnd]
theorem has_lit0 (s : List UInt8) (ps : List Pc) (k : Nat) (h : anyAt ps k = false) : has s ps (k + 1) 0 = false := by
  unfold anyAt at h
  cases hp : ps[k]? with
  | none => simp [has, hp]
  | some p => rw [hp] at h; simp only at h; simp [has, hp, h, shiftAnd]
theorem lit_any (s : List UInt8) (ps : List Pc) (i k : Nat) (h : anyAt ps k = true) : litAt s ps i k = false := by
  unfold anyAt at h
  unfold litAt
  cases hp : ps[k]? with
  | none => rfl
  | some p => rw [hp] at h; simp only at h; simp [h]
theorem row_first (s : List UInt8) (ps : List Pc) : ∀ k, skips ps (fun k => k == 0) k = begun s ps 0 k
  | 0 => by
    by_cases h : anyAt ps 0 = true
    · simp [skips, begun, has_any0 s ps 0 h, has]
    · have h' : anyAt ps 0 = false := by simpa using h
      simp [skips, begun, h', has]
  | k + 1 => by
    have ih := row_first s ps k
    simp only [skips, ih, begun]
    by_cases h : anyAt ps k = true
    · have e := has_any0 s ps k h
      by_cases g : anyAt ps (k + 1) = true
      · have e2 := has_any0 s ps (k + 1) g
        simp [h, g, e, e2]
      · have g' : anyAt ps (k + 1) = false := by simpa using g
        simp [h, g', e]
    · have h' : anyAt ps k = false := by simpa using h
      have e := has_lit0 s ps k h'
      by_cases g : anyAt ps (k + 1) = true
      · have e2 := has_any0 s ps (k + 1) g
        simp [h', g, e, e2]
      · have g' : anyAt ps (k + 1) = false := by simpa using g
        simp [h', g', e]
theorem row_next (s : List UInt8) (ps : List Pc) (i : Nat) : ∀ k, skips ps (rowNext s ps i (begun s ps i)) k = begun s ps (i + 1) k
  | 0 => by
    by_cases h : anyAt ps 0 = true
    · have e := has_any s ps 0 i h
      simp only [skips, rowNext, begun, h, e, Bool.and_true, Bool.true_and]
      cases i with
      | zero => rw [has_any0 s ps 0 h]; rfl
      | succ i => simp [has]
    · have h' : anyAt ps 0 = false := by simpa using h
      simp [skips, rowNext, begun, h', has]
  | k + 1 => by
    have ih := row_next s ps i k
    simp only [skips, ih, rowNext]
    by_cases h : anyAt ps k = true
    · have e := has_any s ps k i h
      have l := lit_any s ps i k h
      by_cases g : anyAt ps (k + 1) = true
      · have e2 := has_any s ps (k + 1) i g
        simp only [begun, h, g, e, e2, l, Bool.and_true, Bool.true_and, Bool.and_false, Bool.or_false]
        cases has s ps (k + 1) i <;> cases has s ps (k + 2) i <;> cases has s ps k (i + 1) <;> rfl
      · have g' : anyAt ps (k + 1) = false := by simpa using g
        simp [begun, h, g', e, l]
    · have h' : anyAt ps k = false := by simpa using h
      have e := has_lit s ps k i h'
      by_cases g : anyAt ps (k + 1) = true
      · have e2 := has_any s ps (k + 1) i g
        simp only [begun, h', g, e, e2, Bool.and_true, Bool.true_and, Bool.and_false, Bool.or_false, Bool.false_and]
        cases i with
        | zero =>
          have e3 := has_any0 s ps (k + 1) g
          have e4 := has_lit0 s ps k h'
          simp [e3, e4]
        | succ i =>
          have e3 := has_any s ps (k + 1) i g
          simp only [e3]
          cases has s ps (k + 1) (i + 1) <;> cases has s ps (k + 2) i <;> cases has s ps k (i + 1) <;> cases litAt s ps (i + 1) k <;> rfl
      · have g' : anyAt ps (k + 1) = false := by simpa using g
        simp [begun, h', g', e]
theorem elem_bool : elemZero Tryz.prog 137 = some (.bool false) := rfl
theorem mk_bools (h : Heap) (n : Nat) (hn : n ≤ 100000) : makeSliceV Tryz.prog 137 h (.int .i64 (n : Int)) (.int .i64 (n : Int)) = some (.own h.length n, h ++ [.rows 1 (List.replicate n [.bool false]) true]) := by
  have e : es Tryz.prog 137 = some (1, 1) := rfl
  unfold makeSliceV
  simp only [if_true, e, elem_bool, makeOf, makeRows, Int.toNat_natCast]
  rw [if_pos ⟨by omega, by unfold roomMax; omega⟩]
  rfl
theorem at_zero {α : Type} (x : α) (l : List α) : at? (x :: l) (0 : Int) = some x := rfl
def bl (n : Nat) (g : Nat → Bool) : List (List AV) := (List.range n).map fun j => [.bool (g j)]
theorem bl_len (n : Nat) (g : Nat → Bool) : (bl n g).length = n := by simp [bl]
theorem bl_get? {n i : Nat} (g : Nat → Bool) (h : i < n) : (bl n g)[i]? = some [.bool (g i)] := by simp [bl, h]
theorem bl_at {n i : Nat} (g : Nat → Bool) (h : i < n) : at? (bl n g) (i : Int) = some [.bool (g i)] := at_get (bl_get? g h)
theorem bl_congr {n : Nat} {g g' : Nat → Bool} (h : ∀ j, j < n → g j = g' j) : bl n g = bl n g' := by
  unfold bl
  refine List.map_congr_left fun j hj => ?_
  rw [h j (by simpa using hj)]
theorem bl_set {n i : Nat} (g : Nat → Bool) (b : Bool) (h : i < n) : (bl n g).set i [.bool b] = bl n (fun j => if j = i then b else g j) := by
  apply List.ext_getElem?
  intro j
  rw [List.getElem?_set]
  by_cases hj : j < n
  · by_cases e : i = j
    · subst e
      rw [if_pos rfl, if_pos (by rw [bl_len]; exact h), bl_get? _ h]
      simp
    · rw [if_neg e, bl_get? _ hj, bl_get? _ hj, if_neg (Ne.symm e)]
  · have e : i ≠ j := by omega
    rw [if_neg e]
    rw [List.getElem?_eq_none (by rw [bl_len]; omega), List.getElem?_eq_none (by rw [bl_len]; omega)]
theorem bl_rep (n : Nat) : List.replicate n [AV.bool false] = bl n (fun _ => false) := by
  apply List.ext_getElem?
  intro j
  by_cases hj : j < n
  · rw [bl_get? _ hj]; simp [hj]
  · rw [List.getElem?_eq_none (by simp; omega), List.getElem?_eq_none (by rw [bl_len]; omega)]
theorem bl_first (n : Nat) : [AV.bool true] :: List.replicate n [AV.bool false] = bl (n + 1) (fun j => j == 0) := by
  have : [AV.bool true] :: List.replicate n [AV.bool false] = (List.replicate (n + 1) [AV.bool false]).set 0 [.bool true] := by
    simp [List.replicate_succ]
  rw [this, bl_rep, bl_set _ _ (by omega)]
  exact bl_congr fun j _ => by by_cases h : j = 0 <;> simp [h]
theorem bl_set0 (n : Nat) (i : Nat) (h : i < n) (g g' : Nat → Bool) (b : Bool) (e : ∀ j, j < n → (if j = i then b else g j) = g' j) : (bl n g).set i [.bool b] = bl n g' := by
  rw [bl_set g b h]
  exact bl_congr e
theorem l_any (s p : List UInt8) (g : Nat → Bool) (hs : s.length ≤ 100) (ks : List It) : ∀ (m i : Nat) (j : Int) (B : Code), Loop Tryz.f93 2 B → j = (i : Int) → s.length + 1 = i + m →
  RL K (.run 93 0 (.code B :: .lp B (some ([0, 1, 5, 6, 34, 35], [])) 2 :: .blk 2 2 :: ks) [(0, .str s), (1, .str p), (5, .rows (bl (s.length + 1) g)), (6, .own 1 (s.length + 1)), (34, .int .i64 ((s.length + 1 : Nat) : Int)), (35, .int .i64 j)] [.hole, .rows 1 (bl (s.length + 1) fun x => decide (x < i) && runOr g x) true]) =
  R K (.run 93 0 ks [(0, .str s), (1, .str p), (6, .own 1 (s.length + 1))] [.hole, .rows 1 (bl (s.length + 1) (runOr g)) true])
  | 0, i, j, B, hB, hj, hm => by
    subst hj
    have h1 : decide ((i : Int) < ((s.length + 1 : Nat) : Int)) = false := by simp; omega
    have h2 : bl (s.length + 1) (fun x => decide (x < i) && runOr g x) = bl (s.length + 1) (runOr g) := bl_congr fun j hj => by
      have : decide (j < i) = true := by simp; omega
      rw [this, Bool.true_and]
    rw [h2]
    unfold Loop at hB
    simp -implicitDefEqProofs only [↓reduceIte, go_sem, Nat.reduceAdd, Nat.reduceSub, Nat.reduceMul, Nat.reduceBEq, Nat.reduceLeDiff, Nat.reduceLT, Nat.reduceEqDiff, reduceCtorEq, Int.reduceBEq, Int.reduceBNe, Int.reduceLT, Int.reduceLE, Int.reduceAdd, Int.reduceSub, Int.reduceMul, Int.reduceNeg, Int.reduceEq, Int.reduceToNat, Tryz.f93, loopOf] at hB
    subst hB
    rw [RL_eq]
    simp -implicitDefEqProofs only [↓reduceIte, go_sem, Nat.reduceAdd, Nat.reduceSub, Nat.reduceMul, Nat.reduceBEq, Nat.reduceLeDiff, Nat.reduceLT, Nat.reduceEqDiff, reduceCtorEq, Int.reduceBEq, Int.reduceBNe, Int.reduceLT, Int.reduceLE, Int.reduceAdd, Int.reduceSub, Int.reduceMul, Int.reduceNeg, Int.reduceEq, Int.reduceToNat, h1]
    repeat' ((first | refine split_cond (fun hc => ?_) (fun hc => ?_) | refine split_yes (fun hc => ?_) (fun hc => ?_) | refine split_no (fun hc => ?_) (fun hc => ?_)) <;> simp -implicitDefEqProofs only [hc, ↓reduceIte, go_sem, Nat.reduceAdd, Nat.reduceSub, Nat.reduceMul, Nat.reduceBEq, Nat.reduceLeDiff, Nat.reduceLT, Nat.reduceEqDiff, reduceCtorEq, Int.reduceBEq, Int.reduceBNe, Int.reduceLT, Int.reduceLE, Int.reduceAdd, Int.reduceSub, Int.reduceMul, Int.reduceNeg, Int.reduceEq, Int.reduceToNat, h1])
  | m + 1, 0, j, B, hB, hj, hm => by
    subst hj
    have hB' := hB
    have h1 : decide ((0 : Int) < ((s.length + 1 : Nat) : Int)) = true := by rw [decide_eq_true_eq]; omega
    have h2 := bl_at (n := s.length + 1) (i := 0) g (by omega)
    have h3 := bl_at (n := s.length + 1) (i := 0) (fun x => decide (x < 0) && runOr g x) (by omega)
    have h4 := bl_get? (n := s.length + 1) (i := 0) (fun x => decide (x < 0) && runOr g x) (by omega)
    have h5 := bl_set0 (s.length + 1) 0 (by omega) (fun x => decide (x < 0) && runOr g x) (fun x => decide (x < 1) && runOr g x) (g 0) (fun j hj => by
      by_cases e : j = 0
      · subst e; simp [runOr]
      · have e2 : ¬ j < 1 := by omega
        simp [e, e2])
    have h7 : wrapI .i64 1 = 1 := by decide
    have ih := l_any s p g hs ks m 1 1 B hB' rfl (by omega)
    simp only [Int.natCast_zero] at *
    cases hg : g 0
    · rw [hg] at h2 h5
      unfold Loop at hB
      simp -implicitDefEqProofs only [↓reduceIte, go_sem, Nat.reduceAdd, Nat.reduceSub, Nat.reduceMul, Nat.reduceBEq, Nat.reduceLeDiff, Nat.reduceLT, Nat.reduceEqDiff, reduceCtorEq, Int.reduceBEq, Int.reduceBNe, Int.reduceLT, Int.reduceLE, Int.reduceAdd, Int.reduceSub, Int.reduceMul, Int.reduceNeg, Int.reduceEq, Int.reduceToNat, Tryz.f93, loopOf] at hB
      subst hB
      rw [RL_eq]
      simp -implicitDefEqProofs only [↓reduceIte, go_sem, Nat.reduceAdd, Nat.reduceSub, Nat.reduceMul, Nat.reduceBEq, Nat.reduceLeDiff, Nat.reduceLT, Nat.reduceEqDiff, reduceCtorEq, Int.reduceBEq, Int.reduceBNe, Int.reduceLT, Int.reduceLE, Int.reduceAdd, Int.reduceSub, Int.reduceMul, Int.reduceNeg, Int.reduceEq, Int.reduceToNat, h1, h2, h3, h4, h5, h7, bl_len, Int.toNat_zero, splice, ih]
      repeat' ((first | refine split_cond (fun hc => ?_) (fun hc => ?_) | refine split_yes (fun hc => ?_) (fun hc => ?_) | refine split_no (fun hc => ?_) (fun hc => ?_)) <;> simp -implicitDefEqProofs only [hc, ↓reduceIte, go_sem, Nat.reduceAdd, Nat.reduceSub, Nat.reduceMul, Nat.reduceBEq, Nat.reduceLeDiff, Nat.reduceLT, Nat.reduceEqDiff, reduceCtorEq, Int.reduceBEq, Int.reduceBNe, Int.reduceLT, Int.reduceLE, Int.reduceAdd, Int.reduceSub, Int.reduceMul, Int.reduceNeg, Int.reduceEq, Int.reduceToNat, h1, h2, h3, h4, h5, h7, bl_len, Int.toNat_zero, splice, ih])
    · rw [hg] at h2 h5
      unfold Loop at hB
      simp -implicitDefEqProofs only [↓reduceIte, go_sem, Nat.reduceAdd, Nat.reduceSub, Nat.reduceMul, Nat.reduceBEq, Nat.reduceLeDiff, Nat.reduceLT, Nat.reduceEqDiff, reduceCtorEq, Int.reduceBEq, Int.reduceBNe, Int.reduceLT, Int.reduceLE, Int.reduceAdd, Int.reduceSub, Int.reduceMul, Int.reduceNeg, Int.reduceEq, Int.reduceToNat, Tryz.f93, loopOf] at hB
      subst hB
      rw [RL_eq]
      simp -implicitDefEqProofs only [↓reduceIte, go_sem, Nat.reduceAdd, Nat.reduceSub, Nat.reduceMul, Nat.reduceBEq, Nat.reduceLeDiff, Nat.reduceLT, Nat.reduceEqDiff, reduceCtorEq, Int.reduceBEq, Int.reduceBNe, Int.reduceLT, Int.reduceLE, Int.reduceAdd, Int.reduceSub, Int.reduceMul, Int.reduceNeg, Int.reduceEq, Int.reduceToNat, h1, h2, h3, h4, h5, h7, bl_len, Int.toNat_zero, splice, ih]
      repeat' ((first | refine split_cond (fun hc => ?_) (fun hc => ?_) | refine split_yes (fun hc => ?_) (fun hc => ?_) | refine split_no (fun hc => ?_) (fun hc => ?_)) <;> simp -implicitDefEqProofs only [hc, ↓reduceIte, go_sem, Nat.reduceAdd, Nat.reduceSub, Nat.reduceMul, Nat.reduceBEq, Nat.reduceLeDiff, Nat.reduceLT, Nat.reduceEqDiff, reduceCtorEq, Int.reduceBEq, Int.reduceBNe, Int.reduceLT, Int.reduceLE, Int.reduceAdd, Int.reduceSub, Int.reduceMul, Int.reduceNeg, Int.reduceEq, Int.reduceToNat, h1, h2, h3, h4, h5, h7, bl_len, Int.toNat_zero, splice, ih])
  | m + 1, i + 1, j, B, hB, hj, hm => by
    subst hj
    have hB' := hB
    have h1 : decide (((i + 1 : Nat) : Int) < ((s.length + 1 : Nat) : Int)) = true := by simp; omega
    have h2 := bl_at (n := s.length + 1) (i := i + 1) g (by omega)
    have h3 := bl_at (n := s.length + 1) (i := i + 1) (fun x => decide (x < i + 1) && runOr g x) (by omega)
    have h4 := bl_get? (n := s.length + 1) (i := i + 1) (fun x => decide (x < i + 1) && runOr g x) (by omega)
    have h3' := bl_at (n := s.length + 1) (i := i) (fun x => decide (x < i + 1) && runOr g x) (by omega)
    have h4' := bl_get? (n := s.length + 1) (i := i) (fun x => decide (x < i + 1) && runOr g x) (by omega)
    have h5 : ∀ b : Bool, b = (g (i + 1) || runOr g i) → (bl (s.length + 1) (fun x => decide (x < i + 1) && runOr g x)).set (i + 1) [.bool b] = bl (s.length + 1) (fun x => decide (x < i + 1 + 1) && runOr g x) := fun b hb => bl_set0 (s.length + 1) (i + 1) (by omega) (fun x => decide (x < i + 1) && runOr g x) (fun x => decide (x < i + 1 + 1) && runOr g x) b (fun j hj => by
      by_cases e : j = i + 1
      · subst e
        have e1 : decide (i + 1 < i + 1 + 1) = true := by simp
        simp only [if_true, e1, Bool.true_and, runOr]
        exact hb
      · have e2 : decide (j < i + 1 + 1) = decide (j < i + 1) := by rw [decide_eq_decide]; omega
        simp only [e, if_false, e2])
    have h6 : decide ((0 : Int) < ((i + 1 : Nat) : Int)) = true := by rw [decide_eq_true_eq]; omega
    have h7 : wrapI .i64 (((i + 1 : Nat) : Int) + 1) = ((i + 1 + 1 : Nat) : Int) := next_id (i := i + 1) (n := 1000) (by omega) (by omega)
    have h8 : wrapI .i64 (((i + 1 : Nat) : Int) - 1) = ((i : Nat) : Int) := by rw [wrap_id (by omega) (by omega)]; omega
    have h9 : decide (i < i + 1) = true := by simp
    have ih := l_any s p g hs ks m (i + 1 + 1) _ B hB' rfl (by omega)
    simp only [h9, Bool.true_and] at h3' h4'
    cases hg : g (i + 1)
    · rw [hg] at h2
      have h5 := h5 (runOr g i) (by rw [hg, Bool.false_or])
      unfold Loop at hB
      simp -implicitDefEqProofs only [↓reduceIte, go_sem, Nat.reduceAdd, Nat.reduceSub, Nat.reduceMul, Nat.reduceBEq, Nat.reduceLeDiff, Nat.reduceLT, Nat.reduceEqDiff, reduceCtorEq, Int.reduceBEq, Int.reduceBNe, Int.reduceLT, Int.reduceLE, Int.reduceAdd, Int.reduceSub, Int.reduceMul, Int.reduceNeg, Int.reduceEq, Int.reduceToNat, Tryz.f93, loopOf] at hB
      subst hB
      rw [RL_eq]
      simp -implicitDefEqProofs only [↓reduceIte, go_sem, Nat.reduceAdd, Nat.reduceSub, Nat.reduceMul, Nat.reduceBEq, Nat.reduceLeDiff, Nat.reduceLT, Nat.reduceEqDiff, reduceCtorEq, Int.reduceBEq, Int.reduceBNe, Int.reduceLT, Int.reduceLE, Int.reduceAdd, Int.reduceSub, Int.reduceMul, Int.reduceNeg, Int.reduceEq, Int.reduceToNat, h1, h2, h3, h4, h3', h4', h5, h6, h7, h8, bl_len, Int.toNat_natCast, splice, ih]
      repeat' ((first | refine split_cond (fun hc => ?_) (fun hc => ?_) | refine split_yes (fun hc => ?_) (fun hc => ?_) | refine split_no (fun hc => ?_) (fun hc => ?_)) <;> simp -implicitDefEqProofs only [hc, ↓reduceIte, go_sem, Nat.reduceAdd, Nat.reduceSub, Nat.reduceMul, Nat.reduceBEq, Nat.reduceLeDiff, Nat.reduceLT, Nat.reduceEqDiff, reduceCtorEq, Int.reduceBEq, Int.reduceBNe, Int.reduceLT, Int.reduceLE, Int.reduceAdd, Int.reduceSub, Int.reduceMul, Int.reduceNeg, Int.reduceEq, Int.reduceToNat, h1, h2, h3, h4, h3', h4', h5, h6, h7, h8, bl_len, Int.toNat_natCast, splice, ih])
    · rw [hg] at h2
      have h5 := h5 true (by rw [hg, Bool.true_or])
      unfold Loop at hB
      simp -implicitDefEqProofs only [↓reduceIte, go_sem, Nat.reduceAdd, Nat.reduceSub, Nat.reduceMul, Nat.reduceBEq, Nat.reduceLeDiff, Nat.reduceLT, Nat.reduceEqDiff, reduceCtorEq, Int.reduceBEq, Int.reduceBNe, Int.reduceLT, Int.reduceLE, Int.reduceAdd, Int.reduceSub, Int.reduceMul, Int.reduceNeg, Int.reduceEq, Int.reduceToNat, Tryz.f93, loopOf] at hB
      subst hB
      rw [RL_eq]
      simp -implicitDefEqProofs only [↓reduceIte, go_sem, Nat.reduceAdd, Nat.reduceSub, Nat.reduceMul, Nat.reduceBEq, Nat.reduceLeDiff, Nat.reduceLT, Nat.reduceEqDiff, reduceCtorEq, Int.reduceBEq, Int.reduceBNe, Int.reduceLT, Int.reduceLE, Int.reduceAdd, Int.reduceSub, Int.reduceMul, Int.reduceNeg, Int.reduceEq, Int.reduceToNat, h1, h2, h3, h4, h3', h4', h5, h6, h7, h8, bl_len, Int.toNat_natCast, splice, ih]
      repeat' ((first | refine split_cond (fun hc => ?_) (fun hc => ?_) | refine split_yes (fun hc => ?_) (fun hc => ?_) | refine split_no (fun hc => ?_) (fun hc => ?_)) <;> simp -implicitDefEqProofs only [hc, ↓reduceIte, go_sem, Nat.reduceAdd, Nat.reduceSub, Nat.reduceMul, Nat.reduceBEq, Nat.reduceLeDiff, Nat.reduceLT, Nat.reduceEqDiff, reduceCtorEq, Int.reduceBEq, Int.reduceBNe, Int.reduceLT, Int.reduceLE, Int.reduceAdd, Int.reduceSub, Int.reduceMul, Int.reduceNeg, Int.reduceEq, Int.reduceToNat, h1, h2, h3, h4, h3', h4', h5, h6, h7, h8, bl_len, Int.toNat_natCast, splice, ih])
theorem u8_eq (a b : UInt8) : (((a.toNat : Nat) : Int) == ((b.toNat : Nat) : Int)) = (a == b) := by
  rw [Bool.eq_iff_iff]
  simp only [beq_iff_eq]
  exact ⟨fun h => UInt8.toNat.inj (by omega), fun h => by rw [h]⟩
theorem l_lit (s p : List UInt8) (c : UInt8) (any : Bool) (g : Nat → Bool) (hs : s.length ≤ 100) (ks : List It) : ∀ (m i : Nat) (j : Int) (B : Code), Loop Tryz.f93 4 B → j = (i : Int) → s.length = i + m →
  RL K (.run 93 0 (.code B :: .lp B (some ([0, 1, 5, 6, 7, 8, 70, 71], [])) 2 :: .blk 4 2 :: ks) [(0, .str s), (1, .str p), (5, .rows (bl (s.length + 1) g)), (6, .own 1 (s.length + 1)), (7, .int .u8 (c.toNat : Int)), (8, .bool any), (70, .int .i64 (s.length : Int)), (71, .int .i64 j)] [.hole, .rows 1 (bl (s.length + 1) fun x => decide (x < i + 1) && shiftAnd s ⟨c, false, any⟩ g x) true]) =
  R K (.run 93 0 ks [(0, .str s), (1, .str p), (6, .own 1 (s.length + 1))] [.hole, .rows 1 (bl (s.length + 1) (shiftAnd s ⟨c, false, any⟩ g)) true])
  | 0, i, j, B, hB, hj, hm => by
    subst hj
    have h1 : decide ((i : Int) < (s.length : Int)) = false := by simp; omega
    have h2 : bl (s.length + 1) (fun x => decide (x < i + 1) && shiftAnd s ⟨c, false, any⟩ g x) = bl (s.length + 1) (shiftAnd s ⟨c, false, any⟩ g) := bl_congr fun j hj => by
      have : decide (j < i + 1) = true := by simp; omega
      rw [this, Bool.true_and]
    rw [h2]
    unfold Loop at hB
    simp -implicitDefEqProofs only [↓reduceIte, go_sem, Nat.reduceAdd, Nat.reduceSub, Nat.reduceMul, Nat.reduceBEq, Nat.reduceLeDiff, Nat.reduceLT, Nat.reduceEqDiff, reduceCtorEq, Int.reduceBEq, Int.reduceBNe, Int.reduceLT, Int.reduceLE, Int.reduceAdd, Int.reduceSub, Int.reduceMul, Int.reduceNeg, Int.reduceEq, Int.reduceToNat, Tryz.f93, loopOf] at hB
    subst hB
    rw [RL_eq]
    simp -implicitDefEqProofs only [↓reduceIte, go_sem, Nat.reduceAdd, Nat.reduceSub, Nat.reduceMul, Nat.reduceBEq, Nat.reduceLeDiff, Nat.reduceLT, Nat.reduceEqDiff, reduceCtorEq, Int.reduceBEq, Int.reduceBNe, Int.reduceLT, Int.reduceLE, Int.reduceAdd, Int.reduceSub, Int.reduceMul, Int.reduceNeg, Int.reduceEq, Int.reduceToNat, h1]
    repeat' ((first | refine split_cond (fun hc => ?_) (fun hc => ?_) | refine split_yes (fun hc => ?_) (fun hc => ?_) | refine split_no (fun hc => ?_) (fun hc => ?_)) <;> simp -implicitDefEqProofs only [hc, ↓reduceIte, go_sem, Nat.reduceAdd, Nat.reduceSub, Nat.reduceMul, Nat.reduceBEq, Nat.reduceLeDiff, Nat.reduceLT, Nat.reduceEqDiff, reduceCtorEq, Int.reduceBEq, Int.reduceBNe, Int.reduceLT, Int.reduceLE, Int.reduceAdd, Int.reduceSub, Int.reduceMul, Int.reduceNeg, Int.reduceEq, Int.reduceToNat, h1])
  | m + 1, i, j, B, hB, hj, hm => by
    subst hj
    have hB' := hB
    have h1 : decide ((i : Int) < (s.length : Int)) = true := by rw [decide_eq_true_eq]; omega
    obtain ⟨b, hb⟩ := some_at (l := s) (i := i) (by omega)
    have hg := byte_get hb
    have h2 := bl_at (n := s.length + 1) (i := i) g (by omega)
    have h3 := bl_at (n := s.length + 1) (i := i + 1) (fun x => decide (x < i + 1) && shiftAnd s ⟨c, false, any⟩ g x) (by omega)
    have h4 := bl_get? (n := s.length + 1) (i := i + 1) (fun x => decide (x < i + 1) && shiftAnd s ⟨c, false, any⟩ g x) (by omega)
    have h5 : ∀ v : Bool, v = (g i && (any || c == b)) → (bl (s.length + 1) (fun x => decide (x < i + 1) && shiftAnd s ⟨c, false, any⟩ g x)).set (i + 1) [.bool v] = bl (s.length + 1) (fun x => decide (x < i + 1 + 1) && shiftAnd s ⟨c, false, any⟩ g x) := fun v hv => bl_set0 (s.length + 1) (i + 1) (by omega) (fun x => decide (x < i + 1) && shiftAnd s ⟨c, false, any⟩ g x) (fun x => decide (x < i + 1 + 1) && shiftAnd s ⟨c, false, any⟩ g x) v (fun j hj => by
      by_cases e : j = i + 1
      · subst e
        have e1 : decide (i + 1 < i + 1 + 1) = true := by simp
        simp only [if_true, e1, Bool.true_and, shiftAnd, fitAt, hb]
        exact hv
      · have e2 : decide (j < i + 1 + 1) = decide (j < i + 1) := by rw [decide_eq_decide]; omega
        simp only [e, if_false, e2])
    have h7 := next_id (i := i) (n := s.length) (by omega) (by omega)
    have ih := l_lit s p c any g hs ks m (i + 1) _ B hB' rfl (by omega)
    have h8 := u8_eq b c
    cases hgi : g i
    · rw [hgi] at h2
      have h5 := h5 false (by rw [hgi, Bool.false_and])
      unfold Loop at hB
      simp -implicitDefEqProofs only [↓reduceIte, go_sem, Nat.reduceAdd, Nat.reduceSub, Nat.reduceMul, Nat.reduceBEq, Nat.reduceLeDiff, Nat.reduceLT, Nat.reduceEqDiff, reduceCtorEq, Int.reduceBEq, Int.reduceBNe, Int.reduceLT, Int.reduceLE, Int.reduceAdd, Int.reduceSub, Int.reduceMul, Int.reduceNeg, Int.reduceEq, Int.reduceToNat, Tryz.f93, loopOf] at hB
      subst hB
      rw [RL_eq]
      simp -implicitDefEqProofs only [↓reduceIte, go_sem, Nat.reduceAdd, Nat.reduceSub, Nat.reduceMul, Nat.reduceBEq, Nat.reduceLeDiff, Nat.reduceLT, Nat.reduceEqDiff, reduceCtorEq, Int.reduceBEq, Int.reduceBNe, Int.reduceLT, Int.reduceLE, Int.reduceAdd, Int.reduceSub, Int.reduceMul, Int.reduceNeg, Int.reduceEq, Int.reduceToNat, h1, h2, h3, h4, h5, h7, hg, bl_len, Int.toNat_natCast, splice, ih]
      repeat' ((first | refine split_cond (fun hc => ?_) (fun hc => ?_) | refine split_yes (fun hc => ?_) (fun hc => ?_) | refine split_no (fun hc => ?_) (fun hc => ?_)) <;> simp -implicitDefEqProofs only [hc, ↓reduceIte, go_sem, Nat.reduceAdd, Nat.reduceSub, Nat.reduceMul, Nat.reduceBEq, Nat.reduceLeDiff, Nat.reduceLT, Nat.reduceEqDiff, reduceCtorEq, Int.reduceBEq, Int.reduceBNe, Int.reduceLT, Int.reduceLE, Int.reduceAdd, Int.reduceSub, Int.reduceMul, Int.reduceNeg, Int.reduceEq, Int.reduceToNat, h1, h2, h3, h4, h5, h7, hg, bl_len, Int.toNat_natCast, splice, ih])
    · rw [hgi] at h2
      cases any
      · have h5 := h5 (b == c) (by rw [hgi, Bool.true_and, Bool.false_or, Bool.eq_iff_iff, beq_iff_eq, beq_iff_eq]; exact eq_comm)
        unfold Loop at hB
        simp -implicitDefEqProofs only [↓reduceIte, go_sem, Nat.reduceAdd, Nat.reduceSub, Nat.reduceMul, Nat.reduceBEq, Nat.reduceLeDiff, Nat.reduceLT, Nat.reduceEqDiff, reduceCtorEq, Int.reduceBEq, Int.reduceBNe, Int.reduceLT, Int.reduceLE, Int.reduceAdd, Int.reduceSub, Int.reduceMul, Int.reduceNeg, Int.reduceEq, Int.reduceToNat, Tryz.f93, loopOf] at hB
        subst hB
        rw [RL_eq]
        simp -implicitDefEqProofs only [↓reduceIte, go_sem, Nat.reduceAdd, Nat.reduceSub, Nat.reduceMul, Nat.reduceBEq, Nat.reduceLeDiff, Nat.reduceLT, Nat.reduceEqDiff, reduceCtorEq, Int.reduceBEq, Int.reduceBNe, Int.reduceLT, Int.reduceLE, Int.reduceAdd, Int.reduceSub, Int.reduceMul, Int.reduceNeg, Int.reduceEq, Int.reduceToNat, h1, h2, h3, h4, h5, h7, h8, hg, bl_len, Int.toNat_natCast, splice, ih]
        repeat' ((first | refine split_cond (fun hc => ?_) (fun hc => ?_) | refine split_yes (fun hc => ?_) (fun hc => ?_) | refine split_no (fun hc => ?_) (fun hc => ?_)) <;> simp -implicitDefEqProofs only [hc, ↓reduceIte, go_sem, Nat.reduceAdd, Nat.reduceSub, Nat.reduceMul, Nat.reduceBEq, Nat.reduceLeDiff, Nat.reduceLT, Nat.reduceEqDiff, reduceCtorEq, Int.reduceBEq, Int.reduceBNe, Int.reduceLT, Int.reduceLE, Int.reduceAdd, Int.reduceSub, Int.reduceMul, Int.reduceNeg, Int.reduceEq, Int.reduceToNat, h1, h2, h3, h4, h5, h7, h8, hg, bl_len, Int.toNat_natCast, splice, ih])
      · have h5 := h5 true (by rw [hgi, Bool.true_and, Bool.true_or])
        unfold Loop at hB
        simp -implicitDefEqProofs only [↓reduceIte, go_sem, Nat.reduceAdd, Nat.reduceSub, Nat.reduceMul, Nat.reduceBEq, Nat.reduceLeDiff, Nat.reduceLT, Nat.reduceEqDiff, reduceCtorEq, Int.reduceBEq, Int.reduceBNe, Int.reduceLT, Int.reduceLE, Int.reduceAdd, Int.reduceSub, Int.reduceMul, Int.reduceNeg, Int.reduceEq, Int.reduceToNat, Tryz.f93, loopOf] at hB
        subst hB
        rw [RL_eq]
        simp -implicitDefEqProofs only [↓reduceIte, go_sem, Nat.reduceAdd, Nat.reduceSub, Nat.reduceMul, Nat.reduceBEq, Nat.reduceLeDiff, Nat.reduceLT, Nat.reduceEqDiff, reduceCtorEq, Int.reduceBEq, Int.reduceBNe, Int.reduceLT, Int.reduceLE, Int.reduceAdd, Int.reduceSub, Int.reduceMul, Int.reduceNeg, Int.reduceEq, Int.reduceToNat, h1, h2, h3, h4, h5, h7, hg, bl_len, Int.toNat_natCast, splice, ih]
        repeat' ((first | refine split_cond (fun hc => ?_) (fun hc => ?_) | refine split_yes (fun hc => ?_) (fun hc => ?_) | refine split_no (fun hc => ?_) (fun hc => ?_)) <;> simp -implicitDefEqProofs only [hc, ↓reduceIte, go_sem, Nat.reduceAdd, Nat.reduceSub, Nat.reduceMul, Nat.reduceBEq, Nat.reduceLeDiff, Nat.reduceLT, Nat.reduceEqDiff, reduceCtorEq, Int.reduceBEq, Int.reduceBNe, Int.reduceLT, Int.reduceLE, Int.reduceAdd, Int.reduceSub, Int.reduceMul, Int.reduceNeg, Int.reduceEq, Int.reduceToNat, h1, h2, h3, h4, h5, h7, hg, bl_len, Int.toNat_natCast, splice, ih])
def col (s : List UInt8) : List Pc → (Nat → Bool) → Nat → Bool
  | [], g => g
  | p :: r, g => col s r (if p.any = true then runOr g else shiftAnd s p g)
theorem has_col (s : List UInt8) : ∀ (r done : List Pc), has s (done ++ r) (done.length + r.length) = col s r (has s (done ++ r) done.length)
  | [], done => by simp [col]
  | p :: r, done => by
    have ih := has_col s r (done ++ [p])
    simp only [List.append_assoc, List.cons_append, List.nil_append, List.length_append, List.length_cons, List.length_nil, Nat.zero_add] at ih
    simp only [List.length_cons, col]
    rw [show done.length + (r.length + 1) = done.length + 1 + r.length by omega, ih]
    congr 1
    have : (done ++ p :: r)[done.length]? = some p := by simp
    simp only [has, this]
theorem has_all (s : List UInt8) (ps : List Pc) : has s ps ps.length = col s ps (fun i => i == 0) := by
  have := has_col s ps []
  simpa [has] using this
theorem parse_any {c : UInt8} (q : List UInt8) (h : c = 37) : parse (c :: q) = ⟨0, true, false⟩ :: parse q := by
  subst h
  cases q <;> rfl
theorem parse_esc {c : UInt8} (d : UInt8) (q : List UInt8) (h : c = 92) : parse (c :: d :: q) = ⟨d, false, false⟩ :: parse q := by subst h; rfl
theorem parse_lit {c : UInt8} (q : List UInt8) (h : c ≠ 37) (h2 : c ≠ 92 ∨ q = []) : parse (c :: q) = ⟨c, false, c == 95⟩ :: parse q := by
  have e : pieceOf c = ⟨c, false, c == 95⟩ := if_neg h
  cases q with
  | nil => simp [parse, e]
  | cons d r =>
    have : c ≠ 92 := h2.resolve_right (by simp)
    simp [parse, e, this]
theorem u8_lit (c : UInt8) (k : Nat) (hk : k < 256) : (((c.toNat : Nat) : Int) == (k : Int)) = (c == UInt8.ofNat k) := by
  rw [Bool.eq_iff_iff]
  simp only [beq_iff_eq]
  constructor
  · intro h
    refine UInt8.toNat.inj ?_
    rw [UInt8.toNat_ofNat']
    omega
  · rintro rfl
    rw [UInt8.toNat_ofNat']
    omega
theorem l_like (s : List UInt8) (hs : s.length ≤ 100) (ks : List It) : ∀ (m : Nat) (p : List UInt8) (g : Nat → Bool) (B : Code), Loop Tryz.f93 0 B → p.length ≤ m → p.length ≤ 100 →
  RL K (.run 93 0 (.code B :: .lp B (some ([0, 1, 5], [5])) 1 :: .blk 0 1 :: ks) [(0, .str s), (1, .str p), (5, .rows (bl (s.length + 1) g))] [Blk.hole]) =
  R K (.run 93 0 ks [(0, .str s), (5, .rows (bl (s.length + 1) (col s (parse p) g)))] [Blk.hole])
  | m, [], g, B, hB, hm, hp => by
    unfold Loop at hB
    simp -implicitDefEqProofs only [↓reduceIte, go_sem, Nat.reduceAdd, Nat.reduceSub, Nat.reduceMul, Nat.reduceBEq, Nat.reduceLeDiff, Nat.reduceLT, Nat.reduceEqDiff, reduceCtorEq, Int.reduceBEq, Int.reduceBNe, Int.reduceLT, Int.reduceLE, Int.reduceAdd, Int.reduceSub, Int.reduceMul, Int.reduceNeg, Int.reduceEq, Int.reduceToNat, Tryz.f93, loopOf] at hB
    subst hB
    rw [RL_eq]
    simp -implicitDefEqProofs only [↓reduceIte, go_sem, Nat.reduceAdd, Nat.reduceSub, Nat.reduceMul, Nat.reduceBEq, Nat.reduceLeDiff, Nat.reduceLT, Nat.reduceEqDiff, reduceCtorEq, Int.reduceBEq, Int.reduceBNe, Int.reduceLT, Int.reduceLE, Int.reduceAdd, Int.reduceSub, Int.reduceMul, Int.reduceNeg, Int.reduceEq, Int.reduceToNat, parse, col]
    repeat' ((first | refine split_cond (fun hc => ?_) (fun hc => ?_) | refine split_yes (fun hc => ?_) (fun hc => ?_) | refine split_no (fun hc => ?_) (fun hc => ?_)) <;> simp -implicitDefEqProofs only [hc, ↓reduceIte, go_sem, Nat.reduceAdd, Nat.reduceSub, Nat.reduceMul, Nat.reduceBEq, Nat.reduceLeDiff, Nat.reduceLT, Nat.reduceEqDiff, reduceCtorEq, Int.reduceBEq, Int.reduceBNe, Int.reduceLT, Int.reduceLE, Int.reduceAdd, Int.reduceSub, Int.reduceMul, Int.reduceNeg, Int.reduceEq, Int.reduceToNat, parse, col])
  | m + 1, c :: p, g, B, hB, hm, hp => by
    have hB' := hB
    simp only [List.length_cons] at hm hp
    have h1 : wrapI .i64 ((s.length : Int) + 1) = ((s.length + 1 : Nat) : Int) := by rw [wrap_id (by omega) (by omega)]; rfl
    have h2 := fun h => mk_bools h (s.length + 1) (by omega)
    have h3 : decide ((0 : Int) < ((p.length + 1 : Nat) : Int)) = true := by rw [decide_eq_true_eq]; omega
    have h4 : ((1 : Int) ≤ ((p.length + 1 : Nat) : Int)) = True := by simp; omega
    have h5 : List.take (p.length + 1 - 1) (List.drop 1 (c :: p)) = p := by simp
    have h6 : List.take p.length (List.drop 1 (c :: p)) = p := by simp
    have h7 : (1 : Int).toNat = 1 := rfl
    have h8 : (((c.toNat : Nat) : Int) == 37) = (c == 37) := u8_lit c 37 (by omega)
    have h9 : (((c.toNat : Nat) : Int) == 92) = (c == 92) := u8_lit c 92 (by omega)
    have h10 : (((c.toNat : Nat) : Int) == 95) = (c == 95) := u8_lit c 95 (by omega)
    have i1 : bl (s.length + 1) (fun _ => false) = bl (s.length + 1) (fun x => decide (x < 0) && runOr g x) := bl_congr fun j _ => by simp
    by_cases hany : c = 37
    · have ih := l_like s hs ks m p (runOr g) B hB' (by omega) (by omega)
      have hc : (c == 37) = true := by simp [hany]
      rw [parse_any p hany]
      unfold Loop at hB
      simp -implicitDefEqProofs only [↓reduceIte, go_sem, Nat.reduceAdd, Nat.reduceSub, Nat.reduceMul, Nat.reduceBEq, Nat.reduceLeDiff, Nat.reduceLT, Nat.reduceEqDiff, reduceCtorEq, Int.reduceBEq, Int.reduceBNe, Int.reduceLT, Int.reduceLE, Int.reduceAdd, Int.reduceSub, Int.reduceMul, Int.reduceNeg, Int.reduceEq, Int.reduceToNat, Tryz.f93, loopOf] at hB
      subst hB
      rw [RL_eq]
      simp -implicitDefEqProofs only [↓reduceIte, go_sem, Nat.reduceAdd, Nat.reduceSub, Nat.reduceMul, Nat.reduceBEq, Nat.reduceLeDiff, Nat.reduceLT, Nat.reduceEqDiff, reduceCtorEq, Int.reduceBEq, Int.reduceBNe, Int.reduceLT, Int.reduceLE, Int.reduceAdd, Int.reduceSub, Int.reduceMul, Int.reduceNeg, Int.reduceEq, Int.reduceToNat, h1, h2, h3, h4, h5, h6, h7, h8, h9, h10, hc, Nat.add_sub_cancel, List.drop_succ_cons, List.drop_zero, List.take_length, List.length_replicate, at_zero, bl_rep, bl_len]
      repeat' ((first | refine split_cond (fun hc => ?_) (fun hc => ?_) | refine split_yes (fun hc => ?_) (fun hc => ?_) | refine split_no (fun hc => ?_) (fun hc => ?_)) <;> simp -implicitDefEqProofs only [hc, ↓reduceIte, go_sem, Nat.reduceAdd, Nat.reduceSub, Nat.reduceMul, Nat.reduceBEq, Nat.reduceLeDiff, Nat.reduceLT, Nat.reduceEqDiff, reduceCtorEq, Int.reduceBEq, Int.reduceBNe, Int.reduceLT, Int.reduceLE, Int.reduceAdd, Int.reduceSub, Int.reduceMul, Int.reduceNeg, Int.reduceEq, Int.reduceToNat, h1, h2, h3, h4, h5, h6, h7, h8, h9, h10, hc, Nat.add_sub_cancel, List.drop_succ_cons, List.drop_zero, List.take_length, List.length_replicate, at_zero, bl_rep, bl_len])
      rw [i1, l_any s p g hs _ (s.length + 1) 0 0 _ ?_ rfl (by omega)]
      · simp -implicitDefEqProofs only [↓reduceIte, go_sem, Nat.reduceAdd, Nat.reduceSub, Nat.reduceMul, Nat.reduceBEq, Nat.reduceLeDiff, Nat.reduceLT, Nat.reduceEqDiff, reduceCtorEq, Int.reduceBEq, Int.reduceBNe, Int.reduceLT, Int.reduceLE, Int.reduceAdd, Int.reduceSub, Int.reduceMul, Int.reduceNeg, Int.reduceEq, Int.reduceToNat, bl_len, ih, col]
        repeat' ((first | refine split_cond (fun hc => ?_) (fun hc => ?_) | refine split_yes (fun hc => ?_) (fun hc => ?_) | refine split_no (fun hc => ?_) (fun hc => ?_)) <;> simp -implicitDefEqProofs only [hc, ↓reduceIte, go_sem, Nat.reduceAdd, Nat.reduceSub, Nat.reduceMul, Nat.reduceBEq, Nat.reduceLeDiff, Nat.reduceLT, Nat.reduceEqDiff, reduceCtorEq, Int.reduceBEq, Int.reduceBNe, Int.reduceLT, Int.reduceLE, Int.reduceAdd, Int.reduceSub, Int.reduceMul, Int.reduceNeg, Int.reduceEq, Int.reduceToNat, bl_len, ih, col])
      · rfl
    · have hc : (c == 37) = false := by simp [hany]
      have j1 : ∀ P : Pc, bl (s.length + 1) (fun _ => false) = bl (s.length + 1) (fun x => decide (x < 0 + 1) && shiftAnd s P g x) := fun P => bl_congr fun j _ => by
        cases j with
        | zero => simp [shiftAnd]
        | succ j => simp
      by_cases hesc : c = 92
      · have hc2 : (c == 92) = true := by simp [hesc]
        have hc3 : (c == 95) = false := by simp [hesc]
        match p, hm, hp, h3, h4, h5, h6 with
        | [], hm, hp, h3, h4, h5, h6 =>
          have ih := l_like s hs ks m [] (shiftAnd s ⟨c, false, c == 95⟩ g) B hB' (by simp) (by simp)
          rw [parse_lit [] hany (.inr rfl)]
          rw [hc3] at ih ⊢
          unfold Loop at hB
          simp -implicitDefEqProofs only [↓reduceIte, go_sem, Nat.reduceAdd, Nat.reduceSub, Nat.reduceMul, Nat.reduceBEq, Nat.reduceLeDiff, Nat.reduceLT, Nat.reduceEqDiff, reduceCtorEq, Int.reduceBEq, Int.reduceBNe, Int.reduceLT, Int.reduceLE, Int.reduceAdd, Int.reduceSub, Int.reduceMul, Int.reduceNeg, Int.reduceEq, Int.reduceToNat, Tryz.f93, loopOf] at hB
          subst hB
          rw [RL_eq]
          simp -implicitDefEqProofs only [↓reduceIte, go_sem, Nat.reduceAdd, Nat.reduceSub, Nat.reduceMul, Nat.reduceBEq, Nat.reduceLeDiff, Nat.reduceLT, Nat.reduceEqDiff, reduceCtorEq, Int.reduceBEq, Int.reduceBNe, Int.reduceLT, Int.reduceLE, Int.reduceAdd, Int.reduceSub, Int.reduceMul, Int.reduceNeg, Int.reduceEq, Int.reduceToNat, h1, h2, h3, h4, h5, h6, h7, h8, h9, h10, hc, hc2, hc3, Nat.add_sub_cancel, List.drop_succ_cons, List.drop_zero, List.take_length, List.length_replicate, at_zero, bl_rep, bl_len]
          repeat' ((first | refine split_cond (fun hc => ?_) (fun hc => ?_) | refine split_yes (fun hc => ?_) (fun hc => ?_) | refine split_no (fun hc => ?_) (fun hc => ?_)) <;> simp -implicitDefEqProofs only [hc, ↓reduceIte, go_sem, Nat.reduceAdd, Nat.reduceSub, Nat.reduceMul, Nat.reduceBEq, Nat.reduceLeDiff, Nat.reduceLT, Nat.reduceEqDiff, reduceCtorEq, Int.reduceBEq, Int.reduceBNe, Int.reduceLT, Int.reduceLE, Int.reduceAdd, Int.reduceSub, Int.reduceMul, Int.reduceNeg, Int.reduceEq, Int.reduceToNat, h1, h2, h3, h4, h5, h6, h7, h8, h9, h10, hc, hc2, hc3, Nat.add_sub_cancel, List.drop_succ_cons, List.drop_zero, List.take_length, List.length_replicate, at_zero, bl_rep, bl_len])
          rw [j1 ⟨c, false, false⟩, l_lit s [] c false g hs _ s.length 0 0 _ ?_ rfl (by omega)]
          · simp -implicitDefEqProofs only [↓reduceIte, go_sem, Nat.reduceAdd, Nat.reduceSub, Nat.reduceMul, Nat.reduceBEq, Nat.reduceLeDiff, Nat.reduceLT, Nat.reduceEqDiff, reduceCtorEq, Int.reduceBEq, Int.reduceBNe, Int.reduceLT, Int.reduceLE, Int.reduceAdd, Int.reduceSub, Int.reduceMul, Int.reduceNeg, Int.reduceEq, Int.reduceToNat, bl_len, ih, col]
            repeat' ((first | refine split_cond (fun hc => ?_) (fun hc => ?_) | refine split_yes (fun hc => ?_) (fun hc => ?_) | refine split_no (fun hc => ?_) (fun hc => ?_)) <;> simp -implicitDefEqProofs only [hc, ↓reduceIte, go_sem, Nat.reduceAdd, Nat.reduceSub, Nat.reduceMul, Nat.reduceBEq, Nat.reduceLeDiff, Nat.reduceLT, Nat.reduceEqDiff, reduceCtorEq, Int.reduceBEq, Int.reduceBNe, Int.reduceLT, Int.reduceLE, Int.reduceAdd, Int.reduceSub, Int.reduceMul, Int.reduceNeg, Int.reduceEq, Int.reduceToNat, bl_len, ih, col])
          · rfl
        | d :: q, hm, hp, h3, h4, h5, h6 =>
          simp only [List.length_cons] at hm hp
          have ih := l_like s hs ks m q (shiftAnd s ⟨d, false, false⟩ g) B hB' (by omega) (by omega)
          have k3 : decide ((0 : Int) < ((q.length + 1 : Nat) : Int)) = true := by rw [decide_eq_true_eq]; omega
          have k4 : ((1 : Int) ≤ ((q.length + 1 : Nat) : Int)) = True := by simp; omega
          have k3' : decide ((0 : Int) < ((q.length + 1 + 1 : Nat) : Int)) = true := by rw [decide_eq_true_eq]; omega
          have k4' : ((1 : Int) ≤ ((q.length + 1 + 1 : Nat) : Int)) = True := by simp; omega
          have k5 : List.take q.length q = q := List.take_length
          have k6 : List.take (q.length + 1) (d :: q) = d :: q := by simp
          rw [parse_esc d q hesc]
          unfold Loop at hB
          simp -implicitDefEqProofs only [↓reduceIte, go_sem, Nat.reduceAdd, Nat.reduceSub, Nat.reduceMul, Nat.reduceBEq, Nat.reduceLeDiff, Nat.reduceLT, Nat.reduceEqDiff, reduceCtorEq, Int.reduceBEq, Int.reduceBNe, Int.reduceLT, Int.reduceLE, Int.reduceAdd, Int.reduceSub, Int.reduceMul, Int.reduceNeg, Int.reduceEq, Int.reduceToNat, Tryz.f93, loopOf] at hB
          subst hB
          rw [RL_eq]
          simp -implicitDefEqProofs only [↓reduceIte, go_sem, Nat.reduceAdd, Nat.reduceSub, Nat.reduceMul, Nat.reduceBEq, Nat.reduceLeDiff, Nat.reduceLT, Nat.reduceEqDiff, reduceCtorEq, Int.reduceBEq, Int.reduceBNe, Int.reduceLT, Int.reduceLE, Int.reduceAdd, Int.reduceSub, Int.reduceMul, Int.reduceNeg, Int.reduceEq, Int.reduceToNat, h1, h2, h7, h8, h9, h10, hc, hc2, hc3, k3, k4, k3', k4', k5, k6, Nat.add_sub_cancel, List.drop_succ_cons, List.drop_zero, List.take_length, List.length_replicate, at_zero, bl_rep, bl_len]
          repeat' ((first | refine split_cond (fun hc => ?_) (fun hc => ?_) | refine split_yes (fun hc => ?_) (fun hc => ?_) | refine split_no (fun hc => ?_) (fun hc => ?_)) <;> simp -implicitDefEqProofs only [hc, ↓reduceIte, go_sem, Nat.reduceAdd, Nat.reduceSub, Nat.reduceMul, Nat.reduceBEq, Nat.reduceLeDiff, Nat.reduceLT, Nat.reduceEqDiff, reduceCtorEq, Int.reduceBEq, Int.reduceBNe, Int.reduceLT, Int.reduceLE, Int.reduceAdd, Int.reduceSub, Int.reduceMul, Int.reduceNeg, Int.reduceEq, Int.reduceToNat, h1, h2, h7, h8, h9, h10, hc, hc2, hc3, k3, k4, k3', k4', k5, k6, Nat.add_sub_cancel, List.drop_succ_cons, List.drop_zero, List.take_length, List.length_replicate, at_zero, bl_rep, bl_len])
          rw [j1 ⟨d, false, false⟩, l_lit s q d false g hs _ s.length 0 0 _ ?_ rfl (by omega)]
          · simp -implicitDefEqProofs only [↓reduceIte, go_sem, Nat.reduceAdd, Nat.reduceSub, Nat.reduceMul, Nat.reduceBEq, Nat.reduceLeDiff, Nat.reduceLT, Nat.reduceEqDiff, reduceCtorEq, Int.reduceBEq, Int.reduceBNe, Int.reduceLT, Int.reduceLE, Int.reduceAdd, Int.reduceSub, Int.reduceMul, Int.reduceNeg, Int.reduceEq, Int.reduceToNat, bl_len, ih, col]
            repeat' ((first | refine split_cond (fun hc => ?_) (fun hc => ?_) | refine split_yes (fun hc => ?_) (fun hc => ?_) | refine split_no (fun hc => ?_) (fun hc => ?_)) <;> simp -implicitDefEqProofs only [hc, ↓reduceIte, go_sem, Nat.reduceAdd, Nat.reduceSub, Nat.reduceMul, Nat.reduceBEq, Nat.reduceLeDiff, Nat.reduceLT, Nat.reduceEqDiff, reduceCtorEq, Int.reduceBEq, Int.reduceBNe, Int.reduceLT, Int.reduceLE, Int.reduceAdd, Int.reduceSub, Int.reduceMul, Int.reduceNeg, Int.reduceEq, Int.reduceToNat, bl_len, ih, col])
          · rfl
      · have hc2 : (c == 92) = false := by simp [hesc]
        have ih := l_like s hs ks m p (shiftAnd s ⟨c, false, c == 95⟩ g) B hB' (by omega) (by omega)
        rw [parse_lit p hany (.inl hesc)]
        unfold Loop at hB
        simp -implicitDefEqProofs only [↓reduceIte, go_sem, Nat.reduceAdd, Nat.reduceSub, Nat.reduceMul, Nat.reduceBEq, Nat.reduceLeDiff, Nat.reduceLT, Nat.reduceEqDiff, reduceCtorEq, Int.reduceBEq, Int.reduceBNe, Int.reduceLT, Int.reduceLE, Int.reduceAdd, Int.reduceSub, Int.reduceMul, Int.reduceNeg, Int.reduceEq, Int.reduceToNat, Tryz.f93, loopOf] at hB
        subst hB
        rw [RL_eq]
        simp -implicitDefEqProofs only [↓reduceIte, go_sem, Nat.reduceAdd, Nat.reduceSub, Nat.reduceMul, Nat.reduceBEq, Nat.reduceLeDiff, Nat.reduceLT, Nat.reduceEqDiff, reduceCtorEq, Int.reduceBEq, Int.reduceBNe, Int.reduceLT, Int.reduceLE, Int.reduceAdd, Int.reduceSub, Int.reduceMul, Int.reduceNeg, Int.reduceEq, Int.reduceToNat, h1, h2, h3, h4, h5, h6, h7, h8, h9, h10, hc, hc2, Nat.add_sub_cancel, List.drop_succ_cons, List.drop_zero, List.take_length, List.length_replicate, at_zero, bl_rep, bl_len]
        repeat' ((first | refine split_cond (fun hc => ?_) (fun hc => ?_) | refine split_yes (fun hc => ?_) (fun hc => ?_) | refine split_no (fun hc => ?_) (fun hc => ?_)) <;> simp -implicitDefEqProofs only [hc, ↓reduceIte, go_sem, Nat.reduceAdd, Nat.reduceSub, Nat.reduceMul, Nat.reduceBEq, Nat.reduceLeDiff, Nat.reduceLT, Nat.reduceEqDiff, reduceCtorEq, Int.reduceBEq, Int.reduceBNe, Int.reduceLT, Int.reduceLE, Int.reduceAdd, Int.reduceSub, Int.reduceMul, Int.reduceNeg, Int.reduceEq, Int.reduceToNat, h1, h2, h3, h4, h5, h6, h7, h8, h9, h10, hc, hc2, Nat.add_sub_cancel, List.drop_succ_cons, List.drop_zero, List.take_length, List.length_replicate, at_zero, bl_rep, bl_len])
        rw [j1 ⟨c, false, c == 95⟩, l_lit s p c (c == 95) g hs _ s.length 0 0 _ ?_ rfl (by omega)]
        · simp -implicitDefEqProofs only [↓reduceIte, go_sem, Nat.reduceAdd, Nat.reduceSub, Nat.reduceMul, Nat.reduceBEq, Nat.reduceLeDiff, Nat.reduceLT, Nat.reduceEqDiff, reduceCtorEq, Int.reduceBEq, Int.reduceBNe, Int.reduceLT, Int.reduceLE, Int.reduceAdd, Int.reduceSub, Int.reduceMul, Int.reduceNeg, Int.reduceEq, Int.reduceToNat, bl_len, ih, col]
          repeat' ((first | refine split_cond (fun hc => ?_) (fun hc => ?_) | refine split_yes (fun hc => ?_) (fun hc => ?_) | refine split_no (fun hc => ?_) (fun hc => ?_)) <;> simp -implicitDefEqProofs only [hc, ↓reduceIte, go_sem, Nat.reduceAdd, Nat.reduceSub, Nat.reduceMul, Nat.reduceBEq, Nat.reduceLeDiff, Nat.reduceLT, Nat.reduceEqDiff, reduceCtorEq, Int.reduceBEq, Int.reduceBNe, Int.reduceLT, Int.reduceLE, Int.reduceAdd, Int.reduceSub, Int.reduceMul, Int.reduceNeg, Int.reduceEq, Int.reduceToNat, bl_len, ih, col])
        · rfl
def likeS (s p : List UInt8) : Bool := has s (parse p) (parse p).length s.length
theorem c_like (s p : List UInt8) (hs : s.length ≤ 100) (hp : p.length ≤ 100) : R K (.call 93 [.str s, .str p] []) = some (.bool (likeS s p), []) := by
  have h1 : wrapI .i64 ((s.length : Int) + 1) = ((s.length + 1 : Nat) : Int) := by rw [wrap_id (by omega) (by omega)]; rfl
  have h2 := fun h => mk_bools h (s.length + 1) (by omega)
  have h3 := bl_at (n := s.length + 1) (i := s.length) (col s (parse p) fun j => j == 0) (by omega)
  rw [call_93]
  simp -implicitDefEqProofs only [↓reduceIte, go_sem, Nat.reduceAdd, Nat.reduceSub, Nat.reduceMul, Nat.reduceBEq, Nat.reduceLeDiff, Nat.reduceLT, Nat.reduceEqDiff, reduceCtorEq, Int.reduceBEq, Int.reduceBNe, Int.reduceLT, Int.reduceLE, Int.reduceAdd, Int.reduceSub, Int.reduceMul, Int.reduceNeg, Int.reduceEq, Int.reduceToNat, Tryz.f93, h1, h2, List.length_replicate, at_zero, bl_first, bl_len]
  repeat' ((first | refine split_cond (fun hc => ?_) (fun hc => ?_) | refine split_yes (fun hc => ?_) (fun hc => ?_) | refine split_no (fun hc => ?_) (fun hc => ?_)) <;> simp -implicitDefEqProofs only [hc, ↓reduceIte, go_sem, Nat.reduceAdd, Nat.reduceSub, Nat.reduceMul, Nat.reduceBEq, Nat.reduceLeDiff, Nat.reduceLT, Nat.reduceEqDiff, reduceCtorEq, Int.reduceBEq, Int.reduceBNe, Int.reduceLT, Int.reduceLE, Int.reduceAdd, Int.reduceSub, Int.reduceMul, Int.reduceNeg, Int.reduceEq, Int.reduceToNat, h1, h2, List.length_replicate, at_zero, bl_first, bl_len])
  rw [l_like s hs _ p.length p _ _ ?_ (Nat.le_refl _) hp]
  · simp -implicitDefEqProofs only [↓reduceIte, go_sem, Nat.reduceAdd, Nat.reduceSub, Nat.reduceMul, Nat.reduceBEq, Nat.reduceLeDiff, Nat.reduceLT, Nat.reduceEqDiff, reduceCtorEq, Int.reduceBEq, Int.reduceBNe, Int.reduceLT, Int.reduceLE, Int.reduceAdd, Int.reduceSub, Int.reduceMul, Int.reduceNeg, Int.reduceEq, Int.reduceToNat, h3, bl_len]
    repeat' ((first | refine split_cond (fun hc => ?_) (fun hc => ?_) | refine split_yes (fun hc => ?_) (fun hc => ?_) | refine split_no (fun hc => ?_) (fun hc => ?_)) <;> simp -implicitDefEqProofs only [hc, ↓reduceIte, go_sem, Nat.reduceAdd, Nat.reduceSub, Nat.reduceMul, Nat.reduceBEq, Nat.reduceLeDiff, Nat.reduceLT, Nat.reduceEqDiff, reduceCtorEq, Int.reduceBEq, Int.reduceBNe, Int.reduceLT, Int.reduceLE, Int.reduceAdd, Int.reduceSub, Int.reduceMul, Int.reduceNeg, Int.reduceEq, Int.reduceToNat, h3, bl_len])
    rw [likeS, has_all]
  · rfl
def likeV (a b : Val) : Val := if isK 3 a && isK 3 b then boolV (likeS a.s b.s) else null
theorem c_Like (k n : Int) (s : List UInt8) (k' n' : Int) (s' : List UInt8) : R K (.call 39 [V k n s, V k' n' s'] []) = some (enc (likeV ⟨k, n, s⟩ ⟨k', n', s'⟩), []) := by
  by_cases h : isK 3 ⟨k, n, s⟩ = true ∧ isK 3 ⟨k', n', s'⟩ = true
  · have h1 := is3_text h.1
    have h2 := is3_text h.2
    have hl := c_like s s' h1.1 h2.1
    rw [call_39]
    simp -implicitDefEqProofs only [↓reduceIte, go_sem, Nat.reduceAdd, Nat.reduceSub, Nat.reduceMul, Nat.reduceBEq, Nat.reduceLeDiff, Nat.reduceLT, Nat.reduceEqDiff, reduceCtorEq, Int.reduceBEq, Int.reduceBNe, Int.reduceLT, Int.reduceLE, Int.reduceAdd, Int.reduceSub, Int.reduceMul, Int.reduceNeg, Int.reduceEq, Int.reduceToNat, Tryz.f39, c_texts2, h.1, h.2, hl, c_boolean]
    repeat' ((first | refine split_cond (fun hc => ?_) (fun hc => ?_) | refine split_yes (fun hc => ?_) (fun hc => ?_) | refine split_no (fun hc => ?_) (fun hc => ?_)) <;> simp -implicitDefEqProofs only [hc, ↓reduceIte, go_sem, Nat.reduceAdd, Nat.reduceSub, Nat.reduceMul, Nat.reduceBEq, Nat.reduceLeDiff, Nat.reduceLT, Nat.reduceEqDiff, reduceCtorEq, Int.reduceBEq, Int.reduceBNe, Int.reduceLT, Int.reduceLE, Int.reduceAdd, Int.reduceSub, Int.reduceMul, Int.reduceNeg, Int.reduceEq, Int.reduceToNat, c_texts2, h.1, h.2, hl, c_boolean])
    all_goals simp [likeV, h.1, h.2]
  · have h' : (isK 3 ⟨k, n, s⟩ && isK 3 ⟨k', n', s'⟩) = false := by
      rw [Bool.eq_false_iff]
      intro e
      exact h (by simpa using e)
    rw [call_39]
    simp -implicitDefEqProofs only [↓reduceIte, go_sem, Nat.reduceAdd, Nat.reduceSub, Nat.reduceMul, Nat.reduceBEq, Nat.reduceLeDiff, Nat.reduceLT, Nat.reduceEqDiff, reduceCtorEq, Int.reduceBEq, Int.reduceBNe, Int.reduceLT, Int.reduceLE, Int.reduceAdd, Int.reduceSub, Int.reduceMul, Int.reduceNeg, Int.reduceEq, Int.reduceToNat, Tryz.f39, c_texts2, h']
    repeat' ((first | refine split_cond (fun hc => ?_) (fun hc => ?_) | refine split_yes (fun hc => ?_) (fun hc => ?_) | refine split_no (fun hc => ?_) (fun hc => ?_)) <;> simp -implicitDefEqProofs only [hc, ↓reduceIte, go_sem, Nat.reduceAdd, Nat.reduceSub, Nat.reduceMul, Nat.reduceBEq, Nat.reduceLeDiff, Nat.reduceLT, Nat.reduceEqDiff, reduceCtorEq, Int.reduceBEq, Int.reduceBNe, Int.reduceLT, Int.reduceLE, Int.reduceAdd, Int.reduceSub, Int.reduceMul, Int.reduceNeg, Int.reduceEq, Int.reduceToNat, c_texts2, h'])
    have e : likeV ⟨k, n, s⟩ ⟨k', n', s'⟩ = null := by unfold likeV; rw [h']; rfl
    rw [e]
    rfl
def rowP (p : Pc) : List AV := [.int .u8 (p.c.toNat : Int), .bool p.any, .bool p.one]
theorem rowP_snoc (acc : List Pc) (c : UInt8) (a o : Bool) : List.map rowP acc ++ [[.int .u8 (c.toNat : Int), .bool a, .bool o]] = List.map rowP (acc ++ [⟨c, a, o⟩]) := by simp [rowP]
theorem rowP_get {ps : List Pc} {i : Nat} {p : Pc} (h : ps[i]? = some p) : at? (ps.map rowP) (i : Int) = some (rowP p) := at_get (by simp [h])
theorem rowP_get? {ps : List Pc} {i : Nat} {p : Pc} (h : ps[i]? = some p) : (ps.map rowP)[i]? = some (rowP p) := by simp [h]
theorem l_skip (ps : List Pc) (g : Nat → Bool) (hl : ps.length ≤ 1000) (ks : List It) : ∀ (m i : Nat) (j : Int) (B : Code), Loop Tryz.f199 0 B → j = (i : Int) → ps.length = i + m →
  RL K (.run 199 3 (.code B :: .lp B (some ([0, 5, 6, 7], [])) 3 :: .blk 0 3 :: ks) [(0, .own 0 (ps.length + 1)), (5, .own 2 ps.length), (6, .int .i64 ps.length), (7, .int .i64 j)] [.rows 1 (bl (ps.length + 1) fun x => if x < i + 1 then skips ps g x else g x) true, .cells [.own 2 ps.length], .rows 3 (ps.map rowP) false]) =
  R K (.run 199 3 ks [] [.rows 1 (bl (ps.length + 1) (skips ps g)) true, .cells [.own 2 ps.length], .rows 3 (ps.map rowP) false])
  | 0, i, j, B, hB, hj, hm => by
    subst hj
    have h1 : decide ((i : Int) < (ps.length : Int)) = false := by simp; omega
    have h2 : bl (ps.length + 1) (fun x => if x < i + 1 then skips ps g x else g x) = bl (ps.length + 1) (skips ps g) := bl_congr fun j hj => by rw [if_pos (by omega)]
    rw [h2]
    unfold Loop at hB
    simp -implicitDefEqProofs only [↓reduceIte, go_sem, Nat.reduceAdd, Nat.reduceSub, Nat.reduceMul, Nat.reduceBEq, Nat.reduceLeDiff, Nat.reduceLT, Nat.reduceEqDiff, reduceCtorEq, Int.reduceBEq, Int.reduceBNe, Int.reduceLT, Int.reduceLE, Int.reduceAdd, Int.reduceSub, Int.reduceMul, Int.reduceNeg, Int.reduceEq, Int.reduceToNat, Tryz.f199, loopOf] at hB
    subst hB
    rw [RL_eq]
    simp -implicitDefEqProofs only [↓reduceIte, go_sem, Nat.reduceAdd, Nat.reduceSub, Nat.reduceMul, Nat.reduceBEq, Nat.reduceLeDiff, Nat.reduceLT, Nat.reduceEqDiff, reduceCtorEq, Int.reduceBEq, Int.reduceBNe, Int.reduceLT, Int.reduceLE, Int.reduceAdd, Int.reduceSub, Int.reduceMul, Int.reduceNeg, Int.reduceEq, Int.reduceToNat, h1]
    repeat' ((first | refine split_cond (fun hc => ?_) (fun hc => ?_) | refine split_yes (fun hc => ?_) (fun hc => ?_) | refine split_no (fun hc => ?_) (fun hc => ?_)) <;> simp -implicitDefEqProofs only [hc, ↓reduceIte, go_sem, Nat.reduceAdd, Nat.reduceSub, Nat.reduceMul, Nat.reduceBEq, Nat.reduceLeDiff, Nat.reduceLT, Nat.reduceEqDiff, reduceCtorEq, Int.reduceBEq, Int.reduceBNe, Int.reduceLT, Int.reduceLE, Int.reduceAdd, Int.reduceSub, Int.reduceMul, Int.reduceNeg, Int.reduceEq, Int.reduceToNat, h1])
  | m + 1, i, j, B, hB, hj, hm => by
    subst hj
    have hB' := hB
    have h1 : decide ((i : Int) < (ps.length : Int)) = true := by rw [decide_eq_true_eq]; omega
    obtain ⟨p, hp⟩ := some_at (l := ps) (i := i) (by omega)
    have g1 := rowP_get hp
    have g2 := rowP_get? hp
    have ha : anyAt ps i = p.any := by simp [anyAt, hp]
    have h2 : at? (bl (ps.length + 1) fun x => if x < i + 1 then skips ps g x else g x) (i : Int) = some [.bool (skips ps g i)] := by rw [bl_at _ (by omega)]; simp
    have h2' : (bl (ps.length + 1) fun x => if x < i + 1 then skips ps g x else g x)[i]? = some [.bool (skips ps g i)] := by rw [bl_get? _ (by omega)]; simp
    have h3 : at? (bl (ps.length + 1) fun x => if x < i + 1 then skips ps g x else g x) ((i + 1 : Nat) : Int) = some [.bool (g (i + 1))] := by rw [bl_at _ (by omega)]; simp
    have h3' : (bl (ps.length + 1) fun x => if x < i + 1 then skips ps g x else g x)[i + 1]? = some [.bool (g (i + 1))] := by rw [bl_get? _ (by omega)]; simp
    have h5 : ∀ v : Bool, v = (g (i + 1) || (skips ps g i && p.any)) → (bl (ps.length + 1) fun x => if x < i + 1 then skips ps g x else g x).set (i + 1) [.bool v] = bl (ps.length + 1) fun x => if x < i + 1 + 1 then skips ps g x else g x := fun v hv => bl_set0 _ _ (by omega) _ _ _ (fun j hj => by
      by_cases e : j = i + 1
      · subst e
        simp only [if_true, Nat.lt_add_one, skips, ha]
        exact hv
      · by_cases e2 : j < i + 1
        · rw [if_neg e, if_pos e2, if_pos (by omega)]
        · rw [if_neg e, if_neg e2, if_neg (by omega)])
    have h7 := next_id (i := i) (n := ps.length) (by omega) (by omega)
    have ih := l_skip ps g hl ks m (i + 1) _ B hB' rfl (by omega)
    cases hg : g (i + 1)
    · rw [hg] at h3 h3'
      cases hs : skips ps g i
      · rw [hs] at h2 h2'
        have h5 := h5 false (by rw [hg, hs]; simp)
        unfold Loop at hB
        simp -implicitDefEqProofs only [↓reduceIte, go_sem, Nat.reduceAdd, Nat.reduceSub, Nat.reduceMul, Nat.reduceBEq, Nat.reduceLeDiff, Nat.reduceLT, Nat.reduceEqDiff, reduceCtorEq, Int.reduceBEq, Int.reduceBNe, Int.reduceLT, Int.reduceLE, Int.reduceAdd, Int.reduceSub, Int.reduceMul, Int.reduceNeg, Int.reduceEq, Int.reduceToNat, Tryz.f199, loopOf] at hB
        subst hB
        rw [RL_eq]
        simp -implicitDefEqProofs only [↓reduceIte, go_sem, Nat.reduceAdd, Nat.reduceSub, Nat.reduceMul, Nat.reduceBEq, Nat.reduceLeDiff, Nat.reduceLT, Nat.reduceEqDiff, reduceCtorEq, Int.reduceBEq, Int.reduceBNe, Int.reduceLT, Int.reduceLE, Int.reduceAdd, Int.reduceSub, Int.reduceMul, Int.reduceNeg, Int.reduceEq, Int.reduceToNat, h1, g1, g2, rowP, h2, h2', h3, h3', h5, h7, bl_len, List.length_map, Int.toNat_natCast, splice, ih]
        repeat' ((first | refine split_cond (fun hc => ?_) (fun hc => ?_) | refine split_yes (fun hc => ?_) (fun hc => ?_) | refine split_no (fun hc => ?_) (fun hc => ?_)) <;> simp -implicitDefEqProofs only [hc, ↓reduceIte, go_sem, Nat.reduceAdd, Nat.reduceSub, Nat.reduceMul, Nat.reduceBEq, Nat.reduceLeDiff, Nat.reduceLT, Nat.reduceEqDiff, reduceCtorEq, Int.reduceBEq, Int.reduceBNe, Int.reduceLT, Int.reduceLE, Int.reduceAdd, Int.reduceSub, Int.reduceMul, Int.reduceNeg, Int.reduceEq, Int.reduceToNat, h1, g1, g2, rowP, h2, h2', h3, h3', h5, h7, bl_len, List.length_map, Int.toNat_natCast, splice, ih])
      · rw [hs] at h2 h2'
        have h5 := h5 p.any (by rw [hg, hs]; simp)
        unfold Loop at hB
        simp -implicitDefEqProofs only [↓reduceIte, go_sem, Nat.reduceAdd, Nat.reduceSub, Nat.reduceMul, Nat.reduceBEq, Nat.reduceLeDiff, Nat.reduceLT, Nat.reduceEqDiff, reduceCtorEq, Int.reduceBEq, Int.reduceBNe, Int.reduceLT, Int.reduceLE, Int.reduceAdd, Int.reduceSub, Int.reduceMul, Int.reduceNeg, Int.reduceEq, Int.reduceToNat, Tryz.f199, loopOf] at hB
        subst hB
        rw [RL_eq]
        simp -implicitDefEqProofs only [↓reduceIte, go_sem, Nat.reduceAdd, Nat.reduceSub, Nat.reduceMul, Nat.reduceBEq, Nat.reduceLeDiff, Nat.reduceLT, Nat.reduceEqDiff, reduceCtorEq, Int.reduceBEq, Int.reduceBNe, Int.reduceLT, Int.reduceLE, Int.reduceAdd, Int.reduceSub, Int.reduceMul, Int.reduceNeg, Int.reduceEq, Int.reduceToNat, h1, g1, g2, rowP, h2, h2', h3, h3', h5, h7, bl_len, List.length_map, Int.toNat_natCast, splice, ih]
        repeat' ((first | refine split_cond (fun hc => ?_) (fun hc => ?_) | refine split_yes (fun hc => ?_) (fun hc => ?_) | refine split_no (fun hc => ?_) (fun hc => ?_)) <;> simp -implicitDefEqProofs only [hc, ↓reduceIte, go_sem, Nat.reduceAdd, Nat.reduceSub, Nat.reduceMul, Nat.reduceBEq, Nat.reduceLeDiff, Nat.reduceLT, Nat.reduceEqDiff, reduceCtorEq, Int.reduceBEq, Int.reduceBNe, Int.reduceLT, Int.reduceLE, Int.reduceAdd, Int.reduceSub, Int.reduceMul, Int.reduceNeg, Int.reduceEq, Int.reduceToNat, h1, g1, g2, rowP, h2, h2', h3, h3', h5, h7, bl_len, List.length_map, Int.toNat_natCast, splice, ih])
    · rw [hg] at h3 h3'
      have h5 := h5 true (by rw [hg]; simp)
      unfold Loop at hB
      simp -implicitDefEqProofs only [↓reduceIte, go_sem, Nat.reduceAdd, Nat.reduceSub, Nat.reduceMul, Nat.reduceBEq, Nat.reduceLeDiff, Nat.reduceLT, Nat.reduceEqDiff, reduceCtorEq, Int.reduceBEq, Int.reduceBNe, Int.reduceLT, Int.reduceLE, Int.reduceAdd, Int.reduceSub, Int.reduceMul, Int.reduceNeg, Int.reduceEq, Int.reduceToNat, Tryz.f199, loopOf] at hB
      subst hB
      rw [RL_eq]
      simp -implicitDefEqProofs only [↓reduceIte, go_sem, Nat.reduceAdd, Nat.reduceSub, Nat.reduceMul, Nat.reduceBEq, Nat.reduceLeDiff, Nat.reduceLT, Nat.reduceEqDiff, reduceCtorEq, Int.reduceBEq, Int.reduceBNe, Int.reduceLT, Int.reduceLE, Int.reduceAdd, Int.reduceSub, Int.reduceMul, Int.reduceNeg, Int.reduceEq, Int.reduceToNat, h1, g1, g2, rowP, h2, h2', h3, h3', h5, h7, bl_len, List.length_map, Int.toNat_natCast, splice, ih]
      repeat' ((first | refine split_cond (fun hc => ?_) (fun hc => ?_) | refine split_yes (fun hc => ?_) (fun hc => ?_) | refine split_no (fun hc => ?_) (fun hc => ?_)) <;> simp -implicitDefEqProofs only [hc, ↓reduceIte, go_sem, Nat.reduceAdd, Nat.reduceSub, Nat.reduceMul, Nat.reduceBEq, Nat.reduceLeDiff, Nat.reduceLT, Nat.reduceEqDiff, reduceCtorEq, Int.reduceBEq, Int.reduceBNe, Int.reduceLT, Int.reduceLE, Int.reduceAdd, Int.reduceSub, Int.reduceMul, Int.reduceNeg, Int.reduceEq, Int.reduceToNat, h1, g1, g2, rowP, h2, h2', h3, h3', h5, h7, bl_len, List.length_map, Int.toNat_natCast, splice, ih])
theorem r_skip (ps : List Pc) (g : Nat → Bool) (hl : ps.length ≤ 1000) : R K (.call 199 [.own 0 (ps.length + 1), .ptr 1 0] [.rows 1 (bl (ps.length + 1) g) true, .cells [.own 2 ps.length], .rows 3 (ps.map rowP) false]) =
   some (.tup [], [.rows 1 (bl (ps.length + 1) (skips ps g)) true, .cells [.own 2 ps.length], .rows 3 (ps.map rowP) false]) := by
  have i1 : bl (ps.length + 1) g = bl (ps.length + 1) fun x => if x < 0 + 1 then skips ps g x else g x := bl_congr fun j _ => by
    cases j with
    | zero => simp [skips]
    | succ j => simp
  rw [call_199]
  simp -implicitDefEqProofs only [↓reduceIte, go_sem, Nat.reduceAdd, Nat.reduceSub, Nat.reduceMul, Nat.reduceBEq, Nat.reduceLeDiff, Nat.reduceLT, Nat.reduceEqDiff, reduceCtorEq, Int.reduceBEq, Int.reduceBNe, Int.reduceLT, Int.reduceLE, Int.reduceAdd, Int.reduceSub, Int.reduceMul, Int.reduceNeg, Int.reduceEq, Int.reduceToNat, Tryz.f199]
  repeat' ((first | refine split_cond (fun hc => ?_) (fun hc => ?_) | refine split_yes (fun hc => ?_) (fun hc => ?_) | refine split_no (fun hc => ?_) (fun hc => ?_)) <;> simp -implicitDefEqProofs only [hc, ↓reduceIte, go_sem, Nat.reduceAdd, Nat.reduceSub, Nat.reduceMul, Nat.reduceBEq, Nat.reduceLeDiff, Nat.reduceLT, Nat.reduceEqDiff, reduceCtorEq, Int.reduceBEq, Int.reduceBNe, Int.reduceLT, Int.reduceLE, Int.reduceAdd, Int.reduceSub, Int.reduceMul, Int.reduceNeg, Int.reduceEq, Int.reduceToNat])
  rw [i1, l_skip ps g hl _ ps.length 0 0 _ ?_ rfl (by omega)]
  · simp -implicitDefEqProofs only [↓reduceIte, go_sem, Nat.reduceAdd, Nat.reduceSub, Nat.reduceMul, Nat.reduceBEq, Nat.reduceLeDiff, Nat.reduceLT, Nat.reduceEqDiff, reduceCtorEq, Int.reduceBEq, Int.reduceBNe, Int.reduceLT, Int.reduceLE, Int.reduceAdd, Int.reduceSub, Int.reduceMul, Int.reduceNeg, Int.reduceEq, Int.reduceToNat]
    repeat' ((first | refine split_cond (fun hc => ?_) (fun hc => ?_) | refine split_yes (fun hc => ?_) (fun hc => ?_) | refine split_no (fun hc => ?_) (fun hc => ?_)) <;> simp -implicitDefEqProofs only [hc, ↓reduceIte, go_sem, Nat.reduceAdd, Nat.reduceSub, Nat.reduceMul, Nat.reduceBEq, Nat.reduceLeDiff, Nat.reduceLT, Nat.reduceEqDiff, reduceCtorEq, Int.reduceBEq, Int.reduceBNe, Int.reduceLT, Int.reduceLE, Int.reduceAdd, Int.reduceSub, Int.reduceMul, Int.reduceNeg, Int.reduceEq, Int.reduceToNat])
  · rfl
theorem l_parse (s pat : List UInt8) (hp : pat.length ≤ 100) (ks : List It) : ∀ (m i : Nat) (j : Int) (acc : List Pc) (B : Code), Loop Tryz.f135 0 B → j = (i : Int) → pat.length ≤ i + m → i ≤ pat.length → acc.length ≤ i →
  RL K (.run 135 0 (.code B :: .lp B (some ([0, 1, 5, 6], [])) 2 :: .blk 0 2 :: ks) [(0, .str s), (1, .str pat), (5, .ptr 0 0), (6, .int .i64 j)] [.cells [.own 1 acc.length], .rows 3 (acc.map rowP) false]) =
  R K (.run 135 0 ks [(0, .str s), (5, .ptr 0 0)] [.cells [.own 1 (acc ++ parse (pat.drop i)).length], .rows 3 ((acc ++ parse (pat.drop i)).map rowP) false])
  | 0, i, j, acc, B, hB, hj, hm, hi, ha => by
    subst hj
    have h1 : decide ((i : Int) < (pat.length : Int)) = false := by simp; omega
    rw [List.drop_of_length_le (by omega)]
    unfold Loop at hB
    simp -implicitDefEqProofs only [↓reduceIte, go_sem, Nat.reduceAdd, Nat.reduceSub, Nat.reduceMul, Nat.reduceBEq, Nat.reduceLeDiff, Nat.reduceLT, Nat.reduceEqDiff, reduceCtorEq, Int.reduceBEq, Int.reduceBNe, Int.reduceLT, Int.reduceLE, Int.reduceAdd, Int.reduceSub, Int.reduceMul, Int.reduceNeg, Int.reduceEq, Int.reduceToNat, Tryz.f135, loopOf] at hB
    subst hB
    rw [RL_eq]
    simp -implicitDefEqProofs only [↓reduceIte, go_sem, Nat.reduceAdd, Nat.reduceSub, Nat.reduceMul, Nat.reduceBEq, Nat.reduceLeDiff, Nat.reduceLT, Nat.reduceEqDiff, reduceCtorEq, Int.reduceBEq, Int.reduceBNe, Int.reduceLT, Int.reduceLE, Int.reduceAdd, Int.reduceSub, Int.reduceMul, Int.reduceNeg, Int.reduceEq, Int.reduceToNat, h1, parse, List.append_nil]
    repeat' ((first | refine split_cond (fun hc => ?_) (fun hc => ?_) | refine split_yes (fun hc => ?_) (fun hc => ?_) | refine split_no (fun hc => ?_) (fun hc => ?_)) <;> simp -implicitDefEqProofs only [hc, ↓reduceIte, go_sem, Nat.reduceAdd, Nat.reduceSub, Nat.reduceMul, Nat.reduceBEq, Nat.reduceLeDiff, Nat.reduceLT, Nat.reduceEqDiff, reduceCtorEq, Int.reduceBEq, Int.reduceBNe, Int.reduceLT, Int.reduceLE, Int.reduceAdd, Int.reduceSub, Int.reduceMul, Int.reduceNeg, Int.reduceEq, Int.reduceToNat, h1, parse, List.append_nil])
  | m + 1, i, j, acc, B, hB, hj, hm, hi, ha => by
    subst hj
    have hB' := hB
    by_cases hlt : i < pat.length
    · obtain ⟨c, hc⟩ := some_at (l := pat) (i := i) hlt
      have h1 : decide ((i : Int) < (pat.length : Int)) = true := by rw [decide_eq_true_eq]; omega
      have g1 := byte_get hc
      have h7 := next_id (i := i) (n := pat.length) (by omega) (by omega)
      have h8 : (((c.toNat : Nat) : Int) == 37) = (c == 37) := u8_lit c 37 (by omega)
      have h9 : (((c.toNat : Nat) : Int) == 92) = (c == 92) := u8_lit c 92 (by omega)
      have h10 : (((c.toNat : Nat) : Int) == 95) = (c == 95) := u8_lit c 95 (by omega)
      have hr : ∀ k : Nat, k ≤ 10 → (((acc.length + 1) * k ≤ roomMax)) = True := fun k hk => by
        have : (acc.length + 1) * k ≤ 101 * 10 := Nat.mul_le_mul (by omega) hk
        unfold roomMax
        simp; omega
      rw [drop_get hc]
      by_cases hesc : c = 92
      · have hc1 : (c == 92) = true := by simp [hesc]
        have hc2 : (c == 37) = false := by simp [hesc]
        have hc3 : (c == 95) = false := by simp [hesc]
        by_cases hl2 : i + 1 < pat.length
        · obtain ⟨d, hd⟩ := some_at (l := pat) (i := i + 1) hl2
          have g2 := byte_get hd
          have h1' : decide (((i + 1 : Nat) : Int) < (pat.length : Int)) = true := by rw [decide_eq_true_eq]; omega
          have h7' := next_id (i := i + 1) (n := pat.length) (by omega) (by omega)
          rw [drop_get hd, parse_esc d _ hesc]
          have ih := l_parse s pat hp ks m (i + 1 + 1) _ (acc ++ [⟨d, false, false⟩]) B hB' rfl (by omega) (by omega) (by simp; omega)
          have e : acc ++ [⟨d, false, false⟩] ++ parse (pat.drop (i + 1 + 1)) = acc ++ ⟨d, false, false⟩ :: parse (pat.drop (i + 1 + 1)) := by simp
          rw [e, List.length_append, List.length_cons, List.length_nil, Nat.zero_add] at ih
          unfold Loop at hB
          simp -implicitDefEqProofs only [↓reduceIte, go_sem, Nat.reduceAdd, Nat.reduceSub, Nat.reduceMul, Nat.reduceBEq, Nat.reduceLeDiff, Nat.reduceLT, Nat.reduceEqDiff, reduceCtorEq, Int.reduceBEq, Int.reduceBNe, Int.reduceLT, Int.reduceLE, Int.reduceAdd, Int.reduceSub, Int.reduceMul, Int.reduceNeg, Int.reduceEq, Int.reduceToNat, Tryz.f135, loopOf] at hB
          subst hB
          rw [RL_eq]
          simp -implicitDefEqProofs only [↓reduceIte, go_sem, Nat.reduceAdd, Nat.reduceSub, Nat.reduceMul, Nat.reduceBEq, Nat.reduceLeDiff, Nat.reduceLT, Nat.reduceEqDiff, reduceCtorEq, Int.reduceBEq, Int.reduceBNe, Int.reduceLT, Int.reduceLE, Int.reduceAdd, Int.reduceSub, Int.reduceMul, Int.reduceNeg, Int.reduceEq, Int.reduceToNat, h1, h1', g1, g2, h7, h7', h8, h9, h10, hc1, hc2, hc3, hr, List.length_map, rowP_snoc, ih]
          repeat' ((first | refine split_cond (fun hc => ?_) (fun hc => ?_) | refine split_yes (fun hc => ?_) (fun hc => ?_) | refine split_no (fun hc => ?_) (fun hc => ?_)) <;> simp -implicitDefEqProofs only [hc, ↓reduceIte, go_sem, Nat.reduceAdd, Nat.reduceSub, Nat.reduceMul, Nat.reduceBEq, Nat.reduceLeDiff, Nat.reduceLT, Nat.reduceEqDiff, reduceCtorEq, Int.reduceBEq, Int.reduceBNe, Int.reduceLT, Int.reduceLE, Int.reduceAdd, Int.reduceSub, Int.reduceMul, Int.reduceNeg, Int.reduceEq, Int.reduceToNat, h1, h1', g1, g2, h7, h7', h8, h9, h10, hc1, hc2, hc3, hr, List.length_map, rowP_snoc, ih])
        · have h1' : decide (((i + 1 : Nat) : Int) < (pat.length : Int)) = false := by simp; omega
          rw [List.drop_of_length_le (by omega), parse_lit [] (by simp [hesc]) (.inr rfl), hc3]
          have ih := l_parse s pat hp ks m (i + 1) _ (acc ++ [⟨c, false, false⟩]) B hB' rfl (by omega) (by omega) (by simp; omega)
          have e : acc ++ [⟨c, false, false⟩] ++ parse (pat.drop (i + 1)) = acc ++ ⟨c, false, false⟩ :: parse [] := by rw [List.drop_of_length_le (by omega)]; simp
          rw [e, List.length_append, List.length_cons, List.length_nil, Nat.zero_add] at ih
          unfold Loop at hB
          simp -implicitDefEqProofs only [↓reduceIte, go_sem, Nat.reduceAdd, Nat.reduceSub, Nat.reduceMul, Nat.reduceBEq, Nat.reduceLeDiff, Nat.reduceLT, Nat.reduceEqDiff, reduceCtorEq, Int.reduceBEq, Int.reduceBNe, Int.reduceLT, Int.reduceLE, Int.reduceAdd, Int.reduceSub, Int.reduceMul, Int.reduceNeg, Int.reduceEq, Int.reduceToNat, Tryz.f135, loopOf] at hB
          subst hB
          rw [RL_eq]
          simp -implicitDefEqProofs only [↓reduceIte, go_sem, Nat.reduceAdd, Nat.reduceSub, Nat.reduceMul, Nat.reduceBEq, Nat.reduceLeDiff, Nat.reduceLT, Nat.reduceEqDiff, reduceCtorEq, Int.reduceBEq, Int.reduceBNe, Int.reduceLT, Int.reduceLE, Int.reduceAdd, Int.reduceSub, Int.reduceMul, Int.reduceNeg, Int.reduceEq, Int.reduceToNat, h1, h1', g1, h7, h8, h9, h10, hc1, hc2, hc3, hr, List.length_map, rowP_snoc, ih]
          repeat' ((first | refine split_cond (fun hc => ?_) (fun hc => ?_) | refine split_yes (fun hc => ?_) (fun hc => ?_) | refine split_no (fun hc => ?_) (fun hc => ?_)) <;> simp -implicitDefEqProofs only [hc, ↓reduceIte, go_sem, Nat.reduceAdd, Nat.reduceSub, Nat.reduceMul, Nat.reduceBEq, Nat.reduceLeDiff, Nat.reduceLT, Nat.reduceEqDiff, reduceCtorEq, Int.reduceBEq, Int.reduceBNe, Int.reduceLT, Int.reduceLE, Int.reduceAdd, Int.reduceSub, Int.reduceMul, Int.reduceNeg, Int.reduceEq, Int.reduceToNat, h1, h1', g1, h7, h8, h9, h10, hc1, hc2, hc3, hr, List.length_map, rowP_snoc, ih])
      · have hc1 : (c == 92) = false := by simp [hesc]
        by_cases hany : c = 37
        · have hc2 : (c == 37) = true := by simp [hany]
          rw [parse_any _ hany]
          have ih := l_parse s pat hp ks m (i + 1) _ (acc ++ [⟨0, true, false⟩]) B hB' rfl (by omega) (by omega) (by simp; omega)
          have e : acc ++ [⟨0, true, false⟩] ++ parse (pat.drop (i + 1)) = acc ++ ⟨0, true, false⟩ :: parse (pat.drop (i + 1)) := by simp
          rw [e, List.length_append, List.length_cons, List.length_nil, Nat.zero_add] at ih
          have h0 := rowP_snoc acc 0 true false
          simp only [show (((0 : UInt8).toNat : Nat) : Int) = 0 from rfl] at h0
          unfold Loop at hB
          simp -implicitDefEqProofs only [↓reduceIte, go_sem, Nat.reduceAdd, Nat.reduceSub, Nat.reduceMul, Nat.reduceBEq, Nat.reduceLeDiff, Nat.reduceLT, Nat.reduceEqDiff, reduceCtorEq, Int.reduceBEq, Int.reduceBNe, Int.reduceLT, Int.reduceLE, Int.reduceAdd, Int.reduceSub, Int.reduceMul, Int.reduceNeg, Int.reduceEq, Int.reduceToNat, Tryz.f135, loopOf] at hB
          subst hB
          rw [RL_eq]
          simp -implicitDefEqProofs only [↓reduceIte, go_sem, Nat.reduceAdd, Nat.reduceSub, Nat.reduceMul, Nat.reduceBEq, Nat.reduceLeDiff, Nat.reduceLT, Nat.reduceEqDiff, reduceCtorEq, Int.reduceBEq, Int.reduceBNe, Int.reduceLT, Int.reduceLE, Int.reduceAdd, Int.reduceSub, Int.reduceMul, Int.reduceNeg, Int.reduceEq, Int.reduceToNat, h1, g1, h7, h8, h9, h10, hc1, hc2, hr, List.length_map, h0, ih]
          repeat' ((first | refine split_cond (fun hc => ?_) (fun hc => ?_) | refine split_yes (fun hc => ?_) (fun hc => ?_) | refine split_no (fun hc => ?_) (fun hc => ?_)) <;> simp -implicitDefEqProofs only [hc, ↓reduceIte, go_sem, Nat.reduceAdd, Nat.reduceSub, Nat.reduceMul, Nat.reduceBEq, Nat.reduceLeDiff, Nat.reduceLT, Nat.reduceEqDiff, reduceCtorEq, Int.reduceBEq, Int.reduceBNe, Int.reduceLT, Int.reduceLE, Int.reduceAdd, Int.reduceSub, Int.reduceMul, Int.reduceNeg, Int.reduceEq, Int.reduceToNat, h1, g1, h7, h8, h9, h10, hc1, hc2, hr, List.length_map, h0, ih])
        · have hc2 : (c == 37) = false := by simp [hany]
          rw [parse_lit _ hany (.inl hesc)]
          have ih := l_parse s pat hp ks m (i + 1) _ (acc ++ [⟨c, false, c == 95⟩]) B hB' rfl (by omega) (by omega) (by simp; omega)
          have e : acc ++ [⟨c, false, c == 95⟩] ++ parse (pat.drop (i + 1)) = acc ++ ⟨c, false, c == 95⟩ :: parse (pat.drop (i + 1)) := by simp
          rw [e, List.length_append, List.length_cons, List.length_nil, Nat.zero_add] at ih
          unfold Loop at hB
          simp -implicitDefEqProofs only [↓reduceIte, go_sem, Nat.reduceAdd, Nat.reduceSub, Nat.reduceMul, Nat.reduceBEq, Nat.reduceLeDiff, Nat.reduceLT, Nat.reduceEqDiff, reduceCtorEq, Int.reduceBEq, Int.reduceBNe, Int.reduceLT, Int.reduceLE, Int.reduceAdd, Int.reduceSub, Int.reduceMul, Int.reduceNeg, Int.reduceEq, Int.reduceToNat, Tryz.f135, loopOf] at hB
          subst hB
          rw [RL_eq]
          simp -implicitDefEqProofs only [↓reduceIte, go_sem, Nat.reduceAdd, Nat.reduceSub, Nat.reduceMul, Nat.reduceBEq, Nat.reduceLeDiff, Nat.reduceLT, Nat.reduceEqDiff, reduceCtorEq, Int.reduceBEq, Int.reduceBNe, Int.reduceLT, Int.reduceLE, Int.reduceAdd, Int.reduceSub, Int.reduceMul, Int.reduceNeg, Int.reduceEq, Int.reduceToNat, h1, g1, h7, h8, h9, h10, hc1, hc2, hr, List.length_map, rowP_snoc, ih]
          repeat' ((first | refine split_cond (fun hc => ?_) (fun hc => ?_) | refine split_yes (fun hc => ?_) (fun hc => ?_) | refine split_no (fun hc => ?_) (fun hc => ?_)) <;> simp -implicitDefEqProofs only [hc, ↓reduceIte, go_sem, Nat.reduceAdd, Nat.reduceSub, Nat.reduceMul, Nat.reduceBEq, Nat.reduceLeDiff, Nat.reduceLT, Nat.reduceEqDiff, reduceCtorEq, Int.reduceBEq, Int.reduceBNe, Int.reduceLT, Int.reduceLE, Int.reduceAdd, Int.reduceSub, Int.reduceMul, Int.reduceNeg, Int.reduceEq, Int.reduceToNat, h1, g1, h7, h8, h9, h10, hc1, hc2, hr, List.length_map, rowP_snoc, ih])
    · have h1 : decide ((i : Int) < (pat.length : Int)) = false := by simp; omega
      rw [List.drop_of_length_le (by omega)]
      unfold Loop at hB
      simp -implicitDefEqProofs only [↓reduceIte, go_sem, Nat.reduceAdd, Nat.reduceSub, Nat.reduceMul, Nat.reduceBEq, Nat.reduceLeDiff, Nat.reduceLT, Nat.reduceEqDiff, reduceCtorEq, Int.reduceBEq, Int.reduceBNe, Int.reduceLT, Int.reduceLE, Int.reduceAdd, Int.reduceSub, Int.reduceMul, Int.reduceNeg, Int.reduceEq, Int.reduceToNat, Tryz.f135, loopOf] at hB
      subst hB
      rw [RL_eq]
      simp -implicitDefEqProofs only [↓reduceIte, go_sem, Nat.reduceAdd, Nat.reduceSub, Nat.reduceMul, Nat.reduceBEq, Nat.reduceLeDiff, Nat.reduceLT, Nat.reduceEqDiff, reduceCtorEq, Int.reduceBEq, Int.reduceBNe, Int.reduceLT, Int.reduceLE, Int.reduceAdd, Int.reduceSub, Int.reduceMul, Int.reduceNeg, Int.reduceEq, Int.reduceToNat, h1, parse, List.append_nil]
      repeat' ((first | refine split_cond (fun hc => ?_) (fun hc => ?_) | refine split_yes (fun hc => ?_) (fun hc => ?_) | refine split_no (fun hc => ?_) (fun hc => ?_)) <;> simp -implicitDefEqProofs only [hc, ↓reduceIte, go_sem, Nat.reduceAdd, Nat.reduceSub, Nat.reduceMul, Nat.reduceBEq, Nat.reduceLeDiff, Nat.reduceLT, Nat.reduceEqDiff, reduceCtorEq, Int.reduceBEq, Int.reduceBNe, Int.reduceLT, Int.reduceLE, Int.reduceAdd, Int.reduceSub, Int.reduceMul, Int.reduceNeg, Int.reduceEq, Int.reduceToNat, h1, parse, List.append_nil])
attribute [go_sem] callIn conv convL reach posOf sub renB renL ren back afterIn outer List.contains_cons List.contains_nil List.map_cons List.map_nil
@[go_sem] theorem size_none {α : Type} : (#[] : Array α).size = 0 := rfl
def partAt (s : List UInt8) (ps : List Pc) (i : Nat) (f : Nat → Bool) : Nat → Bool
  | 0 => false
  | k + 1 => f k && litAt s ps i k
theorem row_part (s : List UInt8) (ps : List Pc) (i : Nat) (f : Nat → Bool) (k : Nat) : rowNext s ps i f k = ((f k && anyAt ps k) || partAt s ps i f k) := by
  cases k with
  | zero => simp [rowNext, partAt]
  | succ k => simp [rowNext, partAt]
def mid (s : List UInt8) (ps : List Pc) (i : Nat) (f : Nat → Bool) (k x : Nat) : Bool := if x < k then rowNext s ps i f x else if x = k then partAt s ps i f k else false
theorem mid_lt {s : List UInt8} {ps : List Pc} {i : Nat} {f : Nat → Bool} {k x : Nat} (h : x < k) : mid s ps i f k x = rowNext s ps i f x := if_pos h
theorem mid_eq {s : List UInt8} {ps : List Pc} {i : Nat} {f : Nat → Bool} {k : Nat} : mid s ps i f k k = partAt s ps i f k := by unfold mid; rw [if_neg (by omega), if_pos rfl]
theorem mid_gt {s : List UInt8} {ps : List Pc} {i : Nat} {f : Nat → Bool} {k x : Nat} (h : k < x) : mid s ps i f k x = false := by unfold mid; rw [if_neg (by omega), if_neg (by omega)]
theorem lit_eq {s : List UInt8} {ps : List Pc} {i k : Nat} {p : Pc} {b : UInt8} (hp : ps[k]? = some p) (hb : s[i]? = some b) : litAt s ps i k = (!p.any && (p.one || p.c == b)) := by simp [litAt, fitAt, hp, hb]
theorem any_eq {ps : List Pc} {k : Nat} {p : Pc} (hp : ps[k]? = some p) : anyAt ps k = p.any := by simp [anyAt, hp]
theorem l_row (s : List UInt8) (ps : List Pc) (f : Nat → Bool) (i : Nat) (b : UInt8) (hb : s[i]? = some b) (hl : ps.length ≤ 1000) (ks : List It) : ∀ (m k : Nat) (j : Int) (B : Code), Loop Tryz.f135 5 B → j = (k : Int) → ps.length = k + m →
  RL K (.run 135 0 (.code B :: .lp B (some ([0, 5, 8, 9, 10, 11, 76, 77, 78], [])) 4 :: .blk 5 4 :: ks) [(0, .str s), (5, .ptr 0 0), (8, .rows (bl (ps.length + 1) f)), (9, .fn 199 [.ptr 0 0]), (10, .int .i64 (i : Int)), (11, .own 3 (ps.length + 1)), (76, .own 1 ps.length), (77, .int .i64 ps.length), (78, .int .i64 j)] [.cells [.own 1 ps.length], .rows 3 (ps.map rowP) false, .hole, .rows 1 (bl (ps.length + 1) (mid s ps i f k)) true]) =
  R K (.run 135 0 ks [(0, .str s), (5, .ptr 0 0), (9, .fn 199 [.ptr 0 0]), (10, .int .i64 (i : Int)), (11, .own 3 (ps.length + 1))] [.cells [.own 1 ps.length], .rows 3 (ps.map rowP) false, .hole, .rows 1 (bl (ps.length + 1) (rowNext s ps i f)) true])
  | 0, k, j, B, hB, hj, hm => by
    subst hj
    have h1 : decide ((k : Int) < (ps.length : Int)) = false := by simp; omega
    have h2 : bl (ps.length + 1) (mid s ps i f k) = bl (ps.length + 1) (rowNext s ps i f) := bl_congr fun j hj => by
      rcases Nat.lt_or_ge j k with h | h
      · exact mid_lt h
      · have : j = k := by omega
        subst this
        have ha : anyAt ps j = false := by simp [anyAt, List.getElem?_eq_none (show ps.length ≤ j by omega)]
        rw [mid_eq, row_part, ha]; simp
    rw [h2]
    unfold Loop at hB
    simp -implicitDefEqProofs only [↓reduceIte, go_sem, Nat.reduceAdd, Nat.reduceSub, Nat.reduceMul, Nat.reduceBEq, Nat.reduceLeDiff, Nat.reduceLT, Nat.reduceEqDiff, reduceCtorEq, Int.reduceBEq, Int.reduceBNe, Int.reduceLT, Int.reduceLE, Int.reduceAdd, Int.reduceSub, Int.reduceMul, Int.reduceNeg, Int.reduceEq, Int.reduceToNat, Tryz.f135, loopOf] at hB
    subst hB
    rw [RL_eq]
    simp -implicitDefEqProofs only [↓reduceIte, go_sem, Nat.reduceAdd, Nat.reduceSub, Nat.reduceMul, Nat.reduceBEq, Nat.reduceLeDiff, Nat.reduceLT, Nat.reduceEqDiff, reduceCtorEq, Int.reduceBEq, Int.reduceBNe, Int.reduceLT, Int.reduceLE, Int.reduceAdd, Int.reduceSub, Int.reduceMul, Int.reduceNeg, Int.reduceEq, Int.reduceToNat, h1]
    repeat' ((first | refine split_cond (fun hc => ?_) (fun hc => ?_) | refine split_yes (fun hc => ?_) (fun hc => ?_) | refine split_no (fun hc => ?_) (fun hc => ?_)) <;> simp -implicitDefEqProofs only [hc, ↓reduceIte, go_sem, Nat.reduceAdd, Nat.reduceSub, Nat.reduceMul, Nat.reduceBEq, Nat.reduceLeDiff, Nat.reduceLT, Nat.reduceEqDiff, reduceCtorEq, Int.reduceBEq, Int.reduceBNe, Int.reduceLT, Int.reduceLE, Int.reduceAdd, Int.reduceSub, Int.reduceMul, Int.reduceNeg, Int.reduceEq, Int.reduceToNat, h1])
  | m + 1, k, j, B, hB, hj, hm => by
    subst hj
    have hB' := hB
    have h1 : decide ((k : Int) < (ps.length : Int)) = true := by rw [decide_eq_true_eq]; omega
    obtain ⟨p, hp⟩ := some_at (l := ps) (i := k) (by omega)
    have g1 := rowP_get hp
    have g2 := rowP_get? hp
    have ha := any_eq hp
    have hl2 := lit_eq hp hb
    have gb := byte_get hb
    have h2 := bl_at (n := ps.length + 1) (i := k) f (by omega)
    have h3 := bl_at (n := ps.length + 1) (i := k) (mid s ps i f k) (by omega)
    have h3' := bl_get? (n := ps.length + 1) (i := k) (mid s ps i f k) (by omega)
    have h4 := bl_at (n := ps.length + 1) (i := k + 1) (mid s ps i f k) (by omega)
    have h4' := bl_get? (n := ps.length + 1) (i := k + 1) (mid s ps i f k) (by omega)
    have h7 := next_id (i := k) (n := ps.length) (by omega) (by omega)
    have h8 := u8_eq p.c b
    have ih := l_row s ps f i b hb hl ks m (k + 1) _ B hB' rfl (by omega)
    -- nothing is set
    have s0 : (f k && (p.any || (p.one || p.c == b))) = false → bl (ps.length + 1) (mid s ps i f k) = bl (ps.length + 1) (mid s ps i f (k + 1)) := fun e => bl_congr fun j hj => by
      have e1 : (f k && p.any) = false := by revert e; cases f k <;> cases p.any <;> simp
      have e2 : (f k && litAt s ps i k) = false := by rw [hl2]; revert e; cases f k <;> cases p.any <;> simp
      rcases Nat.lt_trichotomy j k with h | h | h
      · rw [mid_lt h, mid_lt (by omega)]
      · subst h; rw [mid_eq, mid_lt (by omega), row_part, ha, e1, Bool.false_or]
      · rw [mid_gt h]
        by_cases h' : j = k + 1
        · subst h'; rw [mid_eq]; simp only [partAt, e2]
        · rw [mid_gt (by omega)]
    have s1 : f k = true → p.any = true → (bl (ps.length + 1) (mid s ps i f k)).set k [.bool true] = bl (ps.length + 1) (mid s ps i f (k + 1)) := fun e1 e2 => bl_set0 _ _ (by omega) _ _ _ (fun j hj => by
      rcases Nat.lt_trichotomy j k with h | h | h
      · rw [if_neg (by omega), mid_lt h, mid_lt (by omega)]
      · subst h; rw [if_pos rfl, mid_lt (by omega), row_part, ha, e1, e2]; rfl
      · rw [if_neg (by omega), mid_gt h]
        by_cases h' : j = k + 1
        · subst h'; rw [mid_eq]; simp only [partAt, hl2, e2]; simp
        · rw [mid_gt (by omega)])
    have s2 : f k = true → p.any = false → (p.one || p.c == b) = true → (bl (ps.length + 1) (mid s ps i f k)).set (k + 1) [.bool true] = bl (ps.length + 1) (mid s ps i f (k + 1)) := fun e1 e2 e3 => bl_set0 _ _ (by omega) _ _ _ (fun j hj => by
      rcases Nat.lt_trichotomy j k with h | h | h
      · rw [if_neg (by omega), mid_lt h, mid_lt (by omega)]
      · subst h; rw [if_neg (by omega), mid_eq, mid_lt (by omega), row_part, ha, e2]; simp
      · by_cases h' : j = k + 1
        · subst h'; rw [if_pos rfl, mid_eq]; simp only [partAt, hl2, e1, e2, e3]; rfl
        · rw [if_neg h', mid_gt h, mid_gt (by omega)])
    cases hf : f k
    · rw [hf] at h2
      rw [s0 (by rw [hf]; rfl)]
      unfold Loop at hB
      simp -implicitDefEqProofs only [↓reduceIte, go_sem, Nat.reduceAdd, Nat.reduceSub, Nat.reduceMul, Nat.reduceBEq, Nat.reduceLeDiff, Nat.reduceLT, Nat.reduceEqDiff, reduceCtorEq, Int.reduceBEq, Int.reduceBNe, Int.reduceLT, Int.reduceLE, Int.reduceAdd, Int.reduceSub, Int.reduceMul, Int.reduceNeg, Int.reduceEq, Int.reduceToNat, Tryz.f135, loopOf] at hB
      subst hB
      rw [RL_eq]
      simp -implicitDefEqProofs only [↓reduceIte, go_sem, Nat.reduceAdd, Nat.reduceSub, Nat.reduceMul, Nat.reduceBEq, Nat.reduceLeDiff, Nat.reduceLT, Nat.reduceEqDiff, reduceCtorEq, Int.reduceBEq, Int.reduceBNe, Int.reduceLT, Int.reduceLE, Int.reduceAdd, Int.reduceSub, Int.reduceMul, Int.reduceNeg, Int.reduceEq, Int.reduceToNat, h1, g1, g2, rowP, h2, h7, bl_len, List.length_map, Int.toNat_natCast, splice, ih]
      repeat' ((first | refine split_cond (fun hc => ?_) (fun hc => ?_) | refine split_yes (fun hc => ?_) (fun hc => ?_) | refine split_no (fun hc => ?_) (fun hc => ?_)) <;> simp -implicitDefEqProofs only [hc, ↓reduceIte, go_sem, Nat.reduceAdd, Nat.reduceSub, Nat.reduceMul, Nat.reduceBEq, Nat.reduceLeDiff, Nat.reduceLT, Nat.reduceEqDiff, reduceCtorEq, Int.reduceBEq, Int.reduceBNe, Int.reduceLT, Int.reduceLE, Int.reduceAdd, Int.reduceSub, Int.reduceMul, Int.reduceNeg, Int.reduceEq, Int.reduceToNat, h1, g1, g2, rowP, h2, h7, bl_len, List.length_map, Int.toNat_natCast, splice, ih])
    · rw [hf] at h2
      cases hany : p.any
      · cases hone : p.one
        · cases hcb : p.c == b
          · rw [hcb] at h8
            rw [s0 (by rw [hf, hany, hone, hcb]; rfl)]
            unfold Loop at hB
            simp -implicitDefEqProofs only [↓reduceIte, go_sem, Nat.reduceAdd, Nat.reduceSub, Nat.reduceMul, Nat.reduceBEq, Nat.reduceLeDiff, Nat.reduceLT, Nat.reduceEqDiff, reduceCtorEq, Int.reduceBEq, Int.reduceBNe, Int.reduceLT, Int.reduceLE, Int.reduceAdd, Int.reduceSub, Int.reduceMul, Int.reduceNeg, Int.reduceEq, Int.reduceToNat, Tryz.f135, loopOf] at hB
            subst hB
            rw [RL_eq]
            simp -implicitDefEqProofs only [↓reduceIte, go_sem, Nat.reduceAdd, Nat.reduceSub, Nat.reduceMul, Nat.reduceBEq, Nat.reduceLeDiff, Nat.reduceLT, Nat.reduceEqDiff, reduceCtorEq, Int.reduceBEq, Int.reduceBNe, Int.reduceLT, Int.reduceLE, Int.reduceAdd, Int.reduceSub, Int.reduceMul, Int.reduceNeg, Int.reduceEq, Int.reduceToNat, h1, g1, g2, gb, rowP, h2, h7, h8, hany, hone, bl_len, List.length_map, Int.toNat_natCast, splice, ih]
            repeat' ((first | refine split_cond (fun hc => ?_) (fun hc => ?_) | refine split_yes (fun hc => ?_) (fun hc => ?_) | refine split_no (fun hc => ?_) (fun hc => ?_)) <;> simp -implicitDefEqProofs only [hc, ↓reduceIte, go_sem, Nat.reduceAdd, Nat.reduceSub, Nat.reduceMul, Nat.reduceBEq, Nat.reduceLeDiff, Nat.reduceLT, Nat.reduceEqDiff, reduceCtorEq, Int.reduceBEq, Int.reduceBNe, Int.reduceLT, Int.reduceLE, Int.reduceAdd, Int.reduceSub, Int.reduceMul, Int.reduceNeg, Int.reduceEq, Int.reduceToNat, h1, g1, g2, gb, rowP, h2, h7, h8, hany, hone, bl_len, List.length_map, Int.toNat_natCast, splice, ih])
          · rw [hcb] at h8
            have s2 := s2 hf hany (by rw [hone, hcb]; rfl)
            unfold Loop at hB
            simp -implicitDefEqProofs only [↓reduceIte, go_sem, Nat.reduceAdd, Nat.reduceSub, Nat.reduceMul, Nat.reduceBEq, Nat.reduceLeDiff, Nat.reduceLT, Nat.reduceEqDiff, reduceCtorEq, Int.reduceBEq, Int.reduceBNe, Int.reduceLT, Int.reduceLE, Int.reduceAdd, Int.reduceSub, Int.reduceMul, Int.reduceNeg, Int.reduceEq, Int.reduceToNat, Tryz.f135, loopOf] at hB
            subst hB
            rw [RL_eq]
            simp -implicitDefEqProofs only [↓reduceIte, go_sem, Nat.reduceAdd, Nat.reduceSub, Nat.reduceMul, Nat.reduceBEq, Nat.reduceLeDiff, Nat.reduceLT, Nat.reduceEqDiff, reduceCtorEq, Int.reduceBEq, Int.reduceBNe, Int.reduceLT, Int.reduceLE, Int.reduceAdd, Int.reduceSub, Int.reduceMul, Int.reduceNeg, Int.reduceEq, Int.reduceToNat, h1, g1, g2, gb, rowP, h2, h4, h4', h7, h8, hany, hone, bl_len, List.length_map, Int.toNat_natCast, splice, s2, ih]
            repeat' ((first | refine split_cond (fun hc => ?_) (fun hc => ?_) | refine split_yes (fun hc => ?_) (fun hc => ?_) | refine split_no (fun hc => ?_) (fun hc => ?_)) <;> simp -implicitDefEqProofs only [hc, ↓reduceIte, go_sem, Nat.reduceAdd, Nat.reduceSub, Nat.reduceMul, Nat.reduceBEq, Nat.reduceLeDiff, Nat.reduceLT, Nat.reduceEqDiff, reduceCtorEq, Int.reduceBEq, Int.reduceBNe, Int.reduceLT, Int.reduceLE, Int.reduceAdd, Int.reduceSub, Int.reduceMul, Int.reduceNeg, Int.reduceEq, Int.reduceToNat, h1, g1, g2, gb, rowP, h2, h4, h4', h7, h8, hany, hone, bl_len, List.length_map, Int.toNat_natCast, splice, s2, ih])
        · have s2 := s2 hf hany (by rw [hone]; rfl)
          unfold Loop at hB
          simp -implicitDefEqProofs only [↓reduceIte, go_sem, Nat.reduceAdd, Nat.reduceSub, Nat.reduceMul, Nat.reduceBEq, Nat.reduceLeDiff, Nat.reduceLT, Nat.reduceEqDiff, reduceCtorEq, Int.reduceBEq, Int.reduceBNe, Int.reduceLT, Int.reduceLE, Int.reduceAdd, Int.reduceSub, Int.reduceMul, Int.reduceNeg, Int.reduceEq, Int.reduceToNat, Tryz.f135, loopOf] at hB
          subst hB
          rw [RL_eq]
          simp -implicitDefEqProofs only [↓reduceIte, go_sem, Nat.reduceAdd, Nat.reduceSub, Nat.reduceMul, Nat.reduceBEq, Nat.reduceLeDiff, Nat.reduceLT, Nat.reduceEqDiff, reduceCtorEq, Int.reduceBEq, Int.reduceBNe, Int.reduceLT, Int.reduceLE, Int.reduceAdd, Int.reduceSub, Int.reduceMul, Int.reduceNeg, Int.reduceEq, Int.reduceToNat, h1, g1, g2, gb, rowP, h2, h4, h4', h7, hany, hone, bl_len, List.length_map, Int.toNat_natCast, splice, s2, ih]
          repeat' ((first | refine split_cond (fun hc => ?_) (fun hc => ?_) | refine split_yes (fun hc => ?_) (fun hc => ?_) | refine split_no (fun hc => ?_) (fun hc => ?_)) <;> simp -implicitDefEqProofs only [hc, ↓reduceIte, go_sem, Nat.reduceAdd, Nat.reduceSub, Nat.reduceMul, Nat.reduceBEq, Nat.reduceLeDiff, Nat.reduceLT, Nat.reduceEqDiff, reduceCtorEq, Int.reduceBEq, Int.reduceBNe, Int.reduceLT, Int.reduceLE, Int.reduceAdd, Int.reduceSub, Int.reduceMul, Int.reduceNeg, Int.reduceEq, Int.reduceToNat, h1, g1, g2, gb, rowP, h2, h4, h4', h7, hany, hone, bl_len, List.length_map, Int.toNat_natCast, splice, s2, ih])
      · have s1 := s1 hf hany
        unfold Loop at hB
        simp -implicitDefEqProofs only [↓reduceIte, go_sem, Nat.reduceAdd, Nat.reduceSub, Nat.reduceMul, Nat.reduceBEq, Nat.reduceLeDiff, Nat.reduceLT, Nat.reduceEqDiff, reduceCtorEq, Int.reduceBEq, Int.reduceBNe, Int.reduceLT, Int.reduceLE, Int.reduceAdd, Int.reduceSub, Int.reduceMul, Int.reduceNeg, Int.reduceEq, Int.reduceToNat, Tryz.f135, loopOf] at hB
        subst hB
        rw [RL_eq]
        simp -implicitDefEqProofs only [↓reduceIte, go_sem, Nat.reduceAdd, Nat.reduceSub, Nat.reduceMul, Nat.reduceBEq, Nat.reduceLeDiff, Nat.reduceLT, Nat.reduceEqDiff, reduceCtorEq, Int.reduceBEq, Int.reduceBNe, Int.reduceLT, Int.reduceLE, Int.reduceAdd, Int.reduceSub, Int.reduceMul, Int.reduceNeg, Int.reduceEq, Int.reduceToNat, h1, g1, g2, gb, rowP, h2, h3, h3', h7, hany, bl_len, List.length_map, Int.toNat_natCast, splice, s1, ih]
        repeat' ((first | refine split_cond (fun hc => ?_) (fun hc => ?_) | refine split_yes (fun hc => ?_) (fun hc => ?_) | refine split_no (fun hc => ?_) (fun hc => ?_)) <;> simp -implicitDefEqProofs only [hc, ↓reduceIte, go_sem, Nat.reduceAdd, Nat.reduceSub, Nat.reduceMul, Nat.reduceBEq, Nat.reduceLeDiff, Nat.reduceLT, Nat.reduceEqDiff, reduceCtorEq, Int.reduceBEq, Int.reduceBNe, Int.reduceLT, Int.reduceLE, Int.reduceAdd, Int.reduceSub, Int.reduceMul, Int.reduceNeg, Int.reduceEq, Int.reduceToNat, h1, g1, g2, gb, rowP, h2, h3, h3', h7, hany, bl_len, List.length_map, Int.toNat_natCast, splice, s1, ih])
theorem l_rows (s : List UInt8) (ps : List Pc) (hs : s.length ≤ 1000) (hl : ps.length ≤ 1000) (ks : List It) : ∀ (m i : Nat) (j : Int) (B : Code), Loop Tryz.f135 3 B → j = (i : Int) → s.length = i + m →
  RL K (.run 135 0 (.code B :: .lp B (some ([0, 5, 8, 9, 10], [8])) 3 :: .blk 3 3 :: ks) [(0, .str s), (5, .ptr 0 0), (8, .rows (bl (ps.length + 1) (begun s ps i))), (9, .fn 199 [.ptr 0 0]), (10, .int .i64 j)] [.cells [.own 1 ps.length], .rows 3 (ps.map rowP) false, .hole]) =
  R K (.run 135 0 ks [(5, .ptr 0 0), (8, .rows (bl (ps.length + 1) (begun s ps s.length)))] [.cells [.own 1 ps.length], .rows 3 (ps.map rowP) false, .hole])
  | 0, i, j, B, hB, hj, hm => by
    subst hj
    have h1 : decide ((i : Int) < (s.length : Int)) = false := by simp; omega
    have e : i = s.length := by omega
    subst e
    unfold Loop at hB
    simp -implicitDefEqProofs only [↓reduceIte, go_sem, Nat.reduceAdd, Nat.reduceSub, Nat.reduceMul, Nat.reduceBEq, Nat.reduceLeDiff, Nat.reduceLT, Nat.reduceEqDiff, reduceCtorEq, Int.reduceBEq, Int.reduceBNe, Int.reduceLT, Int.reduceLE, Int.reduceAdd, Int.reduceSub, Int.reduceMul, Int.reduceNeg, Int.reduceEq, Int.reduceToNat, Tryz.f135, loopOf] at hB
    subst hB
    rw [RL_eq]
    simp -implicitDefEqProofs only [↓reduceIte, go_sem, Nat.reduceAdd, Nat.reduceSub, Nat.reduceMul, Nat.reduceBEq, Nat.reduceLeDiff, Nat.reduceLT, Nat.reduceEqDiff, reduceCtorEq, Int.reduceBEq, Int.reduceBNe, Int.reduceLT, Int.reduceLE, Int.reduceAdd, Int.reduceSub, Int.reduceMul, Int.reduceNeg, Int.reduceEq, Int.reduceToNat, h1]
    repeat' ((first | refine split_cond (fun hc => ?_) (fun hc => ?_) | refine split_yes (fun hc => ?_) (fun hc => ?_) | refine split_no (fun hc => ?_) (fun hc => ?_)) <;> simp -implicitDefEqProofs only [hc, ↓reduceIte, go_sem, Nat.reduceAdd, Nat.reduceSub, Nat.reduceMul, Nat.reduceBEq, Nat.reduceLeDiff, Nat.reduceLT, Nat.reduceEqDiff, reduceCtorEq, Int.reduceBEq, Int.reduceBNe, Int.reduceLT, Int.reduceLE, Int.reduceAdd, Int.reduceSub, Int.reduceMul, Int.reduceNeg, Int.reduceEq, Int.reduceToNat, h1])
  | m + 1, i, j, B, hB, hj, hm => by
    subst hj
    have hB' := hB
    have h1 : decide ((i : Int) < (s.length : Int)) = true := by rw [decide_eq_true_eq]; omega
    obtain ⟨b, hb⟩ := some_at (l := s) (i := i) (by omega)
    have h2 : wrapI .i64 ((ps.length : Int) + 1) = ((ps.length + 1 : Nat) : Int) := by rw [wrap_id (by omega) (by omega)]; rfl
    have h3 := fun h => mk_bools h (ps.length + 1) (by omega)
    have h7 := next_id (i := i) (n := s.length) (by omega) (by omega)
    have ih := l_rows s ps hs hl ks m (i + 1) _ B hB' rfl (by omega)
    have i1 : bl (ps.length + 1) (fun _ => false) = bl (ps.length + 1) (mid s ps i (begun s ps i) 0) := bl_congr fun j _ => by
      cases j with
      | zero => rw [mid_eq]; rfl
      | succ j => rw [mid_gt (by omega)]
    have i2 : bl (ps.length + 1) (skips ps (rowNext s ps i (begun s ps i))) = bl (ps.length + 1) (begun s ps (i + 1)) := bl_congr fun j _ => row_next s ps i j
    have h5 := r_skip ps (rowNext s ps i (begun s ps i)) hl
    rw [i2] at h5
    unfold Loop at hB
    simp -implicitDefEqProofs only [↓reduceIte, go_sem, Nat.reduceAdd, Nat.reduceSub, Nat.reduceMul, Nat.reduceBEq, Nat.reduceLeDiff, Nat.reduceLT, Nat.reduceEqDiff, reduceCtorEq, Int.reduceBEq, Int.reduceBNe, Int.reduceLT, Int.reduceLE, Int.reduceAdd, Int.reduceSub, Int.reduceMul, Int.reduceNeg, Int.reduceEq, Int.reduceToNat, Tryz.f135, loopOf] at hB
    subst hB
    rw [RL_eq]
    simp -implicitDefEqProofs only [↓reduceIte, go_sem, Nat.reduceAdd, Nat.reduceSub, Nat.reduceMul, Nat.reduceBEq, Nat.reduceLeDiff, Nat.reduceLT, Nat.reduceEqDiff, reduceCtorEq, Int.reduceBEq, Int.reduceBNe, Int.reduceLT, Int.reduceLE, Int.reduceAdd, Int.reduceSub, Int.reduceMul, Int.reduceNeg, Int.reduceEq, Int.reduceToNat, h1, h2, h3, bl_rep, bl_len, List.length_replicate, List.length_map]
    repeat' ((first | refine split_cond (fun hc => ?_) (fun hc => ?_) | refine split_yes (fun hc => ?_) (fun hc => ?_) | refine split_no (fun hc => ?_) (fun hc => ?_)) <;> simp -implicitDefEqProofs only [hc, ↓reduceIte, go_sem, Nat.reduceAdd, Nat.reduceSub, Nat.reduceMul, Nat.reduceBEq, Nat.reduceLeDiff, Nat.reduceLT, Nat.reduceEqDiff, reduceCtorEq, Int.reduceBEq, Int.reduceBNe, Int.reduceLT, Int.reduceLE, Int.reduceAdd, Int.reduceSub, Int.reduceMul, Int.reduceNeg, Int.reduceEq, Int.reduceToNat, h1, h2, h3, bl_rep, bl_len, List.length_replicate, List.length_map])
    rw [i1, l_row s ps (begun s ps i) i b hb hl _ ps.length 0 0 _ ?_ rfl (by omega)]
    · simp -implicitDefEqProofs only [↓reduceIte, go_sem, Nat.reduceAdd, Nat.reduceSub, Nat.reduceMul, Nat.reduceBEq, Nat.reduceLeDiff, Nat.reduceLT, Nat.reduceEqDiff, reduceCtorEq, Int.reduceBEq, Int.reduceBNe, Int.reduceLT, Int.reduceLE, Int.reduceAdd, Int.reduceSub, Int.reduceMul, Int.reduceNeg, Int.reduceEq, Int.reduceToNat, h5, h7, bl_len, List.length_map, ih]
      repeat' ((first | refine split_cond (fun hc => ?_) (fun hc => ?_) | refine split_yes (fun hc => ?_) (fun hc => ?_) | refine split_no (fun hc => ?_) (fun hc => ?_)) <;> simp -implicitDefEqProofs only [hc, ↓reduceIte, go_sem, Nat.reduceAdd, Nat.reduceSub, Nat.reduceMul, Nat.reduceBEq, Nat.reduceLeDiff, Nat.reduceLT, Nat.reduceEqDiff, reduceCtorEq, Int.reduceBEq, Int.reduceBNe, Int.reduceLT, Int.reduceLE, Int.reduceAdd, Int.reduceSub, Int.reduceMul, Int.reduceNeg, Int.reduceEq, Int.reduceToNat, h5, h7, bl_len, List.length_map, ih])
    · rfl
theorem r_likes (s pat : List UInt8) (hs : s.length ≤ 100) (hp : pat.length ≤ 100) : R K (.call 135 [.str s, .str pat] []) = some (.bool (likeS s pat), []) := by
  have hpl : ∀ q : List UInt8, (parse q).length ≤ q.length := by
    intro q
    induction q using parse.induct with
    | case1 => simp [parse]
    | case2 c => simp [parse]
    | case3 d r ih => simp only [parse, if_true, List.length_cons]; omega
    | case4 c d r hne ih => simp only [parse, hne, if_false, List.length_cons] at ih ⊢; omega
  have hl := hpl pat
  have lp := l_parse s pat hp
  have h2 : wrapI .i64 (((parse pat).length : Int) + 1) = (((parse pat).length + 1 : Nat) : Int) := by rw [wrap_id (by omega) (by omega)]; rfl
  have h3 := fun h => mk_bools h ((parse pat).length + 1) (by omega)
  have h5 := r_skip (parse pat) (fun k => k == 0) (by omega)
  have i2 : bl ((parse pat).length + 1) (skips (parse pat) (fun k => k == 0)) = bl ((parse pat).length + 1) (begun s (parse pat) 0) := bl_congr fun j _ => row_first s (parse pat) j
  rw [i2] at h5
  have h6 : at? (bl ((parse pat).length + 1) (begun s (parse pat) s.length)) ((parse pat).length : Int) = some [.bool (likeS s pat)] := by
    rw [bl_at _ (by omega)]
    have : anyAt (parse pat) (parse pat).length = false := by simp [anyAt]
    simp [begun, this, likeS]
  have z1 := bl_at (n := (parse pat).length + 1) (i := 0) (fun _ => false) (by omega)
  have z2 := bl_get? (n := (parse pat).length + 1) (i := 0) (fun _ => false) (by omega)
  have z3 : (bl ((parse pat).length + 1) (fun _ => false)).set 0 [.bool true] = bl ((parse pat).length + 1) (fun k => k == 0) := bl_set0 _ _ (by omega) _ _ _ (fun j _ => by by_cases h : j = 0 <;> simp [h])
  rw [Int.natCast_zero] at z1
  rw [call_135]
  simp -implicitDefEqProofs only [↓reduceIte, go_sem, Nat.reduceAdd, Nat.reduceSub, Nat.reduceMul, Nat.reduceBEq, Nat.reduceLeDiff, Nat.reduceLT, Nat.reduceEqDiff, reduceCtorEq, Int.reduceBEq, Int.reduceBNe, Int.reduceLT, Int.reduceLE, Int.reduceAdd, Int.reduceSub, Int.reduceMul, Int.reduceNeg, Int.reduceEq, Int.reduceToNat, Tryz.f135]
  repeat' ((first | refine split_cond (fun hc => ?_) (fun hc => ?_) | refine split_yes (fun hc => ?_) (fun hc => ?_) | refine split_no (fun hc => ?_) (fun hc => ?_)) <;> simp -implicitDefEqProofs only [hc, ↓reduceIte, go_sem, Nat.reduceAdd, Nat.reduceSub, Nat.reduceMul, Nat.reduceBEq, Nat.reduceLeDiff, Nat.reduceLT, Nat.reduceEqDiff, reduceCtorEq, Int.reduceBEq, Int.reduceBNe, Int.reduceLT, Int.reduceLE, Int.reduceAdd, Int.reduceSub, Int.reduceMul, Int.reduceNeg, Int.reduceEq, Int.reduceToNat])
  have lp0 := fun ks B hB => lp ks pat.length 0 0 [] B hB rfl (by omega) (by omega) (by simp)
  simp only [List.length_nil, List.map_nil, List.nil_append, List.drop_zero] at lp0
  rw [lp0 _ _ ?_]
  · simp -implicitDefEqProofs only [↓reduceIte, go_sem, Nat.reduceAdd, Nat.reduceSub, Nat.reduceMul, Nat.reduceBEq, Nat.reduceLeDiff, Nat.reduceLT, Nat.reduceEqDiff, reduceCtorEq, Int.reduceBEq, Int.reduceBNe, Int.reduceLT, Int.reduceLE, Int.reduceAdd, Int.reduceSub, Int.reduceMul, Int.reduceNeg, Int.reduceEq, Int.reduceToNat, h2, h3, bl_rep, bl_len, List.length_replicate, List.length_map, Int.toNat_zero, z1, z2, z3, splice, h5]
    repeat' ((first | refine split_cond (fun hc => ?_) (fun hc => ?_) | refine split_yes (fun hc => ?_) (fun hc => ?_) | refine split_no (fun hc => ?_) (fun hc => ?_)) <;> simp -implicitDefEqProofs only [hc, ↓reduceIte, go_sem, Nat.reduceAdd, Nat.reduceSub, Nat.reduceMul, Nat.reduceBEq, Nat.reduceLeDiff, Nat.reduceLT, Nat.reduceEqDiff, reduceCtorEq, Int.reduceBEq, Int.reduceBNe, Int.reduceLT, Int.reduceLE, Int.reduceAdd, Int.reduceSub, Int.reduceMul, Int.reduceNeg, Int.reduceEq, Int.reduceToNat, h2, h3, bl_rep, bl_len, List.length_replicate, List.length_map, Int.toNat_zero, z1, z2, z3, splice, h5])
    rw [l_rows s (parse pat) (by omega) (by omega) _ s.length 0 0 _ ?_ rfl (by omega)]
    · simp -implicitDefEqProofs only [↓reduceIte, go_sem, Nat.reduceAdd, Nat.reduceSub, Nat.reduceMul, Nat.reduceBEq, Nat.reduceLeDiff, Nat.reduceLT, Nat.reduceEqDiff, reduceCtorEq, Int.reduceBEq, Int.reduceBNe, Int.reduceLT, Int.reduceLE, Int.reduceAdd, Int.reduceSub, Int.reduceMul, Int.reduceNeg, Int.reduceEq, Int.reduceToNat, h6, bl_len, List.length_map]
      repeat' ((first | refine split_cond (fun hc => ?_) (fun hc => ?_) | refine split_yes (fun hc => ?_) (fun hc => ?_) | refine split_no (fun hc => ?_) (fun hc => ?_)) <;> simp -implicitDefEqProofs only [hc, ↓reduceIte, go_sem, Nat.reduceAdd, Nat.reduceSub, Nat.reduceMul, Nat.reduceBEq, Nat.reduceLeDiff, Nat.reduceLT, Nat.reduceEqDiff, reduceCtorEq, Int.reduceBEq, Int.reduceBNe, Int.reduceLT, Int.reduceLE, Int.reduceAdd, Int.reduceSub, Int.reduceMul, Int.reduceNeg, Int.reduceEq, Int.reduceToNat, h6, bl_len, List.length_map])
    · rfl
  · rfl
def textsS19 (a b c : Val) : Val := if a.k = 3 ∧ b.k = 3 then boolV (likeS a.s b.s) else null
theorem r_texts19 (k n : Int) (s : List UInt8) (k' n' : Int) (s' : List UInt8) (k'' n'' : Int) (s'' : List UInt8) (h : k = 3 → k' = 3 → s.length ≤ 100 ∧ s'.length ≤ 100) : R K (.call 81 [.int .i64 19, V k n s, V k' n' s', V k'' n'' s''] []) = some (enc (textsS19 ⟨k, n, s⟩ ⟨k', n', s'⟩ ⟨k'', n'', s''⟩), []) := by
  by_cases hk : k = 3 ∧ k' = 3
  · obtain ⟨rfl, rfl⟩ := hk
    have hl := h rfl rfl
    have hp := r_likes s s' hl.1 hl.2
    rw [call_81]
    simp -implicitDefEqProofs only [↓reduceIte, go_sem, Nat.reduceAdd, Nat.reduceSub, Nat.reduceMul, Nat.reduceBEq, Nat.reduceLeDiff, Nat.reduceLT, Nat.reduceEqDiff, reduceCtorEq, Int.reduceBEq, Int.reduceBNe, Int.reduceLT, Int.reduceLE, Int.reduceAdd, Int.reduceSub, Int.reduceMul, Int.reduceNeg, Int.reduceEq, Int.reduceToNat, Tryz.f81, hp, r_Truth]
    repeat' ((first | refine split_cond (fun hc => ?_) (fun hc => ?_) | refine split_yes (fun hc => ?_) (fun hc => ?_) | refine split_no (fun hc => ?_) (fun hc => ?_)) <;> simp -implicitDefEqProofs only [hc, ↓reduceIte, go_sem, Nat.reduceAdd, Nat.reduceSub, Nat.reduceMul, Nat.reduceBEq, Nat.reduceLeDiff, Nat.reduceLT, Nat.reduceEqDiff, reduceCtorEq, Int.reduceBEq, Int.reduceBNe, Int.reduceLT, Int.reduceLE, Int.reduceAdd, Int.reduceSub, Int.reduceMul, Int.reduceNeg, Int.reduceEq, Int.reduceToNat, hp, r_Truth])
    all_goals simp [textsS19]
  · rw [call_81]
    simp -implicitDefEqProofs only [↓reduceIte, go_sem, Nat.reduceAdd, Nat.reduceSub, Nat.reduceMul, Nat.reduceBEq, Nat.reduceLeDiff, Nat.reduceLT, Nat.reduceEqDiff, reduceCtorEq, Int.reduceBEq, Int.reduceBNe, Int.reduceLT, Int.reduceLE, Int.reduceAdd, Int.reduceSub, Int.reduceMul, Int.reduceNeg, Int.reduceEq, Int.reduceToNat, Tryz.f81]
    repeat' ((first | refine split_cond (fun hc => ?_) (fun hc => ?_) | refine split_yes (fun hc => ?_) (fun hc => ?_) | refine split_no (fun hc => ?_) (fun hc => ?_)) <;> simp -implicitDefEqProofs only [hc, ↓reduceIte, go_sem, Nat.reduceAdd, Nat.reduceSub, Nat.reduceMul, Nat.reduceBEq, Nat.reduceLeDiff, Nat.reduceLT, Nat.reduceEqDiff, reduceCtorEq, Int.reduceBEq, Int.reduceBNe, Int.reduceLT, Int.reduceLE, Int.reduceAdd, Int.reduceSub, Int.reduceMul, Int.reduceNeg, Int.reduceEq, Int.reduceToNat])
    all_goals simp_all [textsS19, null]
theorem r_Oper19 (n : Int) (k1 n1 : Int) (s1 : List UInt8) (k2 n2 : Int) (s2 : List UInt8) : R K (.call 21 [.int .i64 19, .int .i64 n, .rows [[.int .i64 k1, .int .i64 n1, .str s1], [.int .i64 k2, .int .i64 n2, .str s2]]] []) = some (enc (textsS19 (plainV ⟨k1, n1, s1⟩) (plainV ⟨k2, n2, s2⟩) null), []) := by
  have ht := r_texts19 (plainV ⟨k1, n1, s1⟩).k (plainV ⟨k1, n1, s1⟩).n (plainV ⟨k1, n1, s1⟩).s (plainV ⟨k2, n2, s2⟩).k (plainV ⟨k2, n2, s2⟩).n (plainV ⟨k2, n2, s2⟩).s 0 0 [] (fun h h' => ⟨(plain3 _ h).1, (plain3 _ h').1⟩)
  rw [call_21]
  simp -implicitDefEqProofs only [↓reduceIte, go_sem, Nat.reduceAdd, Nat.reduceSub, Nat.reduceMul, Nat.reduceBEq, Nat.reduceLeDiff, Nat.reduceLT, Nat.reduceEqDiff, reduceCtorEq, Int.reduceBEq, Int.reduceBNe, Int.reduceLT, Int.reduceLE, Int.reduceAdd, Int.reduceSub, Int.reduceMul, Int.reduceNeg, Int.reduceEq, Int.reduceToNat, Tryz.f21]
  repeat' ((first | refine split_cond (fun hc => ?_) (fun hc => ?_) | refine split_yes (fun hc => ?_) (fun hc => ?_) | refine split_no (fun hc => ?_) (fun hc => ?_)) <;> simp -implicitDefEqProofs only [hc, ↓reduceIte, go_sem, Nat.reduceAdd, Nat.reduceSub, Nat.reduceMul, Nat.reduceBEq, Nat.reduceLeDiff, Nat.reduceLT, Nat.reduceEqDiff, reduceCtorEq, Int.reduceBEq, Int.reduceBNe, Int.reduceLT, Int.reduceLE, Int.reduceAdd, Int.reduceSub, Int.reduceMul, Int.reduceNeg, Int.reduceEq, Int.reduceToNat])
  rw [RL_eq]
  simp -implicitDefEqProofs only [↓reduceIte, go_sem, Nat.reduceAdd, Nat.reduceSub, Nat.reduceMul, Nat.reduceBEq, Nat.reduceLeDiff, Nat.reduceLT, Nat.reduceEqDiff, reduceCtorEq, Int.reduceBEq, Int.reduceBNe, Int.reduceLT, Int.reduceLE, Int.reduceAdd, Int.reduceSub, Int.reduceMul, Int.reduceNeg, Int.reduceEq, Int.reduceToNat, r_right, at?]
  repeat' ((first | refine split_cond (fun hc => ?_) (fun hc => ?_) | refine split_yes (fun hc => ?_) (fun hc => ?_) | refine split_no (fun hc => ?_) (fun hc => ?_)) <;> simp -implicitDefEqProofs only [hc, ↓reduceIte, go_sem, Nat.reduceAdd, Nat.reduceSub, Nat.reduceMul, Nat.reduceBEq, Nat.reduceLeDiff, Nat.reduceLT, Nat.reduceEqDiff, reduceCtorEq, Int.reduceBEq, Int.reduceBNe, Int.reduceLT, Int.reduceLE, Int.reduceAdd, Int.reduceSub, Int.reduceMul, Int.reduceNeg, Int.reduceEq, Int.reduceToNat, r_right, at?])
  rw [RL_eq]
  simp -implicitDefEqProofs only [↓reduceIte, go_sem, Nat.reduceAdd, Nat.reduceSub, Nat.reduceMul, Nat.reduceBEq, Nat.reduceLeDiff, Nat.reduceLT, Nat.reduceEqDiff, reduceCtorEq, Int.reduceBEq, Int.reduceBNe, Int.reduceLT, Int.reduceLE, Int.reduceAdd, Int.reduceSub, Int.reduceMul, Int.reduceNeg, Int.reduceEq, Int.reduceToNat, r_right, at?]
  repeat' ((first | refine split_cond (fun hc => ?_) (fun hc => ?_) | refine split_yes (fun hc => ?_) (fun hc => ?_) | refine split_no (fun hc => ?_) (fun hc => ?_)) <;> simp -implicitDefEqProofs only [hc, ↓reduceIte, go_sem, Nat.reduceAdd, Nat.reduceSub, Nat.reduceMul, Nat.reduceBEq, Nat.reduceLeDiff, Nat.reduceLT, Nat.reduceEqDiff, reduceCtorEq, Int.reduceBEq, Int.reduceBNe, Int.reduceLT, Int.reduceLE, Int.reduceAdd, Int.reduceSub, Int.reduceMul, Int.reduceNeg, Int.reduceEq, Int.reduceToNat, r_right, at?])
  rw [RL_eq]
  simp -implicitDefEqProofs only [↓reduceIte, go_sem, Nat.reduceAdd, Nat.reduceSub, Nat.reduceMul, Nat.reduceBEq, Nat.reduceLeDiff, Nat.reduceLT, Nat.reduceEqDiff, reduceCtorEq, Int.reduceBEq, Int.reduceBNe, Int.reduceLT, Int.reduceLE, Int.reduceAdd, Int.reduceSub, Int.reduceMul, Int.reduceNeg, Int.reduceEq, Int.reduceToNat, r_right, at?, ht]
  repeat' ((first | refine split_cond (fun hc => ?_) (fun hc => ?_) | refine split_yes (fun hc => ?_) (fun hc => ?_) | refine split_no (fun hc => ?_) (fun hc => ?_)) <;> simp -implicitDefEqProofs only [hc, ↓reduceIte, go_sem, Nat.reduceAdd, Nat.reduceSub, Nat.reduceMul, Nat.reduceBEq, Nat.reduceLeDiff, Nat.reduceLT, Nat.reduceEqDiff, reduceCtorEq, Int.reduceBEq, Int.reduceBNe, Int.reduceLT, Int.reduceLE, Int.reduceAdd, Int.reduceSub, Int.reduceMul, Int.reduceNeg, Int.reduceEq, Int.reduceToNat, r_right, at?, ht])
  rfl
theorem like_law (a b : Val) : likeV a b = textsS19 (plainV a) (plainV b) null := by
  unfold likeV textsS19
  by_cases h : (plainV a).k = 3 ∧ (plainV b).k = 3
  · have h1 := (plain_len a h.1).1
    have h2 := (plain_len b h.2).1
    have e1 : isK 3 a = true := by simp [isK, h.1]
    have e2 : isK 3 b = true := by simp [isK, h.2]
    rw [if_pos (by rw [e1, e2]; rfl), if_pos h, h1, h2]
  · rw [if_neg h, if_neg]
    intro e
    simp only [isK, Bool.and_eq_true, beq_iff_eq] at e
    exact h e
theorem tm (a b : Int) (h : 0 ≤ a) : a.tmod b = a % b := Int.tmod_eq_emod_of_nonneg h
theorem td (a b : Int) (h : 0 ≤ a) : a.tdiv b = a / b := Int.tdiv_eq_ediv_of_nonneg h
def belowS (x n : Int) : Int := if n < 1 then 0 else if x.tmod n < 0 then wrapI .i64 (x.tmod n + n) else x.tmod n
theorem r_Below (x n : Int) : R K (.call 92 [.int .i64 x, .int .i64 n] []) = some (.int .i64 (belowS x n), []) := by
  by_cases hn : n < 1
  · have h1 : decide (n < 1) = true := by simp [hn]
    rw [call_92]
    simp -implicitDefEqProofs only [↓reduceIte, go_sem, Nat.reduceAdd, Nat.reduceSub, Nat.reduceMul, Nat.reduceBEq, Nat.reduceLeDiff, Nat.reduceLT, Nat.reduceEqDiff, reduceCtorEq, Int.reduceBEq, Int.reduceBNe, Int.reduceLT, Int.reduceLE, Int.reduceAdd, Int.reduceSub, Int.reduceMul, Int.reduceNeg, Int.reduceEq, Int.reduceToNat, Tryz.f92, h1]
    repeat' ((first | refine split_cond (fun hc => ?_) (fun hc => ?_) | refine split_yes (fun hc => ?_) (fun hc => ?_) | refine split_no (fun hc => ?_) (fun hc => ?_)) <;> simp -implicitDefEqProofs only [hc, ↓reduceIte, go_sem, Nat.reduceAdd, Nat.reduceSub, Nat.reduceMul, Nat.reduceBEq, Nat.reduceLeDiff, Nat.reduceLT, Nat.reduceEqDiff, reduceCtorEq, Int.reduceBEq, Int.reduceBNe, Int.reduceLT, Int.reduceLE, Int.reduceAdd, Int.reduceSub, Int.reduceMul, Int.reduceNeg, Int.reduceEq, Int.reduceToNat, h1])
    simp [belowS, hn]
  · have h1 : decide (n < 1) = false := by simpa using hn
    have h2 : n ≠ 0 := by omega
    have e : belowS x n = if x.tmod n < 0 then wrapI .i64 (x.tmod n + n) else x.tmod n := if_neg hn
    rw [e]
    rw [call_92]
    simp -implicitDefEqProofs only [↓reduceIte, go_sem, Nat.reduceAdd, Nat.reduceSub, Nat.reduceMul, Nat.reduceBEq, Nat.reduceLeDiff, Nat.reduceLT, Nat.reduceEqDiff, reduceCtorEq, Int.reduceBEq, Int.reduceBNe, Int.reduceLT, Int.reduceLE, Int.reduceAdd, Int.reduceSub, Int.reduceMul, Int.reduceNeg, Int.reduceEq, Int.reduceToNat, Tryz.f92, h1, h2]
    repeat' ((first | refine split_cond (fun hc => ?_) (fun hc => ?_) | refine split_yes (fun hc => ?_) (fun hc => ?_) | refine split_no (fun hc => ?_) (fun hc => ?_)) <;> simp -implicitDefEqProofs only [hc, ↓reduceIte, go_sem, Nat.reduceAdd, Nat.reduceSub, Nat.reduceMul, Nat.reduceBEq, Nat.reduceLeDiff, Nat.reduceLT, Nat.reduceEqDiff, reduceCtorEq, Int.reduceBEq, Int.reduceBNe, Int.reduceLT, Int.reduceLE, Int.reduceAdd, Int.reduceSub, Int.reduceMul, Int.reduceNeg, Int.reduceEq, Int.reduceToNat, h1, h2])
    all_goals simp_all
    intro; omega
theorem below_bounds (x n : Int) (h1 : 1 ≤ n) (h2 : n ≤ 4611686018427387904) : 0 ≤ belowS x n ∧ belowS x n < n := by
  unfold belowS
  rw [if_neg (by omega)]
  have a := Int.tmod_lt_of_pos x (show 0 < n by omega)
  have b : -n < x.tmod n := by
    have := Int.tmod_lt_of_pos (-x) (show 0 < n by omega)
    rw [Int.neg_tmod] at this
    omega
  split
  · rw [wrap_id (by omega) (by omega)]; omega
  · omega
def nextS (L : List Int) (a n : Int) : Int :=
  if L.length = 0 then belowS (wrapI .i64 ((a + 1) * 7919)) n
  else belowS (wrapI .i64 (belowS (L.getD (a % L.length).toNat 0) 1073741824 + wrapI .i64 (a / L.length * (7919 + a % L.length)))) n
abbrev LR (L : List Int) : AV := .rows (L.map fun x => [.int .i64 x])
theorem r_Next (L : List Int) (a n : Int) (ha : 0 ≤ a) (ha2 : a ≤ 4611686018427387904) (hL : L.length ≤ 9223372036854775807) : R K (.call 38 [.ptr 0 0, .int .i64 n] [.cells [LR L, .int .i64 a]]) = some (.int .i64 (nextS L a n), [.cells [LR L, .int .i64 (a + 1)]]) := by
  have e1 : wrapI .i64 (a + 1) = a + 1 := wrap_id (by omega) (by omega)
  have e2 : wrapI .i64 (a + 1 - 1) = a := by rw [wrap_id (by omega) (by omega)]; omega
  have el : (L.map fun x => [AV.int .i64 x]).length = L.length := List.length_map _
  by_cases h : L.length = 0
  · have h0 : decide (((L.length : Nat) : Int) = 0) = true := by simp [h]
    have hb : (((L.length : Nat) : Int) == 0) = true := by simp [h]
    have e : nextS L a n = belowS (wrapI .i64 ((a + 1) * 7919)) n := if_pos h
    rw [e]
    rw [call_38]
    simp -implicitDefEqProofs only [↓reduceIte, go_sem, Nat.reduceAdd, Nat.reduceSub, Nat.reduceMul, Nat.reduceBEq, Nat.reduceLeDiff, Nat.reduceLT, Nat.reduceEqDiff, reduceCtorEq, Int.reduceBEq, Int.reduceBNe, Int.reduceLT, Int.reduceLE, Int.reduceAdd, Int.reduceSub, Int.reduceMul, Int.reduceNeg, Int.reduceEq, Int.reduceToNat, Tryz.f38, e1, hb, el, r_Below]
    repeat' ((first | refine split_cond (fun hc => ?_) (fun hc => ?_) | refine split_yes (fun hc => ?_) (fun hc => ?_) | refine split_no (fun hc => ?_) (fun hc => ?_)) <;> simp -implicitDefEqProofs only [hc, ↓reduceIte, go_sem, Nat.reduceAdd, Nat.reduceSub, Nat.reduceMul, Nat.reduceBEq, Nat.reduceLeDiff, Nat.reduceLT, Nat.reduceEqDiff, reduceCtorEq, Int.reduceBEq, Int.reduceBNe, Int.reduceLT, Int.reduceLE, Int.reduceAdd, Int.reduceSub, Int.reduceMul, Int.reduceNeg, Int.reduceEq, Int.reduceToNat, e1, hb, el, r_Below])
  · have hb : (((L.length : Nat) : Int) == 0) = false := by simpa using h
    have hl1 : (1 : Int) ≤ L.length := by omega
    have e3 : a.tmod (L.length : Int) = a % L.length := tm _ _ ha
    have e4 : wrapI .i64 (a.tdiv (L.length : Int)) = a / L.length := by
      rw [td _ _ ha]
      have := Int.ediv_le_self (L.length : Int) ha
      have := Int.ediv_nonneg ha (show (0 : Int) ≤ L.length by omega)
      exact wrap_id (by omega) (by omega)
    have m1 := Int.emod_nonneg a (show (L.length : Int) ≠ 0 by omega)
    have m2 := Int.emod_lt_of_pos a (show (0 : Int) < L.length by omega)
    have m3 : a % (L.length : Int) ≤ a := by
      rw [Int.emod_def]
      exact Int.sub_le_self a (Int.mul_nonneg (by omega) (Int.ediv_nonneg ha (by omega)))
    obtain ⟨x, hx⟩ := some_at (l := L) (i := (a % L.length).toNat) (by omega)
    have e5 : at? (L.map fun x => [AV.int .i64 x]) (a % L.length) = some [.int .i64 x] := by
      unfold at?
      rw [if_pos m1]
      simp [hx]
    have e6 : wrapI .i64 (7919 + a % L.length) = 7919 + a % L.length := wrap_id (by omega) (by omega)
    have hd : L.getD (a % L.length).toNat 0 = x := by simp [List.getD, hx]
    have hne : ((L.length : Nat) : Int) ≠ 0 := by omega
    have e : nextS L a n = belowS (wrapI .i64 (belowS x 1073741824 + wrapI .i64 (a / L.length * (7919 + a % L.length)))) n := by
      unfold nextS
      rw [if_neg h, hd]
    rw [e]
    rw [call_38]
    simp -implicitDefEqProofs only [↓reduceIte, go_sem, Nat.reduceAdd, Nat.reduceSub, Nat.reduceMul, Nat.reduceBEq, Nat.reduceLeDiff, Nat.reduceLT, Nat.reduceEqDiff, reduceCtorEq, Int.reduceBEq, Int.reduceBNe, Int.reduceLT, Int.reduceLE, Int.reduceAdd, Int.reduceSub, Int.reduceMul, Int.reduceNeg, Int.reduceEq, Int.reduceToNat, Tryz.f38, e1, e2, e3, e4, e5, e6, hb, hne, h, el, r_Below]
    repeat' ((first | refine split_cond (fun hc => ?_) (fun hc => ?_) | refine split_yes (fun hc => ?_) (fun hc => ?_) | refine split_no (fun hc => ?_) (fun hc => ?_)) <;> simp -implicitDefEqProofs only [hc, ↓reduceIte, go_sem, Nat.reduceAdd, Nat.reduceSub, Nat.reduceMul, Nat.reduceBEq, Nat.reduceLeDiff, Nat.reduceLT, Nat.reduceEqDiff, reduceCtorEq, Int.reduceBEq, Int.reduceBNe, Int.reduceLT, Int.reduceLE, Int.reduceAdd, Int.reduceSub, Int.reduceMul, Int.reduceNeg, Int.reduceEq, Int.reduceToNat, e1, e2, e3, e4, e5, e6, hb, hne, h, el, r_Below])
theorem next_bounds (L : List Int) (a n : Int) (h1 : 1 ≤ n) (h2 : n ≤ 4611686018427387904) : 0 ≤ nextS L a n ∧ nextS L a n < n := by
  unfold nextS
  split <;> exact below_bounds _ _ h1 h2
theorem byte_of (i : Int) (h : 0 ≤ i ∧ i < 5) : ∃ b : UInt8, at? [97, 98, 37, 95, 92] i = some b ∧ (Utf8.encode (b.toNat : Int)).data.toList.length ≤ 4 := by
  have : i = 0 ∨ i = 1 ∨ i = 2 ∨ i = 3 ∨ i = 4 := by omega
  rcases this with rfl | rfl | rfl | rfl | rfl
  · exact ⟨97, rfl, by decide⟩
  · exact ⟨98, rfl, by decide⟩
  · exact ⟨37, rfl, by decide⟩
  · exact ⟨95, rfl, by decide⟩
  · exact ⟨92, rfl, by decide⟩
theorem piece_of (c : List UInt8) (hc : c.length ≤ 4) (i : Int) (h : 0 ≤ i ∧ i < 5) : ∃ x : List UInt8, at? [[AV.str c], [.str [95]], [.str [37]], [.str (92 :: c)], [.str []]] i = some [.str x] ∧ x.length ≤ 5 := by
  have : i = 0 ∨ i = 1 ∨ i = 2 ∨ i = 3 ∨ i = 4 := by omega
  rcases this with rfl | rfl | rfl | rfl | rfl
  · exact ⟨c, rfl, by omega⟩
  · exact ⟨[95], rfl, by decide⟩
  · exact ⟨[37], rfl, by decide⟩
  · exact ⟨92 :: c, rfl, by simp; omega⟩
  · exact ⟨[], rfl, by decide⟩
theorem l_likes (L : List Int) (hL : L.length ≤ 9223372036854775807) (k1 n1 : Int) (s1 : List UInt8) (k2 n2 : Int) (s2 : List UInt8) (cnt : Nat) (hc : cnt ≤ 100) (ks : List It) : ∀ (m j : Nat) (i a : Int) (t p : List UInt8) (B : Code), Loop Tryz.f8 0 B → i = (j : Int) → a = 1 + 2 * (j : Int) → cnt = j + m → t.length ≤ 4 * j → p.length ≤ 5 * j → ∃ (t' p' : List UInt8) (a' : Int), t'.length ≤ 4 * cnt ∧ p'.length ≤ 5 * cnt ∧
   RL K (.run 8 0 (.code B :: .lp B (some ([4, 5, 7, 8, 9, 17, 18], [])) 3 :: .blk 0 3 :: ks) [(4, .ptr 0 0), (5, .ptr 1 0), (7, .ptr 2 0), (8, .str t), (9, .str p), (17, .int .i64 (cnt : Int)), (18, .int .i64 i)] [.cells [.int .i64 k1, .int .i64 n1, .str s1], .cells [.int .i64 k2, .int .i64 n2, .str s2], .cells [LR L, .int .i64 a]]) =
   R K (.run 8 0 ks [(4, .ptr 0 0), (5, .ptr 1 0), (8, .str t'), (9, .str p')] [.cells [.int .i64 k1, .int .i64 n1, .str s1], .cells [.int .i64 k2, .int .i64 n2, .str s2], .cells [LR L, .int .i64 a']])
  | 0, j, i, a, t, p, B, hB, hi, hj, hm, ht, hp => by
    subst hi
    have h1 : decide ((j : Int) < (cnt : Int)) = false := by simp; omega
    refine ⟨t, p, a, by omega, by omega, ?_⟩
    unfold Loop at hB
    simp -implicitDefEqProofs only [↓reduceIte, go_sem, Nat.reduceAdd, Nat.reduceSub, Nat.reduceMul, Nat.reduceBEq, Nat.reduceLeDiff, Nat.reduceLT, Nat.reduceEqDiff, reduceCtorEq, Int.reduceBEq, Int.reduceBNe, Int.reduceLT, Int.reduceLE, Int.reduceAdd, Int.reduceSub, Int.reduceMul, Int.reduceNeg, Int.reduceEq, Int.reduceToNat, Tryz.f8, loopOf] at hB
    subst hB
    rw [RL_eq]
    simp -implicitDefEqProofs only [↓reduceIte, go_sem, Nat.reduceAdd, Nat.reduceSub, Nat.reduceMul, Nat.reduceBEq, Nat.reduceLeDiff, Nat.reduceLT, Nat.reduceEqDiff, reduceCtorEq, Int.reduceBEq, Int.reduceBNe, Int.reduceLT, Int.reduceLE, Int.reduceAdd, Int.reduceSub, Int.reduceMul, Int.reduceNeg, Int.reduceEq, Int.reduceToNat, h1]
    repeat' ((first | refine split_cond (fun hc => ?_) (fun hc => ?_) | refine split_yes (fun hc => ?_) (fun hc => ?_) | refine split_no (fun hc => ?_) (fun hc => ?_)) <;> simp -implicitDefEqProofs only [hc, ↓reduceIte, go_sem, Nat.reduceAdd, Nat.reduceSub, Nat.reduceMul, Nat.reduceBEq, Nat.reduceLeDiff, Nat.reduceLT, Nat.reduceEqDiff, reduceCtorEq, Int.reduceBEq, Int.reduceBNe, Int.reduceLT, Int.reduceLE, Int.reduceAdd, Int.reduceSub, Int.reduceMul, Int.reduceNeg, Int.reduceEq, Int.reduceToNat, h1])
  | m + 1, j, i, a, t, p, B, hB, hi, hj, hm, ht, hp => by
    subst hi
    have hB' := hB
    have h1 : decide ((j : Int) < (cnt : Int)) = true := by rw [decide_eq_true_eq]; omega
    have x1 := r_Next L a 5 (by omega) (by omega) hL
    have x2 := r_Next L (a + 1) 5 (by omega) (by omega) hL
    obtain ⟨b, hb, hbl⟩ := byte_of (nextS L a 5) (next_bounds L a 5 (by omega) (by omega))
    generalize hcs : (Utf8.encode (b.toNat : Int)).data.toList = c at hbl
    obtain ⟨x, hx, hxl⟩ := piece_of c hbl (nextS L (a + 1) 5) (next_bounds L (a + 1) 5 (by omega) (by omega))
    have h7 := next_id (i := j) (n := cnt) (by omega) (by omega)
    obtain ⟨t', p', a', q1, q2, ih⟩ := l_likes L hL k1 n1 s1 k2 n2 s2 cnt hc ks m (j + 1) _ (a + 1 + 1) (t ++ c) (p ++ x) B hB' rfl (by omega) (by omega) (by rw [List.length_append]; omega) (by rw [List.length_append]; omega)
    refine ⟨t', p', a', q1, q2, ?_⟩
    have k1 : (t.length + c.length ≤ strMax) = True := by unfold strMax; simp; omega
    have k2 : (p.length + x.length ≤ strMax) = True := by unfold strMax; simp; omega
    have k3 : (1 + c.length ≤ strMax) = True := by unfold strMax; simp; omega
    have k4 : (c.length + 1 ≤ strMax) = True := by unfold strMax; simp; omega
    unfold Loop at hB
    simp -implicitDefEqProofs only [↓reduceIte, go_sem, Nat.reduceAdd, Nat.reduceSub, Nat.reduceMul, Nat.reduceBEq, Nat.reduceLeDiff, Nat.reduceLT, Nat.reduceEqDiff, reduceCtorEq, Int.reduceBEq, Int.reduceBNe, Int.reduceLT, Int.reduceLE, Int.reduceAdd, Int.reduceSub, Int.reduceMul, Int.reduceNeg, Int.reduceEq, Int.reduceToNat, Tryz.f8, loopOf] at hB
    subst hB
    rw [RL_eq]
    simp -implicitDefEqProofs only [↓reduceIte, go_sem, Nat.reduceAdd, Nat.reduceSub, Nat.reduceMul, Nat.reduceBEq, Nat.reduceLeDiff, Nat.reduceLT, Nat.reduceEqDiff, reduceCtorEq, Int.reduceBEq, Int.reduceBNe, Int.reduceLT, Int.reduceLE, Int.reduceAdd, Int.reduceSub, Int.reduceMul, Int.reduceNeg, Int.reduceEq, Int.reduceToNat, h1, x1, x2, hb, hx, hcs, h7, k1, k2, k3, k4]
    repeat' ((first | refine split_cond (fun hc => ?_) (fun hc => ?_) | refine split_yes (fun hc => ?_) (fun hc => ?_) | refine split_no (fun hc => ?_) (fun hc => ?_)) <;> simp -implicitDefEqProofs only [hc, ↓reduceIte, go_sem, Nat.reduceAdd, Nat.reduceSub, Nat.reduceMul, Nat.reduceBEq, Nat.reduceLeDiff, Nat.reduceLT, Nat.reduceEqDiff, reduceCtorEq, Int.reduceBEq, Int.reduceBNe, Int.reduceLT, Int.reduceLE, Int.reduceAdd, Int.reduceSub, Int.reduceMul, Int.reduceNeg, Int.reduceEq, Int.reduceToNat, h1, x1, x2, hb, hx, hcs, h7, k1, k2, k3, k4])
    rw [ih]
theorem likes_of (L : List Int) (hL : L.length ≤ 9223372036854775807) (k n : Int) (s : List UInt8) (k' n' : Int) (s' : List UInt8) (x19 : Val) (y19 : List UInt8 → List UInt8 → Val) (h19 : R K (.call 39 [V k n s, V k' n' s'] []) = some (enc x19, [])) (g19 : R K (.call 21 [.int .i64 19, .int .i64 0, .rows [[.int .i64 k, .int .i64 n, .str s], [.int .i64 k', .int .i64 n', .str s']]] []) = some (enc x19, []))
   (h19' : ∀ t p : List UInt8, R K (.call 39 [V 3 0 t, V 3 0 p] []) = some (enc (y19 t p), [])) (g19' : ∀ t p : List UInt8, R K (.call 21 [.int .i64 19, .int .i64 0, .rows [[.int .i64 3, .int .i64 0, .str t], [.int .i64 3, .int .i64 0, .str p]]] []) = some (enc (y19 t p), [])) : R K (.call 8 [LR L, V k n s, V k' n' s'] []) = some (.bool true, []) := by
  have x1 := r_Next L 0 12 (by omega) (by omega) hL
  have b1 := next_bounds L 0 12 (by omega) (by omega)
  have e1 : ((nextS L 0 12).toNat : Int) = nextS L 0 12 := by omega
  obtain ⟨t', p', a', q1, q2, lk⟩ := l_likes L hL k n s k' n' s' (nextS L 0 12).toNat (by omega) [.code _] (nextS L 0 12).toNat 0 0 1 [] [] _ rfl rfl rfl (by omega) (by simp) (by simp)
  rw [e1] at lk
  rw [call_8]
  simp -implicitDefEqProofs only [↓reduceIte, go_sem, Nat.reduceAdd, Nat.reduceSub, Nat.reduceMul, Nat.reduceBEq, Nat.reduceLeDiff, Nat.reduceLT, Nat.reduceEqDiff, reduceCtorEq, Int.reduceBEq, Int.reduceBNe, Int.reduceLT, Int.reduceLE, Int.reduceAdd, Int.reduceSub, Int.reduceMul, Int.reduceNeg, Int.reduceEq, Int.reduceToNat, Tryz.f8, x1, Int.zero_add]
  repeat' ((first | refine split_cond (fun hc => ?_) (fun hc => ?_) | refine split_yes (fun hc => ?_) (fun hc => ?_) | refine split_no (fun hc => ?_) (fun hc => ?_)) <;> simp -implicitDefEqProofs only [hc, ↓reduceIte, go_sem, Nat.reduceAdd, Nat.reduceSub, Nat.reduceMul, Nat.reduceBEq, Nat.reduceLeDiff, Nat.reduceLT, Nat.reduceEqDiff, reduceCtorEq, Int.reduceBEq, Int.reduceBNe, Int.reduceLT, Int.reduceLE, Int.reduceAdd, Int.reduceSub, Int.reduceMul, Int.reduceNeg, Int.reduceEq, Int.reduceToNat, x1, Int.zero_add])
  rw [lk]
  simp -implicitDefEqProofs only [↓reduceIte, go_sem, Nat.reduceAdd, Nat.reduceSub, Nat.reduceMul, Nat.reduceBEq, Nat.reduceLeDiff, Nat.reduceLT, Nat.reduceEqDiff, reduceCtorEq, Int.reduceBEq, Int.reduceBNe, Int.reduceLT, Int.reduceLE, Int.reduceAdd, Int.reduceSub, Int.reduceMul, Int.reduceNeg, Int.reduceEq, Int.reduceToNat, r_values, h19, g19, h19', g19', beq_self_eq_true]
  repeat' ((first | refine split_cond (fun hc => ?_) (fun hc => ?_) | refine split_yes (fun hc => ?_) (fun hc => ?_) | refine split_no (fun hc => ?_) (fun hc => ?_)) <;> simp -implicitDefEqProofs only [hc, ↓reduceIte, go_sem, Nat.reduceAdd, Nat.reduceSub, Nat.reduceMul, Nat.reduceBEq, Nat.reduceLeDiff, Nat.reduceLT, Nat.reduceEqDiff, reduceCtorEq, Int.reduceBEq, Int.reduceBNe, Int.reduceLT, Int.reduceLE, Int.reduceAdd, Int.reduceSub, Int.reduceMul, Int.reduceNeg, Int.reduceEq, Int.reduceToNat, r_values, h19, g19, h19', g19', beq_self_eq_true])
theorem law_likes (L : List Int) (hL : L.length ≤ 9223372036854775807) (k n : Int) (s : List UInt8) (k' n' : Int) (s' : List UInt8) : R K (.call 8 [LR L, V k n s, V k' n' s'] []) = some (.bool true, []) :=
  likes_of L hL k n s k' n' s' _ (fun t p => likeV ⟨3, 0, t⟩ ⟨3, 0, p⟩) (c_Like k n s k' n' s') (by rw [r_Oper19, ← like_law]) (fun t p => c_Like 3 0 t 3 0 p) (fun t p => by rw [r_Oper19, ← like_law])
end Go.Ab
