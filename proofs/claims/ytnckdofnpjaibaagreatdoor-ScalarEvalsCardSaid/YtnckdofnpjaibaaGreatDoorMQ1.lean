/- What is proved: contracts of the program's and the reference's functions in the evaluator, and plain laws on them. Conditions: as each states. -/
import Derived.Test.YtnckdofnpjaibaaGreatDoorMC
import Derived.IntWalk
import Derived.KernelRfl
import Derived.Lib.ItoaMem
import Derived.Lib.AtoiAllCases
import Derived.Lib.ItoaLen
import Derived.Lib.CountLaws
set_option linter.unusedSimpArgs false
set_option linter.unusedVariables false
set_option maxRecDepth 100000
namespace Go.Ab
open Go Go.Proofs
structure Val where
  k : Int
  n : Int
  s : List UInt8
  deriving DecidableEq
@[go_sem] def enc (v : Val) : AV := .agg [.int .i64 v.k, .int .i64 v.n, .str v.s]
@[go_sem] theorem Val.eta (v : Val) : Val.mk v.k v.n v.s = v := rfl
def null : Val := ⟨0, 0, []⟩
def loopOf : Code → Nat → Option Code
  | .seq a b, i => match loopOf a i with
    | some c => some c
    | none => loopOf b i
  | .cond _ a b, i => match loopOf a i with
    | some c => some c
    | none => loopOf b i
  | .block j c, i => if j = i then (match c with
    | .loop b => some b
    | _ => none) else loopOf c i
  | .loop c, i => loopOf c i
  | _, _ => none
def Loop (f : Func) (i : Nat) (B : Code) : Prop := loopOf (f.body.getD .skip) i = some B
@[go_sem] theorem wrap_id {n : Int} (h1 : -9223372036854775808 ≤ n) (h2 : n ≤ 9223372036854775807) : wrapI .i64 n = n := by
  exact IntWalk.i64_in _ ⟨h1, h2⟩
theorem at_get {α : Type} {l : List α} {i : Nat} {x : α} (h : l[i]? = some x) : at? l (i : Int) = some x := by
  simp [at?, h]
theorem byte_get {s : List UInt8} {i : Nat} {b : UInt8} (h : s[i]? = some b) : at? s (i : Int) = some b := at_get h
theorem drop_get {α : Type} {l : List α} {i : Nat} {x : α} (h : l[i]? = some x) : l.drop i = x :: l.drop (i + 1) := by
  obtain ⟨h1, h2⟩ := List.getElem?_eq_some_iff.1 h
  rw [List.drop_eq_getElem_cons h1, h2]
abbrev V (k n : Int) (s : List UInt8) : AV := .agg [.int .i64 k, .int .i64 n, .str s]
def rowV (v : Val) : List AV := [.int .i64 v.k, .int .i64 v.n, .str v.s]
def within (n a b : Int) : Bool := decide (a ≤ n) && decide (n ≤ b)
theorem c_within (n a b : Int) : R K (.call 74 [.int .i64 n, .int .i64 a, .int .i64 b] []) = some (.bool (within n a b), []) := by
  rw [call_74]
  simp -implicitDefEqProofs only [go_sem, simprocAttr, Tryz.f74]
  repeat' ((first | apply split_cond | apply split_yes | apply split_no) <;> intro hc <;> simp -implicitDefEqProofs only [hc, go_sem, simprocAttr])
  all_goals simp [within, *]
theorem r_within (n a b : Int) : R K (.call 75 [.int .i64 n, .int .i64 a, .int .i64 b] []) = some (.bool (within n a b), []) := by
  rw [call_75]
  simp -implicitDefEqProofs only [go_sem, simprocAttr, Tryz.f75]
  repeat' ((first | apply split_cond | apply split_yes | apply split_no) <;> intro hc <;> simp -implicitDefEqProofs only [hc, go_sem, simprocAttr])
  all_goals simp [within, *]
def formS (v : Val) : Bool := if v.k = 0 then v.n == 0 && v.s == [] else if v.k = 3 then v.n == 0 else within v.k 1 4 && v.s == []
theorem c_form (k n : Int) (s : List UInt8) : R K (.call 119 [V k n s] []) = some (.bool (formS ⟨k, n, s⟩), []) := by
  rw [call_119]
  simp -implicitDefEqProofs only [go_sem, simprocAttr, Tryz.f119, c_within]
  repeat' ((first | apply split_cond | apply split_yes | apply split_no) <;> intro hc <;> simp -implicitDefEqProofs only [hc, go_sem, simprocAttr, c_within])
  all_goals simp_all [formS]
def ok7 (s : List UInt8) : Bool := s.all fun c => decide (32 ≤ c.toNat) && decide (c.toNat ≤ 126)
theorem ok7_cons (b : UInt8) (s : List UInt8) : ok7 (b :: s) = (decide (32 ≤ b.toNat) && decide (b.toNat ≤ 126) && ok7 s) := by simp [ok7]
theorem l_range (k n : Int) (s : List UInt8) (hs : s.length ≤ 100) (ks : List It) : ∀ (m i : Nat) (j : Int) (B : Code), Loop Tryz.f120 1 B → j = (i : Int) → s.length = i + m →
   RL K (.run 120 0 (.code B :: .lp B (some ([1, 23, 24], [])) 1 :: .blk 1 1 :: ks) [(1, .ptr 0 0), (23, .int .i64 s.length), (24, .int .i64 j)] [.cells [.int .i64 k, .int .i64 n, .str s]]) =
   if ok7 (s.drop i) = true then R K (.run 120 0 ks [] [.cells [.int .i64 k, .int .i64 n, .str s]]) else some (.bool false, [])
  | 0, i, j, B, hB, hj, hm => by
    subst hj
    have h1 : ¬ ((i : Int) < (s.length : Int)) := by omega
    unfold Loop at hB
    simp -implicitDefEqProofs only [go_sem, simprocAttr, Tryz.f120, loopOf] at hB
    subst hB
    rw [RL_eq]
    simp -implicitDefEqProofs only [go_sem, simprocAttr, h1]
    rw [List.drop_of_length_le (by omega)]
    rfl
  | m + 1, i, j, B, hB, hj, hm => by
    subst hj
    have h1 : ((i : Int) < (s.length : Int)) := by omega
    have hB' := hB
    obtain ⟨b, hb⟩ : ∃ b, s[i]? = some b := ⟨s[i]'(by omega), List.getElem?_eq_getElem _⟩
    have hg := byte_get hb
    have hw : wrapI .i64 ((i : Int) + 1) = ((i + 1 : Nat) : Int) := by rw [wrap_id (by omega) (by omega)]; rfl
    unfold Loop at hB
    simp -implicitDefEqProofs only [go_sem, simprocAttr, Tryz.f120, loopOf] at hB
    subst hB
    rw [RL_eq]
    rw [drop_get hb]
    have ih := l_range k n s hs ks m (i + 1) _ _ hB' rfl (by omega)
    simp -implicitDefEqProofs only [go_sem, simprocAttr, h1, hg, hw]
    repeat' ((first | apply split_cond | apply split_yes | apply split_no) <;> intro hc <;> simp -implicitDefEqProofs only [hc, go_sem, simprocAttr, h1, hg, hw])
    all_goals simp only [decide_eq_true_eq, decide_eq_false_iff_not] at *
    · have : ok7 (b :: s.drop (i + 1)) = false := by simp [ok7_cons]; omega
      simp [this]
    · have : ok7 (b :: s.drop (i + 1)) = false := by simp [ok7_cons]; omega
      simp [this]
    · have : ok7 (b :: s.drop (i + 1)) = ok7 (s.drop (i + 1)) := by
        have : 32 ≤ b.toNat ∧ b.toNat ≤ 126 := by omega
        simp [ok7_cons, this]
      rw [this, ih]
def rangeS (v : Val) : Bool := if v.k = 1 then within v.n 0 1 else if v.k = 2 then within v.n (-999999999999999) 999999999999999 else if v.k = 4 then within v.n 0 253402300799 else ok7 v.s
theorem c_range (k n : Int) (s : List UInt8) (hs : s.length ≤ 100) : R K (.call 120 [V k n s] []) = some (.bool (rangeS ⟨k, n, s⟩), []) := by
  rw [call_120]
  simp -implicitDefEqProofs only [go_sem, simprocAttr, Tryz.f120, c_within]
  repeat' ((first | apply split_cond | apply split_yes | apply split_no) <;> intro hc <;> simp -implicitDefEqProofs only [hc, go_sem, simprocAttr, c_within])
  · simp_all [rangeS]
  · simp_all [rangeS]
  · simp_all [rangeS]
  · rw [l_range k n s hs _ s.length 0 0 _ ?_ rfl (by omega), List.drop_zero]
    · split
      · simp -implicitDefEqProofs only [go_sem, simprocAttr]
        simp_all [rangeS]
      · simp_all [rangeS]
    · rfl
def rightS (v : Val) : Bool := formS v && (decide (v.s.length ≤ 100) && rangeS v)
theorem c_right (k n : Int) (s : List UInt8) : R K (.call 55 [V k n s] []) = some (.bool (rightS ⟨k, n, s⟩), []) := by
  by_cases hs : s.length ≤ 100
  · have hs' : (s.length : Int) ≤ 100 := by omega
    rw [call_55]
    simp -implicitDefEqProofs only [go_sem, simprocAttr, Tryz.f55, c_form, c_range k n s hs, hs']
    repeat' ((first | apply split_cond | apply split_yes | apply split_no) <;> intro hc <;> simp -implicitDefEqProofs only [hc, go_sem, simprocAttr, c_form, c_range k n s hs, hs'])
    all_goals simp_all [rightS] <;> omega
  · have hs' : ¬ (s.length : Int) ≤ 100 := by omega
    rw [call_55]
    simp -implicitDefEqProofs only [go_sem, simprocAttr, Tryz.f55, c_form, hs']
    repeat' ((first | apply split_cond | apply split_yes | apply split_no) <;> intro hc <;> simp -implicitDefEqProofs only [hc, go_sem, simprocAttr, c_form, hs'])
    all_goals simp_all [rightS] <;> omega
def plainV (v : Val) : Val := if rightS v = true then v else null
theorem c_plain (k n : Int) (s : List UInt8) : R K (.call 57 [V k n s] []) = some (enc (plainV ⟨k, n, s⟩), []) := by
  rw [call_57]
  simp -implicitDefEqProofs only [go_sem, simprocAttr, Tryz.f57, c_right]
  repeat' ((first | apply split_cond | apply split_yes | apply split_no) <;> intro hc <;> simp -implicitDefEqProofs only [hc, go_sem, simprocAttr, c_right])
  all_goals simp_all [plainV, null]
def boolV (b : Bool) : Val := ⟨1, if b = true then 1 else 0, []⟩
theorem c_boolean (b : Bool) : R K (.call 68 [.bool b] []) = some (enc (boolV b), []) := by
  rw [call_68]
  simp -implicitDefEqProofs only [go_sem, simprocAttr, Tryz.f68]
  repeat' ((first | apply split_cond | apply split_yes | apply split_no) <;> intro hc <;> simp -implicitDefEqProofs only [hc, go_sem, simprocAttr])
  all_goals simp_all [boolV]
theorem r_Truth (b : Bool) : R K (.call 71 [.bool b] []) = some (enc (boolV b), []) := by
  rw [call_71]
  simp -implicitDefEqProofs only [go_sem, simprocAttr, Tryz.f71]
  repeat' ((first | apply split_cond | apply split_yes | apply split_no) <;> intro hc <;> simp -implicitDefEqProofs only [hc, go_sem, simprocAttr])
  all_goals simp_all [boolV]
def isS (v : Val) (b : Bool) : Bool := decide (v = boolV b)
theorem val_eq (a b : Val) : (a.k == b.k && (a.n == b.n && a.s == b.s)) = decide (a = b) := by
  cases a; cases b; rw [Bool.eq_iff_iff]; simp
theorem c_is (k n : Int) (s : List UInt8) (b : Bool) : R K (.call 76 [V k n s, .bool b] []) = some (.bool (isS ⟨k, n, s⟩ b), []) := by
  rw [call_76]
  simp -implicitDefEqProofs only [go_sem, simprocAttr, Tryz.f76, c_boolean]
  exact congrArg (fun x => (AV.bool x, ([] : Heap))) (val_eq ⟨k, n, s⟩ (boolV b))
def notS (a : Val) : Val := if isS a true || isS a false then boolV (isS a false) else null
theorem c_Not (k n : Int) (s : List UInt8) : R K (.call 20 [V k n s] []) = some (enc (notS ⟨k, n, s⟩), []) := by
  rw [call_20]
  simp -implicitDefEqProofs only [go_sem, simprocAttr, Tryz.f20, c_is, c_boolean]
  repeat' ((first | apply split_cond | apply split_yes | apply split_no) <;> intro hc <;> simp -implicitDefEqProofs only [hc, go_sem, simprocAttr, c_is, c_boolean])
  all_goals simp_all [notS, null]
def andS (a b : Val) : Val := if isS a false || isS b false then boolV false else if isS a true && isS b true then boolV true else null
theorem c_And (k n : Int) (s : List UInt8) (k' n' : Int) (s' : List UInt8) : R K (.call 22 [V k n s, V k' n' s'] []) = some (enc (andS ⟨k, n, s⟩ ⟨k', n', s'⟩), []) := by
  rw [call_22]
  simp -implicitDefEqProofs only [go_sem, simprocAttr, Tryz.f22, c_is, c_boolean]
  repeat' ((first | apply split_cond | apply split_yes | apply split_no) <;> intro hc <;> simp -implicitDefEqProofs only [hc, go_sem, simprocAttr, c_is, c_boolean])
  all_goals simp_all [andS, null]
def orS (a b : Val) : Val := notS (andS (notS a) (notS b))
theorem c_Or (k n : Int) (s : List UInt8) (k' n' : Int) (s' : List UInt8) : R K (.call 23 [V k n s, V k' n' s'] []) = some (enc (orS ⟨k, n, s⟩ ⟨k', n', s'⟩), []) := by
  rw [call_23]
  simp -implicitDefEqProofs only [go_sem, simprocAttr, Tryz.f23, c_Not, c_And]
  all_goals simp_all [orS]
def cmpS (a b : Val) : Bool := (plainV a).k != 0 && (plainV a).k == (plainV b).k
theorem c_comparable (k n : Int) (s : List UInt8) (k' n' : Int) (s' : List UInt8) : R K (.call 85 [V k n s, V k' n' s'] []) = some (.bool (cmpS ⟨k, n, s⟩ ⟨k', n', s'⟩), []) := by
  rw [call_85]
  simp -implicitDefEqProofs only [go_sem, simprocAttr, Tryz.f85, c_plain]
  repeat' ((first | apply split_cond | apply split_yes | apply split_no) <;> intro hc <;> simp -implicitDefEqProofs only [hc, go_sem, simprocAttr, c_plain])
  all_goals simp_all [cmpS] <;> (intro h; rw [← h]; assumption)
def equalS (a b : Val) : Val := if cmpS a b then boolV (decide (a = b)) else null
theorem c_Equal (k n : Int) (s : List UInt8) (k' n' : Int) (s' : List UInt8) : R K (.call 24 [V k n s, V k' n' s'] []) = some (enc (equalS ⟨k, n, s⟩ ⟨k', n', s'⟩), []) := by
  have hv := val_eq ⟨k, n, s⟩ ⟨k', n', s'⟩
  simp only at hv
  rw [call_24]
  simp -implicitDefEqProofs only [go_sem, simprocAttr, Tryz.f24, c_comparable, c_boolean, hv]
  repeat' ((first | apply split_cond | apply split_yes | apply split_no) <;> intro hc <;> simp -implicitDefEqProofs only [hc, go_sem, simprocAttr, c_comparable, c_boolean, hv])
  all_goals simp_all [equalS, null]
def sameS (a b : Val) : Val := boolV (decide (plainV a = plainV b))
theorem c_Same (k n : Int) (s : List UInt8) (k' n' : Int) (s' : List UInt8) : R K (.call 26 [V k n s, V k' n' s'] []) = some (enc (sameS ⟨k, n, s⟩ ⟨k', n', s'⟩), []) := by
  rw [call_26]
  simp -implicitDefEqProofs only [go_sem, simprocAttr, Tryz.f26, c_plain, c_boolean, val_eq]
  all_goals simp_all [sameS]
def numberS (k n : Int) : Val := plainV ⟨k, n, []⟩
theorem c_number (k n : Int) : R K (.call 69 [.int .i64 k, .int .i64 n] []) = some (enc (numberS k n), []) := by
  rw [call_69]
  simp -implicitDefEqProofs only [go_sem, simprocAttr, Tryz.f69, c_plain]
  all_goals simp_all [numberS]
def textS (s : List UInt8) : Val := plainV ⟨3, 0, s⟩
theorem c_text (s : List UInt8) : R K (.call 65 [.str s] []) = some (enc (textS s), []) := by
  rw [call_65]
  simp -implicitDefEqProofs only [go_sem, simprocAttr, Tryz.f65, c_plain]
  all_goals simp_all [textS]
theorem row_get {l : List Val} {i : Nat} {v : Val} (h : l[i]? = some v) : at? (l.map rowV) (i : Int) = some (rowV v) := at_get (by simp [h])
theorem next_id {i n : Nat} (h : i < n) (hn : n ≤ 9223372036854775807) : wrapI .i64 ((i : Int) + 1) = ((i + 1 : Nat) : Int) := by rw [wrap_id (by omega) (by omega)]; rfl
theorem some_at {α : Type} {l : List α} {i : Nat} (h : i < l.length) : ∃ x, l[i]? = some x := ⟨l[i], List.getElem?_eq_getElem h⟩
def allK (k : Int) (l : List Val) : Bool := l.all fun v => (plainV v).k == k
theorem l_ints (l : List Val) (hl : l.length ≤ 9223372036854775807) (ks : List It) : ∀ (m i : Nat) (j : Int) (B : Code), Loop Tryz.f87 0 B → j = (i : Int) → l.length = i + m →
   RL K (.run 87 0 (.code B :: .lp B (some ([5, 6, 7], [])) 0 :: .blk 0 0 :: ks) [(5, .rows (l.map rowV)), (6, .int .i64 l.length), (7, .int .i64 j)] []) =
   if allK 2 (l.drop i) = true then R K (.run 87 0 ks [] []) else some (.bool false, [])
  | 0, i, j, B, hB, hj, hm => by
    subst hj
    have h1 : ¬ ((i : Int) < (l.length : Int)) := by omega
    unfold Loop at hB
    simp -implicitDefEqProofs only [go_sem, simprocAttr, Tryz.f87, loopOf] at hB
    subst hB
    rw [RL_eq]
    simp -implicitDefEqProofs only [go_sem, simprocAttr, h1]
    rw [List.drop_of_length_le (by omega)]
    rfl
  | m + 1, i, j, B, hB, hj, hm => by
    subst hj
    have h1 : ((i : Int) < (l.length : Int)) := by omega
    have hB' := hB
    obtain ⟨v, hv⟩ := some_at (l := l) (i := i) (by omega)
    have hg := row_get hv
    have hw := next_id (i := i) (n := l.length) (by omega) hl
    unfold Loop at hB
    simp -implicitDefEqProofs only [go_sem, simprocAttr, Tryz.f87, loopOf] at hB
    subst hB
    rw [RL_eq]
    rw [drop_get hv]
    have ih := l_ints l hl ks m (i + 1) _ _ hB' rfl (by omega)
    simp -implicitDefEqProofs only [go_sem, simprocAttr, h1, hg, hw, rowV, c_plain]
    repeat' ((first | apply split_cond | apply split_yes | apply split_no) <;> intro hc <;> simp -implicitDefEqProofs only [hc, go_sem, simprocAttr, h1, hg, hw, rowV, c_plain])
    · simp_all [allK]
    · rw [ih]
      simp_all [allK]
theorem c_ints (l : List Val) (hl : l.length ≤ 9223372036854775807) : R K (.call 87 [.rows (l.map rowV)] []) = some (.bool (allK 2 l), []) := by
  rw [call_87]
  simp -implicitDefEqProofs only [go_sem, simprocAttr, Tryz.f87]
  rw [l_ints l hl _ l.length 0 0 _ ?_ rfl (by omega), List.drop_zero]
  · split
    · simp -implicitDefEqProofs only [go_sem, simprocAttr]
      simp_all
    · simp_all
  · rfl
theorem l_texts (l : List Val) (hl : l.length ≤ 9223372036854775807) (ks : List It) : ∀ (m i : Nat) (j : Int) (B : Code), Loop Tryz.f89 0 B → j = (i : Int) → l.length = i + m →
   RL K (.run 89 0 (.code B :: .lp B (some ([5, 6, 7], [])) 0 :: .blk 0 0 :: ks) [(5, .rows (l.map rowV)), (6, .int .i64 l.length), (7, .int .i64 j)] []) =
   if allK 3 (l.drop i) = true then R K (.run 89 0 ks [] []) else some (.bool false, [])
  | 0, i, j, B, hB, hj, hm => by
    subst hj
    have h1 : ¬ ((i : Int) < (l.length : Int)) := by omega
    unfold Loop at hB
    simp -implicitDefEqProofs only [go_sem, simprocAttr, Tryz.f89, loopOf] at hB
    subst hB
    rw [RL_eq]
    simp -implicitDefEqProofs only [go_sem, simprocAttr, h1]
    rw [List.drop_of_length_le (by omega)]
    rfl
  | m + 1, i, j, B, hB, hj, hm => by
    subst hj
    have h1 : ((i : Int) < (l.length : Int)) := by omega
    have hB' := hB
    obtain ⟨v, hv⟩ := some_at (l := l) (i := i) (by omega)
    have hg := row_get hv
    have hw := next_id (i := i) (n := l.length) (by omega) hl
    unfold Loop at hB
    simp -implicitDefEqProofs only [go_sem, simprocAttr, Tryz.f89, loopOf] at hB
    subst hB
    rw [RL_eq]
    rw [drop_get hv]
    have ih := l_texts l hl ks m (i + 1) _ _ hB' rfl (by omega)
    simp -implicitDefEqProofs only [go_sem, simprocAttr, h1, hg, hw, rowV, c_plain]
    repeat' ((first | apply split_cond | apply split_yes | apply split_no) <;> intro hc <;> simp -implicitDefEqProofs only [hc, go_sem, simprocAttr, h1, hg, hw, rowV, c_plain])
    · simp_all [allK]
    · rw [ih]
      simp_all [allK]
theorem c_texts (l : List Val) (hl : l.length ≤ 9223372036854775807) : R K (.call 89 [.rows (l.map rowV)] []) = some (.bool (allK 3 l), []) := by
  rw [call_89]
  simp -implicitDefEqProofs only [go_sem, simprocAttr, Tryz.f89]
  rw [l_texts l hl _ l.length 0 0 _ ?_ rfl (by omega), List.drop_zero]
  · split
    · simp -implicitDefEqProofs only [go_sem, simprocAttr]
      simp_all
    · simp_all
  · rfl
def isK (k : Int) (v : Val) : Bool := (plainV v).k == k
theorem c_ints1 (k n : Int) (s : List UInt8) : R K (.call 87 [.rows [[.int .i64 k, .int .i64 n, .str s]]] []) = some (.bool (isK 2 ⟨k, n, s⟩), []) := by
  have := c_ints [⟨k, n, s⟩] (by simp)
  simpa [allK, rowV, isK] using this
theorem c_ints2 (k n : Int) (s : List UInt8) (k' n' : Int) (s' : List UInt8) : R K (.call 87 [.rows [[.int .i64 k, .int .i64 n, .str s], [.int .i64 k', .int .i64 n', .str s']]] []) = some (.bool (isK 2 ⟨k, n, s⟩ && isK 2 ⟨k', n', s'⟩), []) := by
  have := c_ints [⟨k, n, s⟩, ⟨k', n', s'⟩] (by simp)
  simpa [allK, rowV, isK] using this
theorem c_texts1 (k n : Int) (s : List UInt8) : R K (.call 89 [.rows [[.int .i64 k, .int .i64 n, .str s]]] []) = some (.bool (isK 3 ⟨k, n, s⟩), []) := by
  have := c_texts [⟨k, n, s⟩] (by simp)
  simpa [allK, rowV, isK] using this
theorem c_texts2 (k n : Int) (s : List UInt8) (k' n' : Int) (s' : List UInt8) : R K (.call 89 [.rows [[.int .i64 k, .int .i64 n, .str s], [.int .i64 k', .int .i64 n', .str s']]] []) = some (.bool (isK 3 ⟨k, n, s⟩ && isK 3 ⟨k', n', s'⟩), []) := by
  have := c_texts [⟨k, n, s⟩, ⟨k', n', s'⟩] (by simp)
  simpa [allK, rowV, isK] using this
def cmpI (a b : Int) : Int := if a < b then -1 else if b < a then 1 else 0
theorem c_nanI (x : Int) : R K (.call 200 [.int .i64 x] []) = some (.bool false, []) := by
  rw [call_200]
  simp -implicitDefEqProofs only [go_sem, simprocAttr, Tryz.f200]
  all_goals simp
theorem c_cmpI (a b : Int) : R K (.call 138 [.int .i64 a, .int .i64 b] []) = some (.int .i64 (cmpI a b), []) := by
  rw [call_138]
  simp -implicitDefEqProofs only [go_sem, simprocAttr, Tryz.f138, c_nanI]
  repeat' ((first | apply split_cond | apply split_yes | apply split_no) <;> intro hc <;> simp -implicitDefEqProofs only [hc, go_sem, simprocAttr, c_nanI])
  all_goals (simp only [decide_eq_true_eq, decide_eq_false_iff_not] at *; simp [cmpI, *])
def cmpB (a b : List UInt8) : Int := if Op.bytesLess a b then -1 else if a = b then 0 else 1
theorem c_nanS (x : List UInt8) : R K (.call 201 [.str x] []) = some (.bool false, []) := by
  rw [call_201]
  simp -implicitDefEqProofs only [go_sem, simprocAttr, Tryz.f201]
  all_goals simp
theorem c_cmpB (a b : List UInt8) : R K (.call 139 [.str a, .str b] []) = some (.int .i64 (cmpB a b), []) := by
  rw [call_139]
  simp -implicitDefEqProofs only [go_sem, simprocAttr, Tryz.f139, c_nanS]
  repeat' ((first | apply split_cond | apply split_yes | apply split_no) <;> intro hc <;> simp -implicitDefEqProofs only [hc, go_sem, simprocAttr, c_nanS])
  all_goals simp_all [cmpB]
def firstN : List Int → Int
  | [] => 0
  | a :: r => if a ≠ 0 then a else firstN r
theorem l_or (l : List Int) (hl : l.length ≤ 9223372036854775807) (ks : List It) : ∀ (m i : Nat) (j : Int) (B : Code), Loop Tryz.f137 0 B → j = (i : Int) → l.length = i + m →
   RL K (.run 137 0 (.code B :: .lp B (some ([3, 6, 7, 8], [])) 0 :: .blk 0 0 :: ks) [(3, .int .i64 0), (6, .rows (l.map fun x => [.int .i64 x])), (7, .int .i64 l.length), (8, .int .i64 j)] []) =
   if firstN (l.drop i) = 0 then R K (.run 137 0 ks [(3, .int .i64 0)] []) else some (.int .i64 (firstN (l.drop i)), [])
  | 0, i, j, B, hB, hj, hm => by
    subst hj
    have h1 : ¬ ((i : Int) < (l.length : Int)) := by omega
    unfold Loop at hB
    simp -implicitDefEqProofs only [go_sem, simprocAttr, Tryz.f137, loopOf] at hB
    subst hB
    rw [RL_eq]
    simp -implicitDefEqProofs only [go_sem, simprocAttr, h1]
    rw [List.drop_of_length_le (by omega)]
    rfl
  | m + 1, i, j, B, hB, hj, hm => by
    subst hj
    have h1 : ((i : Int) < (l.length : Int)) := by omega
    have hB' := hB
    obtain ⟨v, hv⟩ := some_at (l := l) (i := i) (by omega)
    have hg : at? (l.map fun x => [AV.int .i64 x]) (i : Int) = some [.int .i64 v] := at_get (by simp [hv])
    have hw := next_id (i := i) (n := l.length) (by omega) hl
    unfold Loop at hB
    simp -implicitDefEqProofs only [go_sem, simprocAttr, Tryz.f137, loopOf] at hB
    subst hB
    rw [RL_eq]
    rw [drop_get hv]
    have ih := l_or l hl ks m (i + 1) _ _ hB' rfl (by omega)
    simp -implicitDefEqProofs only [go_sem, simprocAttr, h1, hg, hw]
    repeat' ((first | apply split_cond | apply split_yes | apply split_no) <;> intro hc <;> simp -implicitDefEqProofs only [hc, go_sem, simprocAttr, h1, hg, hw])
    · simp_all [firstN]
    · rw [ih]
      simp_all [firstN]
theorem c_or3 (a b c : Int) : R K (.call 137 [.rows [[.int .i64 a], [.int .i64 b], [.int .i64 c]]] []) = some (.int .i64 (firstN [a, b, c]), []) := by
  rw [call_137]
  simp -implicitDefEqProofs only [go_sem, simprocAttr, Tryz.f137]
  have := l_or [a, b, c] (by simp)
  simp only [List.map_cons, List.map_nil, List.length_cons, List.length_nil, Nat.zero_add, Nat.reduceAdd, Int.cast_ofNat_Int] at this
  rw [this _ 3 0 0 _ ?_ rfl (by omega), List.drop_zero]
  · split
    · simp -implicitDefEqProofs only [go_sem, simprocAttr]
      simp_all
    · simp_all
  · rfl
def orderS (a b : Val) : Int := firstN [cmpI a.k b.k, cmpI a.n b.n, cmpB a.s b.s]
theorem c_order (k n : Int) (s : List UInt8) (k' n' : Int) (s' : List UInt8) : R K (.call 86 [V k n s, V k' n' s'] []) = some (.int .i64 (orderS ⟨k, n, s⟩ ⟨k', n', s'⟩), []) := by
  rw [call_86]
  simp -implicitDefEqProofs only [go_sem, simprocAttr, Tryz.f86, c_cmpI, c_cmpB, c_or3]
  all_goals simp_all [orderS]
def lessS (a b : Val) : Val := if cmpS a b then boolV (decide (orderS a b < 0)) else null
theorem c_Less (k n : Int) (s : List UInt8) (k' n' : Int) (s' : List UInt8) : R K (.call 25 [V k n s, V k' n' s'] []) = some (enc (lessS ⟨k, n, s⟩ ⟨k', n', s'⟩), []) := by
  rw [call_25]
  simp -implicitDefEqProofs only [go_sem, simprocAttr, Tryz.f25, c_comparable, c_order, c_boolean]
  repeat' ((first | apply split_cond | apply split_yes | apply split_no) <;> intro hc <;> simp -implicitDefEqProofs only [hc, go_sem, simprocAttr, c_comparable, c_order, c_boolean])
  all_goals simp_all [lessS, null]
def addS (a b : Val) : Val := if isK 2 b && (isK 2 a || isK 4 a) then numberS a.k (wrapI .i64 (a.n + b.n)) else null
theorem c_Add (k n : Int) (s : List UInt8) (k' n' : Int) (s' : List UInt8) : R K (.call 27 [V k n s, V k' n' s'] []) = some (enc (addS ⟨k, n, s⟩ ⟨k', n', s'⟩), []) := by
  rw [call_27]
  simp -implicitDefEqProofs only [go_sem, simprocAttr, Tryz.f27, c_ints1, c_plain, c_number]
  repeat' ((first | apply split_cond | apply split_yes | apply split_no) <;> intro hc <;> simp -implicitDefEqProofs only [hc, go_sem, simprocAttr, c_ints1, c_plain, c_number])
  all_goals simp_all [addS, null, isK]
def negS (a : Val) : Val := if isK 2 a then numberS 2 (wrapI .i64 (0 - a.n)) else null
theorem c_Neg (k n : Int) (s : List UInt8) : R K (.call 32 [V k n s] []) = some (enc (negS ⟨k, n, s⟩), []) := by
  rw [call_32]
  simp -implicitDefEqProofs only [go_sem, simprocAttr, Tryz.f32, c_ints1, c_number]
  repeat' ((first | apply split_cond | apply split_yes | apply split_no) <;> intro hc <;> simp -implicitDefEqProofs only [hc, go_sem, simprocAttr, c_ints1, c_number])
  all_goals simp_all [negS, null]
def subS (a b : Val) : Val := if isK 4 a && isK 4 b then numberS 2 (wrapI .i64 (a.n - b.n)) else if isK 2 b then addS a (negS b) else null
theorem c_Sub (k n : Int) (s : List UInt8) (k' n' : Int) (s' : List UInt8) : R K (.call 28 [V k n s, V k' n' s'] []) = some (enc (subS ⟨k, n, s⟩ ⟨k', n', s'⟩), []) := by
  rw [call_28]
  simp -implicitDefEqProofs only [go_sem, simprocAttr, Tryz.f28, c_ints1, c_plain, c_number, c_Neg, c_Add]
  repeat' ((first | apply split_cond | apply split_yes | apply split_no) <;> intro hc <;> simp -implicitDefEqProofs only [hc, go_sem, simprocAttr, c_ints1, c_plain, c_number, c_Neg, c_Add])
  all_goals simp_all [subS, null, isK]
def floorS (a b : Int) : Int := if a.tmod b ≠ 0 ∧ (decide (a < 0) != decide (b < 0)) = true then wrapI .i64 (wrapI .i64 (a.tdiv b) - 1) else wrapI .i64 (a.tdiv b)
theorem c_floor (a b : Int) (hb : b ≠ 0) : R K (.call 88 [.int .i64 a, .int .i64 b] []) = some (.int .i64 (floorS a b), []) := by
  rw [call_88]
  simp -implicitDefEqProofs only [go_sem, simprocAttr, Tryz.f88, hb]
  repeat' ((first | apply split_cond | apply split_yes | apply split_no) <;> intro hc <;> simp -implicitDefEqProofs only [hc, go_sem, simprocAttr, hb])
  all_goals simp_all [floorS]
def divS (a b : Val) : Val := if isK 2 a && isK 2 b && !(b.n == 0) then numberS 2 (floorS a.n b.n) else null
theorem c_Div (k n : Int) (s : List UInt8) (k' n' : Int) (s' : List UInt8) : R K (.call 30 [V k n s, V k' n' s'] []) = some (enc (divS ⟨k, n, s⟩ ⟨k', n', s'⟩), []) := by
  by_cases hb : n' = 0
  · subst hb
    rw [call_30]
    simp -implicitDefEqProofs only [go_sem, simprocAttr, Tryz.f30, c_ints2, c_number]
    repeat' ((first | apply split_cond | apply split_yes | apply split_no) <;> intro hc <;> simp -implicitDefEqProofs only [hc, go_sem, simprocAttr, c_ints2, c_number])
    all_goals simp_all [divS, null] <;> (rcases hc with hc | hc <;> simp [hc])
  · rw [call_30]
    simp -implicitDefEqProofs only [go_sem, simprocAttr, Tryz.f30, c_ints2, c_number, c_floor _ _ hb, hb]
    repeat' ((first | apply split_cond | apply split_yes | apply split_no) <;> intro hc <;> simp -implicitDefEqProofs only [hc, go_sem, simprocAttr, c_ints2, c_number, c_floor _ _ hb, hb])
    all_goals simp_all [divS, null] <;> (rcases hc with hc | hc <;> simp [hc])
def modS (a b : Val) : Val := if isK 2 a && isK 2 b && !(b.n == 0) then numberS 2 (wrapI .i64 (a.n - wrapI .i64 (b.n * floorS a.n b.n))) else null
theorem c_Mod (k n : Int) (s : List UInt8) (k' n' : Int) (s' : List UInt8) : R K (.call 31 [V k n s, V k' n' s'] []) = some (enc (modS ⟨k, n, s⟩ ⟨k', n', s'⟩), []) := by
  by_cases hb : n' = 0
  · subst hb
    rw [call_31]
    simp -implicitDefEqProofs only [go_sem, simprocAttr, Tryz.f31, c_ints2, c_number]
    repeat' ((first | apply split_cond | apply split_yes | apply split_no) <;> intro hc <;> simp -implicitDefEqProofs only [hc, go_sem, simprocAttr, c_ints2, c_number])
    all_goals simp_all [modS, null] <;> (rcases hc with hc | hc <;> simp [hc])
  · rw [call_31]
    simp -implicitDefEqProofs only [go_sem, simprocAttr, Tryz.f31, c_ints2, c_number, c_floor _ _ hb, hb]
    repeat' ((first | apply split_cond | apply split_yes | apply split_no) <;> intro hc <;> simp -implicitDefEqProofs only [hc, go_sem, simprocAttr, c_ints2, c_number, c_floor _ _ hb, hb])
    all_goals simp_all [modS, null] <;> (rcases hc with hc | hc <;> simp [hc])
theorem plain_len (v : Val) (h : (plainV v).k = 3) : (plainV v) = v ∧ v.s.length ≤ 100 ∧ ok7 v.s = true := by
  unfold plainV at h ⊢
  split at h
  · rename_i hr
    have hk : v.k = 3 := by simpa [hr] using h
    simp only [rightS, Bool.and_eq_true, decide_eq_true_eq] at hr
    obtain ⟨h1, h2, h3⟩ := hr
    refine ⟨by simp [rightS, h1, h2, h3], h2, ?_⟩
    simpa [rangeS, hk] using h3
  · simp [null] at h
def concatS (a b : Val) : Val := if isK 3 a && isK 3 b then textS (a.s ++ b.s) else null
theorem c_Concat (k n : Int) (s : List UInt8) (k' n' : Int) (s' : List UInt8) : R K (.call 33 [V k n s, V k' n' s'] []) = some (enc (concatS ⟨k, n, s⟩ ⟨k', n', s'⟩), []) := by
  by_cases hs : s.length + s'.length ≤ strMax
  · rw [call_33]
    simp -implicitDefEqProofs only [go_sem, simprocAttr, Tryz.f33, c_texts2, c_text, hs]
    repeat' ((first | apply split_cond | apply split_yes | apply split_no) <;> intro hc <;> simp -implicitDefEqProofs only [hc, go_sem, simprocAttr, c_texts2, c_text, hs])
    all_goals simp_all [concatS, null] <;> (rcases hc with hc | hc <;> simp [hc])
  · have : ¬ (isK 3 ⟨k, n, s⟩ && isK 3 ⟨k', n', s'⟩) = true := by
      intro h
      simp only [isK, Bool.and_eq_true, beq_iff_eq] at h
      have h1 := (plain_len _ h.1).2.1
      have h2 := (plain_len _ h.2).2.1
      simp only at h1 h2
      unfold strMax at hs
      omega
    have h2 : (isK 3 ⟨k, n, s⟩ && isK 3 ⟨k', n', s'⟩) = false := by simpa using this
    rw [call_33]
    simp -implicitDefEqProofs only [go_sem, simprocAttr, Tryz.f33, c_texts2, h2]
    have h3 : concatS ⟨k, n, s⟩ ⟨k', n', s'⟩ = null := by unfold concatS; rw [h2]; rfl
    rw [h3]
    rfl
def lengthS (a : Val) : Val := if isK 3 a then numberS 2 a.s.length else null
theorem c_Length (k n : Int) (s : List UInt8) : R K (.call 34 [V k n s] []) = some (enc (lengthS ⟨k, n, s⟩), []) := by
  rw [call_34]
  simp -implicitDefEqProofs only [go_sem, simprocAttr, Tryz.f34, c_texts1, c_number]
  repeat' ((first | apply split_cond | apply split_yes | apply split_no) <;> intro hc <;> simp -implicitDefEqProofs only [hc, go_sem, simprocAttr, c_texts1, c_number])
  all_goals simp_all [lengthS, null]
theorem byteRows_get : ∀ (s : List UInt8) (i : Nat) (b : UInt8), s[i]? = some b → (byteRows s)[i]? = some [.int .u8 (b.toNat : Int)]
  | [], i, b, h => by simp at h
  | c :: r, 0, b, h => by simp at h; subst h; rfl
  | c :: r, i + 1, b, h => by simpa [byteRows] using byteRows_get r i b (by simpa using h)
theorem l_rplain (s : List UInt8) (hs : s.length ≤ 100) (ks : List It) : ∀ (m i : Nat) (j : Int) (B : Code), Loop Tryz.f259 0 B → j = (i : Int) → s.length = i + m →
   RL K (.run 259 0 (.code B :: .lp B (some ([6, 7, 8], [])) 0 :: .blk 0 0 :: ks) [(6, .rows (byteRows s)), (7, .int .i64 s.length), (8, .int .i64 j)] []) =
   if ok7 (s.drop i) = true then R K (.run 259 0 ks [] []) else some (.bool false, [])
  | 0, i, j, B, hB, hj, hm => by
    subst hj
    have h1 : ¬ ((i : Int) < (s.length : Int)) := by omega
    unfold Loop at hB
    simp -implicitDefEqProofs only [go_sem, simprocAttr, Tryz.f259, loopOf] at hB
    subst hB
    rw [RL_eq]
    simp -implicitDefEqProofs only [go_sem, simprocAttr, h1]
    rw [List.drop_of_length_le (by omega)]
    rfl
  | m + 1, i, j, B, hB, hj, hm => by
    subst hj
    have h1 : ((i : Int) < (s.length : Int)) := by omega
    have hB' := hB
    obtain ⟨b, hb⟩ := some_at (l := s) (i := i) (by omega)
    have hg := at_get (byteRows_get s i b hb)
    have hw := next_id (i := i) (n := s.length) (by omega) (by omega)
    unfold Loop at hB
    simp -implicitDefEqProofs only [go_sem, simprocAttr, Tryz.f259, loopOf] at hB
    subst hB
    rw [RL_eq]
    rw [drop_get hb]
    have ih := l_rplain s hs ks m (i + 1) _ _ hB' rfl (by omega)
    simp -implicitDefEqProofs only [go_sem, simprocAttr, h1, hg, hw]
    repeat' ((first | apply split_cond | apply split_yes | apply split_no) <;> intro hc <;> simp -implicitDefEqProofs only [hc, go_sem, simprocAttr, h1, hg, hw])
    all_goals simp only [decide_eq_true_eq, decide_eq_false_iff_not] at *
    · have : ok7 (b :: s.drop (i + 1)) = false := by simp [ok7_cons]; omega
      simp [this]
    · have : ok7 (b :: s.drop (i + 1)) = false := by simp [ok7_cons]; omega
      simp [this]
    · have : ok7 (b :: s.drop (i + 1)) = ok7 (s.drop (i + 1)) := by
        have : 32 ≤ b.toNat ∧ b.toNat ≤ 126 := by omega
        simp [ok7_cons, this]
      rw [this, ih]
theorem r_plain (s : List UInt8) (hs : s.length ≤ 100) : R K (.call 259 [.str s] []) = some (.bool (ok7 s), []) := by
  rw [call_259]
  simp -implicitDefEqProofs only [go_sem, simprocAttr, Tryz.f259, byteRows_len]
  rw [l_rplain s hs _ s.length 0 0 _ ?_ rfl (by omega), List.drop_zero]
  · split
    · simp -implicitDefEqProofs only [go_sem, simprocAttr]
      simp_all
    · simp_all
  · rfl
def faultS (v : Val) : Int :=
  if !(within v.k 0 4) || (v.k != 3 && v.s != []) || ((v.k == 3 || v.k == 0) && v.n != 0) then 3
  else if 100 < v.s.length then 2
  else if !(ok7 v.s) || (v.k == 1 && !(within v.n 0 1)) || (v.k == 2 && !(within v.n (-999999999999999) 999999999999999)) || (v.k == 4 && !(within v.n 0 253402300799)) then 1
  else 0
theorem r_fault (k n : Int) (s : List UInt8) : R K (.call 193 [.int .i64 0, V k n s] []) = some (.int .i64 (faultS ⟨k, n, s⟩), []) := by
  by_cases hs : s.length ≤ 100
  · have hs' : ¬ (100 < (s.length : Int)) := by omega
    have hs2 : ¬ (100 < s.length) := by omega
    rw [call_193]
    simp -implicitDefEqProofs only [go_sem, simprocAttr, Tryz.f193, r_within, r_plain s hs, hs']
    repeat' ((first | apply split_cond | apply split_yes | apply split_no) <;> intro hc <;> simp -implicitDefEqProofs only [hc, go_sem, simprocAttr, r_within, r_plain s hs, hs'])
    all_goals simp_all [faultS]
  · have hs' : (100 < (s.length : Int)) := by omega
    have hs2 : (100 < s.length) := by omega
    rw [call_193]
    simp -implicitDefEqProofs only [go_sem, simprocAttr, Tryz.f193, r_within, hs']
    repeat' ((first | apply split_cond | apply split_yes | apply split_no) <;> intro hc <;> simp -implicitDefEqProofs only [hc, go_sem, simprocAttr, r_within, hs'])
    all_goals simp_all [faultS]
theorem fault_right (v : Val) : (faultS v = 0) ↔ rightS v = true := by
  obtain ⟨k, n, s⟩ := v
  by_cases h0 : k = 0
  · subst h0
    by_cases h1 : n = 0 <;> by_cases h2 : s = [] <;> simp [faultS, rightS, formS, rangeS, within, ok7, h1, h2]
  · by_cases h3 : k = 3
    · subst h3
      by_cases h1 : n = 0 <;> by_cases h2 : s.length ≤ 100 <;> simp [faultS, rightS, formS, rangeS, within, h1, h2, Nat.not_lt.2, Nat.not_le.1] <;> (try omega) <;> (cases ok7 s <;> simp <;> omega)
    · by_cases h4 : within k 0 4 = true
      · have h5 : within k 1 4 = true := by simp [within] at h4 ⊢; omega
        by_cases h2 : s = []
        · subst h2
          by_cases k1 : k = 1
          · subst k1; simp [faultS, rightS, formS, rangeS, h4, h5, ok7]
          · by_cases k2 : k = 2
            · subst k2; simp [faultS, rightS, formS, rangeS, h4, h5, ok7]
            · by_cases k4 : k = 4
              · subst k4; simp [faultS, rightS, formS, rangeS, h4, h5, ok7]
              · simp [within] at h4; omega
        · simp [faultS, rightS, formS, h0, h3, h2]
      · have h5 : within k 1 4 = false := by simp [within] at h4 ⊢; omega
        simp [faultS, rightS, formS, h0, h3, h4, h5]
theorem r_AnyFault (k n : Int) (s : List UInt8) : R K (.call 129 [V k n s] []) = some (.int .i64 (faultS ⟨k, n, s⟩), []) := by
  rw [call_129]
  simp -implicitDefEqProofs only [go_sem, simprocAttr, Tryz.f129, r_fault]
theorem r_right (k n : Int) (s : List UInt8) : R K (.call 62 [V k n s] []) = some (enc (plainV ⟨k, n, s⟩), []) := by
  have h := fault_right ⟨k, n, s⟩
  rw [call_62]
  simp -implicitDefEqProofs only [go_sem, simprocAttr, Tryz.f62, r_AnyFault]
  repeat' ((first | apply split_cond | apply split_yes | apply split_no) <;> intro hc <;> simp -implicitDefEqProofs only [hc, go_sem, simprocAttr, r_AnyFault])
  all_goals simp_all [plainV, null]
theorem within_iff (n a b : Int) : within n a b = true ↔ a ≤ n ∧ n ≤ b := by simp [within]
theorem right_bounds (v : Val) : let p := plainV v; (0 ≤ p.k ∧ p.k ≤ 4) ∧ (-999999999999999 ≤ p.n ∧ p.n ≤ 999999999999999) ∧ p.s.length ≤ 100 ∧ (p.k ≠ 3 → p.s = []) ∧ (p.k = 1 → p.n = 0 ∨ p.n = 1) ∧ (p.k = 0 → p.n = 0) ∧ (p.k = 3 → p.n = 0) ∧ ok7 p.s = true ∧ (p.k = 4 → 0 ≤ p.n ∧ p.n ≤ 253402300799) := by
  intro p
  by_cases hr : rightS v = true
  · have hp : p = v := by simp [p, plainV, hr]
    rw [hp]
    have hf := (fault_right v).2 hr
    unfold faultS at hf
    simp only [rightS, Bool.and_eq_true, decide_eq_true_eq] at hr
    obtain ⟨h1, h2, h3⟩ := hr
    unfold rangeS at h3
    unfold formS at h1
    by_cases k0 : v.k = 0
    · simp [k0] at h1 h3
      refine ⟨by omega, by omega, by simp [h1.2], by simp [h1.2], by omega, by omega, by omega, by simpa using h3, by omega⟩
    · by_cases k3 : v.k = 3
      · simp [k3] at h1 h3
        exact ⟨by omega, by omega, h2, by simp [k3], by omega, by omega, by omega, h3, by omega⟩
      · simp [k0, k3] at h1
        obtain ⟨h4, h5⟩ := h1
        rw [within_iff] at h4
        have hk : v.k = 1 ∨ v.k = 2 ∨ v.k = 4 := by omega
        rw [h5] at h3 ⊢
        rcases hk with hk | hk | hk <;> simp [hk, within_iff] at h3 <;> (refine ⟨by omega, by omega, by simp, by simp, by omega, by omega, by omega, rfl, by omega⟩)
  · have hp : p = null := by simp [p, plainV, hr]
    rw [hp]
    simp [null, ok7]
theorem r_sign (n : Int) : R K (.call 132 [.int .i64 n] []) = some (.int .i64 (if n < 0 then -1 else if 0 < n then 1 else 0), []) := by
  rw [call_132]
  simp -implicitDefEqProofs only [go_sem, simprocAttr, Tryz.f132]
  simp only [Prod.mk.injEq, AV.int.injEq, true_and, and_true]
  split <;> split <;> (try split) <;> (try split) <;> omega
def comparedS (a b : Val) : Int := if cmpI (plainV a).k (plainV b).k ≠ 0 then cmpI (plainV a).k (plainV b).k else if (plainV a).k = 3 then Lib.compareBytes (plainV a).s (plainV b).s else cmpI (plainV a).n (plainV b).n
theorem sign_sub (a b : Int) (h1 : -999999999999999 ≤ a ∧ a ≤ 999999999999999) (h2 : -999999999999999 ≤ b ∧ b ≤ 999999999999999) : (if wrapI .i64 (a - b) < 0 then -1 else if 0 < wrapI .i64 (a - b) then 1 else 0) = cmpI a b := by
  rw [wrap_id (by omega) (by omega)]
  unfold cmpI
  split <;> split <;> (try split) <;> (try split) <;> omega
theorem r_Compare (a b : List UInt8) : R K (.call 133 [.str a, .str b] []) = some (.int .i64 (Lib.compareBytes a b), []) := R_prim rfl
theorem r_Compared (k n : Int) (s : List UInt8) (k' n' : Int) (s' : List UInt8) : R K (.call 79 [V k n s, V k' n' s'] []) = some (.int .i64 (comparedS ⟨k, n, s⟩ ⟨k', n', s'⟩), []) := by
  obtain ⟨b1, b2, _⟩ := right_bounds ⟨k, n, s⟩
  obtain ⟨b1', b2', _⟩ := right_bounds ⟨k', n', s'⟩
  have e1 := sign_sub _ _ (show -999999999999999 ≤ (plainV ⟨k, n, s⟩).k ∧ (plainV ⟨k, n, s⟩).k ≤ 999999999999999 by omega) (show -999999999999999 ≤ (plainV ⟨k', n', s'⟩).k ∧ (plainV ⟨k', n', s'⟩).k ≤ 999999999999999 by omega)
  have e2 := sign_sub _ _ b2 b2'
  rw [call_79]
  simp -implicitDefEqProofs only [go_sem, simprocAttr, Tryz.f79, r_right, r_sign, e1, e2, r_Compare]
  repeat' ((first | apply split_cond | apply split_yes | apply split_no) <;> intro hc <;> simp -implicitDefEqProofs only [hc, go_sem, simprocAttr, r_right, r_sign, e1, e2, r_Compare])
  all_goals simp_all [comparedS]
def alikeB (a b : Val) : Bool := a.k == b.k && a.k != 0
theorem r_alike (k n : Int) (s : List UInt8) (k' n' : Int) (s' : List UInt8) : R K (.call 84 [V k n s, V k' n' s'] []) = some (.bool (alikeB ⟨k, n, s⟩ ⟨k', n', s'⟩), []) := by
  rw [call_84]
  simp -implicitDefEqProofs only [go_sem, simprocAttr, Tryz.f84]
  repeat' ((first | apply split_cond | apply split_yes | apply split_no) <;> intro hc <;> simp -implicitDefEqProofs only [hc, go_sem, simprocAttr])
  all_goals simp_all [alikeB]
def tri (v : Val) : Int := if v = boolV true then 2 else if v = boolV false then 0 else 1
theorem tri_of (v : Val) : (if (plainV v).k = 1 then wrapI .i64 (2 * (plainV v).n) else 1) = tri v := by
  obtain ⟨_, _, _, b4, b5, _⟩ := right_bounds v
  by_cases hk : (plainV v).k = 1
  · rw [if_pos hk]
    have hv : plainV v = v := by
      unfold plainV at hk ⊢
      split
      · rfl
      · rename_i h; simp [h, null] at hk
    rw [hv] at hk b4 b5 ⊢
    have hs := b4 (by omega)
    obtain ⟨k, n, s⟩ := v
    simp only at hk hs b5 ⊢
    subst hk hs
    rcases b5 rfl with h | h <;> subst h <;> rfl
  · rw [if_neg hk]
    unfold tri
    have ht : v ≠ boolV true := by rintro rfl; exact hk rfl
    have hf : v ≠ boolV false := by rintro rfl; exact hk rfl
    rw [if_neg ht, if_neg hf]
theorem r_third (k n : Int) (s : List UInt8) : R K (.call 78 [V k n s] []) = some (.int .i64 (tri ⟨k, n, s⟩), []) := by
  have h := tri_of ⟨k, n, s⟩
  rw [call_78]
  simp -implicitDefEqProofs only [go_sem, simprocAttr, Tryz.f78, r_right]
  repeat' ((first | apply split_cond | apply split_yes | apply split_no) <;> intro hc <;> simp -implicitDefEqProofs only [hc, go_sem, simprocAttr, r_right])
  all_goals simp_all
def fromTri (n : Int) : Val := if n = 1 then null else boolV (n == 2)
theorem r_fromThird (n : Int) : R K (.call 77 [.int .i64 n] []) = some (enc (fromTri n), []) := by
  rw [call_77]
  simp -implicitDefEqProofs only [go_sem, simprocAttr, Tryz.f77, r_Truth]
  repeat' ((first | apply split_cond | apply split_yes | apply split_no) <;> intro hc <;> simp -implicitDefEqProofs only [hc, go_sem, simprocAttr, r_Truth])
  all_goals simp_all [fromTri, null]
theorem plain_plain (v : Val) : plainV (plainV v) = plainV v := by
  unfold plainV
  by_cases h : rightS v = true
  · simp [h]
  · simp [h]
theorem tri_bounds (v : Val) : 0 ≤ tri v ∧ tri v ≤ 2 := by unfold tri; split <;> (try split) <;> omega
theorem r_Oper2 (n : Int) (k1 n1 : Int) (s1 : List UInt8) (k2 n2 : Int) (s2 : List UInt8) : R K (.call 21 [.int .i64 2, .int .i64 n, .rows [[.int .i64 k1, .int .i64 n1, .str s1], [.int .i64 k2, .int .i64 n2, .str s2]]] []) = some (enc (fromTri (if tri (plainV ⟨k2, n2, s2⟩) < tri (plainV ⟨k1, n1, s1⟩) then tri (plainV ⟨k2, n2, s2⟩) else tri (plainV ⟨k1, n1, s1⟩))), []) := by
  rw [call_21]
  simp -implicitDefEqProofs only [go_sem, simprocAttr, Tryz.f21]
  rw [RL_eq]
  simp -implicitDefEqProofs only [go_sem, simprocAttr, r_right, at?]
  rw [RL_eq]
  simp -implicitDefEqProofs only [go_sem, simprocAttr, r_right, at?]
  rw [RL_eq]
  simp -implicitDefEqProofs only [go_sem, simprocAttr, r_right, at?, r_third, r_fromThird, r_Compared, r_Truth, r_alike]
theorem r_Oper3 (n : Int) (k1 n1 : Int) (s1 : List UInt8) (k2 n2 : Int) (s2 : List UInt8) : R K (.call 21 [.int .i64 3, .int .i64 n, .rows [[.int .i64 k1, .int .i64 n1, .str s1], [.int .i64 k2, .int .i64 n2, .str s2]]] []) = some (enc (fromTri (if tri (plainV ⟨k1, n1, s1⟩) < tri (plainV ⟨k2, n2, s2⟩) then tri (plainV ⟨k2, n2, s2⟩) else tri (plainV ⟨k1, n1, s1⟩))), []) := by
  rw [call_21]
  simp -implicitDefEqProofs only [go_sem, simprocAttr, Tryz.f21]
  rw [RL_eq]
  simp -implicitDefEqProofs only [go_sem, simprocAttr, r_right, at?]
  rw [RL_eq]
  simp -implicitDefEqProofs only [go_sem, simprocAttr, r_right, at?]
  rw [RL_eq]
  simp -implicitDefEqProofs only [go_sem, simprocAttr, r_right, at?, r_third, r_fromThird, r_Compared, r_Truth, r_alike]
theorem r_Oper10 (n : Int) (k1 n1 : Int) (s1 : List UInt8) (k2 n2 : Int) (s2 : List UInt8) : R K (.call 21 [.int .i64 10, .int .i64 n, .rows [[.int .i64 k1, .int .i64 n1, .str s1], [.int .i64 k2, .int .i64 n2, .str s2]]] []) = some (enc (boolV (comparedS (plainV ⟨k1, n1, s1⟩) (plainV ⟨k2, n2, s2⟩) == 0)), []) := by
  rw [call_21]
  simp -implicitDefEqProofs only [go_sem, simprocAttr, Tryz.f21]
  rw [RL_eq]
  simp -implicitDefEqProofs only [go_sem, simprocAttr, r_right, at?]
  rw [RL_eq]
  simp -implicitDefEqProofs only [go_sem, simprocAttr, r_right, at?]
  rw [RL_eq]
  simp -implicitDefEqProofs only [go_sem, simprocAttr, r_right, at?, r_third, r_fromThird, r_Compared, r_Truth, r_alike]
theorem r_Oper4 (n : Int) (k1 n1 : Int) (s1 : List UInt8) (k2 n2 : Int) (s2 : List UInt8) : R K (.call 21 [.int .i64 4, .int .i64 n, .rows [[.int .i64 k1, .int .i64 n1, .str s1], [.int .i64 k2, .int .i64 n2, .str s2]]] []) = some (enc (if alikeB (plainV ⟨k1, n1, s1⟩) (plainV ⟨k2, n2, s2⟩) = true then boolV (comparedS (plainV ⟨k1, n1, s1⟩) (plainV ⟨k2, n2, s2⟩) == 0) else null), []) := by
  rw [call_21]
  simp -implicitDefEqProofs only [go_sem, simprocAttr, Tryz.f21]
  rw [RL_eq]
  simp -implicitDefEqProofs only [go_sem, simprocAttr, r_right, at?]
  rw [RL_eq]
  simp -implicitDefEqProofs only [go_sem, simprocAttr, r_right, at?]
  rw [RL_eq]
  simp -implicitDefEqProofs only [go_sem, simprocAttr, r_right, at?, r_third, r_fromThird, r_Compared, r_Truth, r_alike]
  repeat' ((first | apply split_cond | apply split_yes | apply split_no) <;> intro hc <;> simp -implicitDefEqProofs only [hc, go_sem, simprocAttr, r_right, at?, r_third, r_fromThird, r_Compared, r_Truth, r_alike])
  all_goals simp_all [null]
theorem r_Oper6 (n : Int) (k1 n1 : Int) (s1 : List UInt8) (k2 n2 : Int) (s2 : List UInt8) : R K (.call 21 [.int .i64 6, .int .i64 n, .rows [[.int .i64 k1, .int .i64 n1, .str s1], [.int .i64 k2, .int .i64 n2, .str s2]]] []) = some (enc (if alikeB (plainV ⟨k1, n1, s1⟩) (plainV ⟨k2, n2, s2⟩) = true then boolV (decide (comparedS (plainV ⟨k1, n1, s1⟩) (plainV ⟨k2, n2, s2⟩) < 0)) else null), []) := by
  rw [call_21]
  simp -implicitDefEqProofs only [go_sem, simprocAttr, Tryz.f21]
  rw [RL_eq]
  simp -implicitDefEqProofs only [go_sem, simprocAttr, r_right, at?]
  rw [RL_eq]
  simp -implicitDefEqProofs only [go_sem, simprocAttr, r_right, at?]
  rw [RL_eq]
  simp -implicitDefEqProofs only [go_sem, simprocAttr, r_right, at?, r_third, r_fromThird, r_Compared, r_Truth, r_alike]
  repeat' ((first | apply split_cond | apply split_yes | apply split_no) <;> intro hc <;> simp -implicitDefEqProofs only [hc, go_sem, simprocAttr, r_right, at?, r_third, r_fromThird, r_Compared, r_Truth, r_alike])
  all_goals simp_all [null]
theorem r_values : R K (.call 15 [] []) = some (.bool true, []) := R_of_runN (n := 30000) (by kernel_rfl)
theorem boolV_ne : boolV true ≠ boolV false := by decide
theorem tri_cases (v : Val) : (v = boolV true ∧ tri v = 2) ∨ (v = boolV false ∧ tri v = 0) ∨ (v ≠ boolV true ∧ v ≠ boolV false ∧ tri v = 1) := by
  unfold tri
  by_cases h1 : v = boolV true
  · exact .inl ⟨h1, by rw [if_pos h1]⟩
  · by_cases h2 : v = boolV false
    · exact .inr (.inl ⟨h2, by rw [if_neg h1, if_pos h2]⟩)
    · exact .inr (.inr ⟨h1, h2, by rw [if_neg h1, if_neg h2]⟩)
theorem plain_bool (b : Bool) : plainV (boolV b) = boolV b := by cases b <;> rfl
theorem plain_or (v : Val) : plainV v = v ∨ plainV v = null := by
  unfold plainV
  split
  · exact .inl rfl
  · exact .inr rfl
theorem tri_plain (v : Val) : tri (plainV v) = tri v := by
  rcases tri_cases v with ⟨h, _⟩ | ⟨h, _⟩ | ⟨h1, h2, h3⟩
  · rw [h, plain_bool]
  · rw [h, plain_bool]
  · rcases plain_or v with h | h
    · rw [h]
    · rw [h, h3]; rfl
theorem not_law (a : Val) : notS a = fromTri (2 - tri (plainV a)) := by
  rw [tri_plain]
  rcases tri_cases a with ⟨h, ht⟩ | ⟨h, ht⟩ | ⟨h1, h2, ht⟩
  · subst h; rfl
  · subst h; rfl
  · rw [ht]; simp [notS, isS, h1, h2, fromTri]
theorem and_law (a b : Val) : andS a b = fromTri (if tri (plainV b) < tri (plainV a) then tri (plainV b) else tri (plainV a)) := by
  rw [tri_plain, tri_plain]
  rcases tri_cases a with ⟨h, ht⟩ | ⟨h, ht⟩ | ⟨h1, h2, ht⟩ <;> rcases tri_cases b with ⟨g, gt⟩ | ⟨g, gt⟩ | ⟨g1, g2, gt⟩ <;> rw [ht, gt]
  · subst h g; rfl
  · subst h g; rfl
  · subst h; simp [andS, isS, g1, g2, fromTri, boolV_ne]
  · subst h g; rfl
  · subst h g; rfl
  · subst h; simp [andS, isS, fromTri]
  · subst g; simp [andS, isS, h1, h2, fromTri, boolV_ne]
  · subst g; simp [andS, isS, fromTri]
  · simp [andS, isS, h1, h2, g1, g2, fromTri]
theorem or_law (a b : Val) : orS a b = fromTri (if tri (plainV a) < tri (plainV b) then tri (plainV b) else tri (plainV a)) := by
  rw [tri_plain, tri_plain]
  have hn : ∀ v : Val, v ≠ boolV true → v ≠ boolV false → notS v = null := fun v h1 h2 => by simp [notS, isS, h1, h2]
  rcases tri_cases a with ⟨h, ht⟩ | ⟨h, ht⟩ | ⟨h1, h2, ht⟩ <;> rcases tri_cases b with ⟨g, gt⟩ | ⟨g, gt⟩ | ⟨g1, g2, gt⟩ <;> rw [ht, gt] <;> unfold orS
  · subst h g; rfl
  · subst h g; rfl
  · subst h; rw [hn b g1 g2]; rfl
  · subst h g; rfl
  · subst h g; rfl
  · subst h; rw [hn b g1 g2]; rfl
  · subst g; rw [hn a h1 h2]; rfl
  · subst g; rw [hn a h1 h2]; rfl
  · rw [hn a h1 h2, hn b g1 g2]; rfl
theorem cmpI_zero (a b : Int) : cmpI a b = 0 ↔ a = b := by unfold cmpI; split <;> (try split) <;> omega
theorem compareBytes_zero : ∀ a b : List UInt8, Lib.compareBytes a b = 0 ↔ a = b
  | [], [] => by simp [Lib.compareBytes]
  | [], _ :: _ => by simp [Lib.compareBytes]
  | _ :: _, [] => by simp [Lib.compareBytes]
  | a :: x, b :: y => by
    simp only [Lib.compareBytes, List.cons.injEq]
    split
    · rename_i h
      constructor
      · intro e; cases e
      · rintro ⟨rfl, _⟩; exact absurd h (by simp)
    · split
      · rename_i h
        constructor
        · intro e; cases e
        · rintro ⟨rfl, _⟩; exact absurd h (by simp)
      · rename_i h1 h2
        rw [compareBytes_zero x y]
        have : a = b := by
          apply UInt8.toNat_inj.1
          have h1' : ¬ a.toNat < b.toNat := fun h => h1 (UInt8.lt_iff_toNat_lt.2 h)
          have h2' : ¬ b.toNat < a.toNat := fun h => h2 (UInt8.lt_iff_toNat_lt.2 h)
          omega
        simp [this]
theorem compareBytes_eq : ∀ a b : List UInt8, Lib.compareBytes a b = cmpB a b
  | [], [] => rfl
  | [], _ :: _ => by simp [Lib.compareBytes, cmpB, Op.bytesLess]
  | _ :: _, [] => by simp [Lib.compareBytes, cmpB, Op.bytesLess]
  | a :: x, b :: y => by
    have ih := compareBytes_eq x y
    simp only [Lib.compareBytes, cmpB, Op.bytesLess] at ih ⊢
    by_cases h1 : a < b
    · simp [h1]
    · by_cases h2 : b < a
      · have h3 : a ≠ b := by rintro rfl; exact absurd h2 (by simp)
        simp [h1, h2, h3]
      · have : a = b := by
          apply UInt8.toNat_inj.1
          have h1' : ¬ a.toNat < b.toNat := fun h => h1 (UInt8.lt_iff_toNat_lt.2 h)
          have h2' : ¬ b.toNat < a.toNat := fun h => h2 (UInt8.lt_iff_toNat_lt.2 h)
          omega
        subst this
        simp [ih]
theorem compared_plain (a b : Val) : comparedS (plainV a) (plainV b) = comparedS a b := by unfold comparedS; rw [plain_plain, plain_plain]
theorem val_ext {a b : Val} (h1 : a.k = b.k) (h2 : a.n = b.n) (h3 : a.s = b.s) : a = b := by cases a; cases b; simp_all
theorem compared_zero (a b : Val) : comparedS a b = 0 ↔ plainV a = plainV b := by
  obtain ⟨_, _, _, a4, _, _, a7, _⟩ := right_bounds a
  obtain ⟨_, _, _, b4, _, _, b7, _⟩ := right_bounds b
  unfold comparedS
  constructor
  · intro h
    split at h
    · rename_i hk; exact absurd h hk
    · rename_i hk
      have hk' : (plainV a).k = (plainV b).k := (cmpI_zero _ _).1 (by simpa using hk)
      split at h
      · rename_i h3
        exact val_ext hk' (by rw [a7 h3, b7 (by rw [← hk']; exact h3)]) ((compareBytes_zero _ _).1 h)
      · rename_i h3
        exact val_ext hk' ((cmpI_zero _ _).1 h) (by rw [a4 h3, b4 (by rw [← hk']; exact h3)])
  · intro h
    rw [h]
    have h1 : cmpI (plainV b).k (plainV b).k = 0 := (cmpI_zero _ _).2 rfl
    have h2 : cmpI (plainV b).n (plainV b).n = 0 := (cmpI_zero _ _).2 rfl
    have h3 : Lib.compareBytes (plainV b).s (plainV b).s = 0 := (compareBytes_zero _ _).2 rfl
    simp [h1, h2, h3]
theorem same_law (a b : Val) : sameS a b = boolV (comparedS (plainV a) (plainV b) == 0) := by
  unfold sameS
  congr 1
  rw [Bool.eq_iff_iff, compared_plain]
  simp [compared_zero]
theorem plain_full {v : Val} (h : (plainV v).k ≠ 0) : plainV v = v := by
  rcases plain_or v with h' | h'
  · exact h'
  · rw [h'] at h; exact absurd rfl h
theorem cmp_alike (a b : Val) : cmpS a b = alikeB (plainV a) (plainV b) := by
  simp only [cmpS, alikeB, Bool.and_comm]
theorem equal_law (a b : Val) : equalS a b = if alikeB (plainV a) (plainV b) = true then boolV (comparedS (plainV a) (plainV b) == 0) else null := by
  unfold equalS
  rw [cmp_alike]
  split
  · rename_i h
    simp only [alikeB, Bool.and_eq_true, beq_iff_eq, bne_iff_ne, ne_eq] at h
    have ha := plain_full h.2
    have hb := plain_full (v := b) (by rw [← h.1]; exact h.2)
    congr 1
    rw [Bool.eq_iff_iff, compared_plain]
    simp only [decide_eq_true_eq, beq_iff_eq, compared_zero, ha, hb]
  · rfl
theorem less_law (a b : Val) : lessS a b = if alikeB (plainV a) (plainV b) = true then boolV (decide (comparedS (plainV a) (plainV b) < 0)) else null := by
  unfold lessS
  rw [cmp_alike]
  split
  · rename_i h
    simp only [alikeB, Bool.and_eq_true, beq_iff_eq, bne_iff_ne, ne_eq] at h
    have ha := plain_full h.2
    have hb := plain_full (v := b) (by rw [← h.1]; exact h.2)
    obtain ⟨_, _, _, a4, _, _, a7, _⟩ := right_bounds a
    obtain ⟨_, _, _, b4, _, _, b7, _⟩ := right_bounds b
    have hk : a.k = b.k := by rw [← ha, ← hb]; exact h.1
    rw [ha] at a4 a7
    rw [hb] at b4 b7
    rw [compared_plain]
    unfold comparedS orderS
    rw [ha, hb]
    have h1 : cmpI a.k b.k = 0 := (cmpI_zero _ _).2 hk
    simp only [h1, firstN, ne_eq, not_true_eq_false, if_false]
    by_cases h3 : a.k = 3
    · have hn : cmpI a.n b.n = 0 := (cmpI_zero _ _).2 (by rw [a7 h3, b7 (by rw [← hk]; exact h3)])
      simp only [hn, h3, compareBytes_eq, if_true, not_true_eq_false, if_false]
      split
      · rfl
      · rename_i h5; rw [show cmpB a.s b.s = 0 by simpa using h5]
    · have hs : cmpB a.s b.s = 0 := by rw [a4 h3, b4 (by rw [← hk]; exact h3)]; rfl
      simp only [hs, h3, if_false, not_true_eq_false]
      split
      · rfl
      · rename_i h5; rw [show cmpI a.n b.n = 0 by simpa using h5]
  · rfl
theorem r_Number (n : Int) : R K (.call 73 [.int .i64 n] []) = some (enc (numberS 2 n), []) := by
  rw [call_73]
  simp -implicitDefEqProofs only [go_sem, simprocAttr, Tryz.f73, r_right]
  all_goals simp [numberS]
theorem r_moment (n : Int) : R K (.call 72 [.int .i64 n] []) = some (enc (numberS 4 n), []) := by
  rw [call_72]
  simp -implicitDefEqProofs only [go_sem, simprocAttr, Tryz.f72, r_right]
  all_goals simp [numberS]
theorem r_floorDiv (a b : Int) (hb : b ≠ 0) : R K (.call 198 [.int .i64 a, .int .i64 b] []) = some (.int .i64 (floorS a b), []) := by
  rw [call_198]
  simp -implicitDefEqProofs only [go_sem, simprocAttr, Tryz.f198, hb]
  repeat' ((first | apply split_cond | apply split_yes | apply split_no) <;> intro hc <;> simp -implicitDefEqProofs only [hc, go_sem, simprocAttr, hb])
  all_goals simp_all [floorS]
theorem abs_if (n : Int) : (if n < 0 - n then 0 - n else n) = (n.natAbs : Int) := by split <;> omega
theorem number_out (n : Int) (h : ¬ (-999999999999999 ≤ n ∧ n ≤ 999999999999999)) : numberS 2 n = null := by
  simp only [numberS, plainV, rightS, rangeS, within]
  rw [if_neg]
  simp
  omega
theorem number_in (n : Int) (h : -999999999999999 ≤ n ∧ n ≤ 999999999999999) : numberS 2 n = ⟨2, n, []⟩ := by
  simp only [numberS, plainV, rightS, rangeS, within, formS]
  rw [if_pos]
  simp
  omega
theorem wrap_uid {n : Int} (h : 0 ≤ n) (h' : n < 18446744073709551616) : wrapI .u64 n = n := by
  show IntKind.wrap .u64 n = n
  simp only [IntKind.wrap]
  rw [if_neg (by simp [IntKind.signed])]
  exact Int.emod_eq_of_lt h (by simpa [IntKind.bits] using h')
theorem r_size (n : Int) (h : -999999999999999 ≤ n ∧ n ≤ 999999999999999) : R K (.call 262 [.int .i64 n] []) = some (.int .u64 (n.natAbs : Int), []) := by
  have hw : wrapI .i64 (0 - n) = 0 - n := wrap_id (by omega) (by omega)
  have hu : wrapI .u64 (n.natAbs : Int) = (n.natAbs : Int) := wrap_uid (by omega) (by omega)
  rw [call_262]
  simp -implicitDefEqProofs only [go_sem, simprocAttr, Tryz.f262, hw, abs_if, hu]
theorem r_Mul64 (x y : Int) (h : 0 ≤ x ∧ x < 18446744073709551616 ∧ 0 ≤ y ∧ y < 18446744073709551616) : R K (.call 211 [.int .u64 x, .int .u64 y] []) = some (.tup [.int .u64 (x * y / 18446744073709551616), .int .u64 (x * y % 18446744073709551616)], []) :=
  R_prim (by show pMul64 [.int .u64 x, .int .u64 y] = _; simp only [pMul64]; rw [if_pos (by simpa using h)])
theorem mul_abs (a b : Int) : ((a.natAbs : Int) * (b.natAbs : Int)) = ((a * b).natAbs : Int) := by rw [Int.natAbs_mul]; push_cast; rfl
theorem r_product (a b : Int) (ha : -999999999999999 ≤ a ∧ a ≤ 999999999999999) (hb : -999999999999999 ≤ b ∧ b ≤ 999999999999999) : R K (.call 197 [.int .i64 a, .int .i64 b] []) = some (enc (numberS 2 (a * b)), []) := by
  have h0 := mul_abs a b
  have hm : (0 : Int) ≤ (a.natAbs : Int) * (b.natAbs : Int) := by omega
  have hl : (a.natAbs : Int) * (b.natAbs : Int) ≤ 999999999999999 * 999999999999999 := Int.mul_le_mul (by omega) (by omega) (by omega) (by omega)
  rw [call_197]
  simp -implicitDefEqProofs only [go_sem, simprocAttr, Tryz.f197, r_size a ha, r_size b hb, r_Number, r_Mul64 (a.natAbs : Int) (b.natAbs : Int) (by omega)]
  repeat' ((first | apply split_cond | apply split_yes | apply split_no) <;> intro hc <;> simp -implicitDefEqProofs only [hc, go_sem, simprocAttr, r_size a ha, r_size b hb, r_Number, r_Mul64 (a.natAbs : Int) (b.natAbs : Int) (by omega)])
  all_goals simp only [decide_eq_true_eq, decide_eq_false_iff_not] at *
  · rw [number_out _ (by omega)]; rfl
  · rw [number_out _ (by omega)]; rfl
  · rw [wrap_id (by omega) (by omega)]
theorem is2_bounds {v : Val} (h : isK 2 v = true) : plainV v = v ∧ (-999999999999999 ≤ v.n ∧ v.n ≤ 999999999999999) := by
  simp only [isK, beq_iff_eq] at h
  have hp := plain_full (v := v) (by omega)
  have hb := (right_bounds v).2.1
  rw [hp] at hb
  exact ⟨hp, hb⟩
def mulS (a b : Val) : Val := if isK 2 a && isK 2 b then numberS 2 (a.n * b.n) else null
theorem mul_big {a b : Int} (h0 : (a.natAbs : Int) ≠ 0) (h : (999999999999999 : Int).tdiv a.natAbs < b.natAbs) : ¬ (-999999999999999 ≤ a * b ∧ a * b ≤ 999999999999999) := by
  rw [Int.tdiv_eq_ediv_of_nonneg (by omega)] at h
  have h1 := (Int.ediv_lt_iff_lt_mul (by omega : 0 < (a.natAbs : Int))).1 h
  have h2 := mul_abs a b
  rw [Int.mul_comm] at h2
  omega
theorem mul_small {a b : Int} (h : ¬ ((a.natAbs : Int) ≠ 0 ∧ (999999999999999 : Int).tdiv a.natAbs < b.natAbs)) : -999999999999999 ≤ a * b ∧ a * b ≤ 999999999999999 := by
  by_cases h0 : (a.natAbs : Int) = 0
  · have : a = 0 := by omega
    subst this
    simp
  · have h1 : ¬ (999999999999999 : Int).tdiv a.natAbs < b.natAbs := fun g => h ⟨h0, g⟩
    rw [Int.tdiv_eq_ediv_of_nonneg (by omega)] at h1
    have h2 : ¬ (999999999999999 : Int) < (b.natAbs : Int) * (a.natAbs : Int) := fun g => h1 ((Int.ediv_lt_iff_lt_mul (by omega : 0 < (a.natAbs : Int))).2 g)
    have h3 := mul_abs a b
    rw [Int.mul_comm] at h3
    omega
theorem c_Mul (k n : Int) (s : List UInt8) (k' n' : Int) (s' : List UInt8) : R K (.call 29 [V k n s, V k' n' s'] []) = some (enc (mulS ⟨k, n, s⟩ ⟨k', n', s'⟩), []) := by
  by_cases hi : (isK 2 ⟨k, n, s⟩ && isK 2 ⟨k', n', s'⟩) = true
  · have hi2 := hi
    simp only [Bool.and_eq_true] at hi2
    have h1 := (is2_bounds hi2.1).2
    have h2 := (is2_bounds hi2.2).2
    simp only at h1 h2
    have hw1 : wrapI .i64 (0 - n) = 0 - n := wrap_id (by omega) (by omega)
    have hw2 : wrapI .i64 (0 - n') = 0 - n' := wrap_id (by omega) (by omega)
    have hm : mulS ⟨k, n, s⟩ ⟨k', n', s'⟩ = numberS 2 (n * n') := by simp only [mulS, hi, if_true]
    rw [hm]
    by_cases hz : (n.natAbs : Int) = 0
    · have hz' : n = 0 := by omega
      subst hz'
      rw [call_29]
      simp -implicitDefEqProofs only [go_sem, simprocAttr, Tryz.f29, c_ints2, hi, c_number, hw1, hw2, abs_if]
      all_goals simp [show wrapI .i64 0 = 0 from wrap_id (by omega) (by omega)]
    · have hz2 : ((n.natAbs : Int) != 0) = true := by simpa using hz
      have hd := Int.tdiv_eq_ediv_of_nonneg (a := 999999999999999) (b := (n.natAbs : Int)) (by omega)
      have hq0 : 0 ≤ (999999999999999 : Int) / (n.natAbs : Int) := Int.ediv_nonneg (by omega) (by omega)
      have hq1 : (999999999999999 : Int) / (n.natAbs : Int) ≤ 999999999999999 := Int.ediv_le_self _ (by omega)
      have hq : wrapI .i64 ((999999999999999 : Int).tdiv (n.natAbs : Int)) = (999999999999999 : Int).tdiv (n.natAbs : Int) := wrap_id (by omega) (by omega)
      rw [call_29]
      simp -implicitDefEqProofs only [go_sem, simprocAttr, Tryz.f29, c_ints2, hi, c_number, hw1, hw2, abs_if, hz, hz2, hq]
      repeat' ((first | apply split_cond | apply split_yes | apply split_no) <;> intro hc <;> simp -implicitDefEqProofs only [hc, go_sem, simprocAttr, c_ints2, hi, c_number, hw1, hw2, abs_if, hz, hz2, hq])
      all_goals simp only [decide_eq_true_eq, decide_eq_false_iff_not] at *
      · rw [number_out _ (mul_big hz (by assumption))]; rfl
      · rw [wrap_id]
        · have := mul_small (a := n) (b := n') (fun g => absurd g.2 (by assumption))
          omega
        · have := mul_small (a := n) (b := n') (fun g => absurd g.2 (by assumption))
          omega
  · have hi' : (isK 2 ⟨k, n, s⟩ && isK 2 ⟨k', n', s'⟩) = false := by simpa using hi
    have hm : mulS ⟨k, n, s⟩ ⟨k', n', s'⟩ = null := by simp only [mulS, hi', if_false, Bool.false_eq_true]
    rw [hm]
    rw [call_29]
    simp -implicitDefEqProofs only [go_sem, simprocAttr, Tryz.f29, c_ints2, hi', null]
def intsS12 (a b : Int) : Val := numberS 2 (wrapI .i64 (a + b))
theorem r_ints12 (a b : Int) : R K (.call 134 [.int .i64 12, .int .i64 a, .int .i64 b] []) = some (enc (intsS12 a b), []) := by
  rw [call_134]
  simp -implicitDefEqProofs only [go_sem, simprocAttr, Tryz.f134, r_Number]
  all_goals simp [intsS12]
def intsS13 (a b : Int) : Val := numberS 2 (wrapI .i64 (a - b))
theorem r_ints13 (a b : Int) : R K (.call 134 [.int .i64 13, .int .i64 a, .int .i64 b] []) = some (enc (intsS13 a b), []) := by
  rw [call_134]
  simp -implicitDefEqProofs only [go_sem, simprocAttr, Tryz.f134, r_Number]
  all_goals simp [intsS13]
def intsS14 (a b : Int) : Val := numberS 2 (a * b)
theorem r_ints14 (a b : Int) (ha : -999999999999999 ≤ a ∧ a ≤ 999999999999999) (hb : -999999999999999 ≤ b ∧ b ≤ 999999999999999) : R K (.call 134 [.int .i64 14, .int .i64 a, .int .i64 b] []) = some (enc (intsS14 a b), []) := by
  rw [call_134]
  simp -implicitDefEqProofs only [go_sem, simprocAttr, Tryz.f134, r_product a b ha hb]
  all_goals simp [intsS14]
def intsS15 (a b : Int) : Val := if b = 0 then null else numberS 2 (floorS a b)
theorem r_ints15 (a b : Int) : R K (.call 134 [.int .i64 15, .int .i64 a, .int .i64 b] []) = some (enc (intsS15 a b), []) := by
  by_cases hz : b = 0
  · subst hz
    rw [call_134]
    simp -implicitDefEqProofs only [go_sem, simprocAttr, Tryz.f134, r_Number]
    all_goals simp [intsS15, null]
  · rw [call_134]
    simp -implicitDefEqProofs only [go_sem, simprocAttr, Tryz.f134, r_Number, r_floorDiv a b hz, hz]
    repeat' ((first | apply split_cond | apply split_yes | apply split_no) <;> intro hc <;> simp -implicitDefEqProofs only [hc, go_sem, simprocAttr, r_Number, r_floorDiv a b hz, hz])
    all_goals simp_all [intsS15]
def intsS16 (a b : Int) : Val := if b = 0 then null else numberS 2 (wrapI .i64 (a - wrapI .i64 (b * floorS a b)))
theorem r_ints16 (a b : Int) : R K (.call 134 [.int .i64 16, .int .i64 a, .int .i64 b] []) = some (enc (intsS16 a b), []) := by
  by_cases hz : b = 0
  · subst hz
    rw [call_134]
    simp -implicitDefEqProofs only [go_sem, simprocAttr, Tryz.f134, r_Number]
    all_goals simp [intsS16, null]
  · rw [call_134]
    simp -implicitDefEqProofs only [go_sem, simprocAttr, Tryz.f134, r_Number, r_floorDiv a b hz, hz]
    repeat' ((first | apply split_cond | apply split_yes | apply split_no) <;> intro hc <;> simp -implicitDefEqProofs only [hc, go_sem, simprocAttr, r_Number, r_floorDiv a b hz, hz])
    all_goals simp_all [intsS16]
def arithS12 (a b : Val) : Val := if a.k = 2 ∧ b.k = 2 then intsS12 a.n b.n else if a.k = 4 ∧ b.k = 2 then numberS 4 (wrapI .i64 (a.n + b.n)) else null
theorem r_arith12 (k n : Int) (s : List UInt8) (k' n' : Int) (s' : List UInt8) : R K (.call 80 [.int .i64 12, V k n s, V k' n' s'] []) = some (enc (arithS12 ⟨k, n, s⟩ ⟨k', n', s'⟩), []) := by
  rw [call_80]
  simp -implicitDefEqProofs only [go_sem, simprocAttr, Tryz.f80, r_ints12, r_Number, r_moment]
  repeat' ((first | apply split_cond | apply split_yes | apply split_no) <;> intro hc <;> simp -implicitDefEqProofs only [hc, go_sem, simprocAttr, r_ints12, r_Number, r_moment])
  all_goals (simp_all [arithS12, null])
def arithS13 (a b : Val) : Val := if a.k = 2 ∧ b.k = 2 then intsS13 a.n b.n else if a.k = 4 ∧ b.k = 2 then numberS 4 (wrapI .i64 (a.n - b.n)) else if a.k = 4 ∧ b.k = 4 then numberS 2 (wrapI .i64 (a.n - b.n)) else null
theorem r_arith13 (k n : Int) (s : List UInt8) (k' n' : Int) (s' : List UInt8) : R K (.call 80 [.int .i64 13, V k n s, V k' n' s'] []) = some (enc (arithS13 ⟨k, n, s⟩ ⟨k', n', s'⟩), []) := by
  rw [call_80]
  simp -implicitDefEqProofs only [go_sem, simprocAttr, Tryz.f80, r_ints13, r_Number, r_moment]
  repeat' ((first | apply split_cond | apply split_yes | apply split_no) <;> intro hc <;> simp -implicitDefEqProofs only [hc, go_sem, simprocAttr, r_ints13, r_Number, r_moment])
  all_goals (simp_all [arithS13, null])
def arithS14 (a b : Val) : Val := if a.k = 2 ∧ b.k = 2 then intsS14 a.n b.n else null
theorem r_arith14 (k n : Int) (s : List UInt8) (k' n' : Int) (s' : List UInt8) (hb : (k = 2 ∧ k' = 2) → (-999999999999999 ≤ n ∧ n ≤ 999999999999999) ∧ (-999999999999999 ≤ n' ∧ n' ≤ 999999999999999)) : R K (.call 80 [.int .i64 14, V k n s, V k' n' s'] []) = some (enc (arithS14 ⟨k, n, s⟩ ⟨k', n', s'⟩), []) := by
  by_cases hk : k = 2 ∧ k' = 2
  · have hi := r_ints14 n n' (hb hk).1 (hb hk).2
    obtain ⟨rfl, rfl⟩ := hk
    rw [call_80]
    simp -implicitDefEqProofs only [go_sem, simprocAttr, Tryz.f80, hi]
    all_goals simp [arithS14]
  · rw [call_80]
    simp -implicitDefEqProofs only [go_sem, simprocAttr, Tryz.f80, r_Number, r_moment]
    repeat' ((first | apply split_cond | apply split_yes | apply split_no) <;> intro hc <;> simp -implicitDefEqProofs only [hc, go_sem, simprocAttr, r_Number, r_moment])
    all_goals (simp_all [arithS14, null])
def arithS15 (a b : Val) : Val := if a.k = 2 ∧ b.k = 2 then intsS15 a.n b.n else null
theorem r_arith15 (k n : Int) (s : List UInt8) (k' n' : Int) (s' : List UInt8) : R K (.call 80 [.int .i64 15, V k n s, V k' n' s'] []) = some (enc (arithS15 ⟨k, n, s⟩ ⟨k', n', s'⟩), []) := by
  rw [call_80]
  simp -implicitDefEqProofs only [go_sem, simprocAttr, Tryz.f80, r_ints15, r_Number, r_moment]
  repeat' ((first | apply split_cond | apply split_yes | apply split_no) <;> intro hc <;> simp -implicitDefEqProofs only [hc, go_sem, simprocAttr, r_ints15, r_Number, r_moment])
  all_goals (simp_all [arithS15, null])
def arithS16 (a b : Val) : Val := if a.k = 2 ∧ b.k = 2 then intsS16 a.n b.n else null
theorem r_arith16 (k n : Int) (s : List UInt8) (k' n' : Int) (s' : List UInt8) : R K (.call 80 [.int .i64 16, V k n s, V k' n' s'] []) = some (enc (arithS16 ⟨k, n, s⟩ ⟨k', n', s'⟩), []) := by
  rw [call_80]
  simp -implicitDefEqProofs only [go_sem, simprocAttr, Tryz.f80, r_ints16, r_Number, r_moment]
  repeat' ((first | apply split_cond | apply split_yes | apply split_no) <;> intro hc <;> simp -implicitDefEqProofs only [hc, go_sem, simprocAttr, r_ints16, r_Number, r_moment])
  all_goals (simp_all [arithS16, null])
theorem r_Oper12 (n : Int) (k1 n1 : Int) (s1 : List UInt8) (k2 n2 : Int) (s2 : List UInt8) : R K (.call 21 [.int .i64 12, .int .i64 n, .rows [[.int .i64 k1, .int .i64 n1, .str s1], [.int .i64 k2, .int .i64 n2, .str s2]]] []) = some (enc (arithS12 (plainV ⟨k1, n1, s1⟩) (plainV ⟨k2, n2, s2⟩)), []) := by
  rw [call_21]
  simp -implicitDefEqProofs only [go_sem, simprocAttr, Tryz.f21]
  rw [RL_eq]
  simp -implicitDefEqProofs only [go_sem, simprocAttr, r_right, at?]
  rw [RL_eq]
  simp -implicitDefEqProofs only [go_sem, simprocAttr, r_right, at?]
  rw [RL_eq]
  simp -implicitDefEqProofs only [go_sem, simprocAttr, r_right, at?, r_arith12]
theorem r_Oper13 (n : Int) (k1 n1 : Int) (s1 : List UInt8) (k2 n2 : Int) (s2 : List UInt8) : R K (.call 21 [.int .i64 13, .int .i64 n, .rows [[.int .i64 k1, .int .i64 n1, .str s1], [.int .i64 k2, .int .i64 n2, .str s2]]] []) = some (enc (arithS13 (plainV ⟨k1, n1, s1⟩) (plainV ⟨k2, n2, s2⟩)), []) := by
  rw [call_21]
  simp -implicitDefEqProofs only [go_sem, simprocAttr, Tryz.f21]
  rw [RL_eq]
  simp -implicitDefEqProofs only [go_sem, simprocAttr, r_right, at?]
  rw [RL_eq]
  simp -implicitDefEqProofs only [go_sem, simprocAttr, r_right, at?]
  rw [RL_eq]
  simp -implicitDefEqProofs only [go_sem, simprocAttr, r_right, at?, r_arith13]
theorem r_Oper14 (n : Int) (k1 n1 : Int) (s1 : List UInt8) (k2 n2 : Int) (s2 : List UInt8) : R K (.call 21 [.int .i64 14, .int .i64 n, .rows [[.int .i64 k1, .int .i64 n1, .str s1], [.int .i64 k2, .int .i64 n2, .str s2]]] []) = some (enc (arithS14 (plainV ⟨k1, n1, s1⟩) (plainV ⟨k2, n2, s2⟩)), []) := by
  have hb1 := (right_bounds ⟨k1, n1, s1⟩).2.1
  have hb2 := (right_bounds ⟨k2, n2, s2⟩).2.1
  have ha := r_arith14 (plainV ⟨k1, n1, s1⟩).k (plainV ⟨k1, n1, s1⟩).n (plainV ⟨k1, n1, s1⟩).s (plainV ⟨k2, n2, s2⟩).k (plainV ⟨k2, n2, s2⟩).n (plainV ⟨k2, n2, s2⟩).s (fun _ => ⟨hb1, hb2⟩)
  rw [call_21]
  simp -implicitDefEqProofs only [go_sem, simprocAttr, Tryz.f21]
  rw [RL_eq]
  simp -implicitDefEqProofs only [go_sem, simprocAttr, r_right, at?]
  rw [RL_eq]
  simp -implicitDefEqProofs only [go_sem, simprocAttr, r_right, at?]
  rw [RL_eq]
  simp -implicitDefEqProofs only [go_sem, simprocAttr, r_right, at?, ha]
theorem r_Oper15 (n : Int) (k1 n1 : Int) (s1 : List UInt8) (k2 n2 : Int) (s2 : List UInt8) : R K (.call 21 [.int .i64 15, .int .i64 n, .rows [[.int .i64 k1, .int .i64 n1, .str s1], [.int .i64 k2, .int .i64 n2, .str s2]]] []) = some (enc (arithS15 (plainV ⟨k1, n1, s1⟩) (plainV ⟨k2, n2, s2⟩)), []) := by
  rw [call_21]
  simp -implicitDefEqProofs only [go_sem, simprocAttr, Tryz.f21]
  rw [RL_eq]
  simp -implicitDefEqProofs only [go_sem, simprocAttr, r_right, at?]
  rw [RL_eq]
  simp -implicitDefEqProofs only [go_sem, simprocAttr, r_right, at?]
  rw [RL_eq]
  simp -implicitDefEqProofs only [go_sem, simprocAttr, r_right, at?, r_arith15]
theorem r_Oper16 (n : Int) (k1 n1 : Int) (s1 : List UInt8) (k2 n2 : Int) (s2 : List UInt8) : R K (.call 21 [.int .i64 16, .int .i64 n, .rows [[.int .i64 k1, .int .i64 n1, .str s1], [.int .i64 k2, .int .i64 n2, .str s2]]] []) = some (enc (arithS16 (plainV ⟨k1, n1, s1⟩) (plainV ⟨k2, n2, s2⟩)), []) := by
  rw [call_21]
  simp -implicitDefEqProofs only [go_sem, simprocAttr, Tryz.f21]
  rw [RL_eq]
  simp -implicitDefEqProofs only [go_sem, simprocAttr, r_right, at?]
  rw [RL_eq]
  simp -implicitDefEqProofs only [go_sem, simprocAttr, r_right, at?]
  rw [RL_eq]
  simp -implicitDefEqProofs only [go_sem, simprocAttr, r_right, at?, r_arith16]
theorem null_k : null.k = 0 := rfl
theorem add_law (a b : Val) : addS a b = arithS12 (plainV a) (plainV b) := by
  rcases plain_or a with h | h <;> rcases plain_or b with g | g <;> simp only [addS, arithS12, intsS12, isK, h, g, null_k]
  · by_cases a2 : a.k = 2 <;> by_cases b2 : b.k = 2 <;> by_cases a4 : a.k = 4 <;> simp [a2, b2, a4]
  · simp
  · simp
  · simp
theorem neg_law (a : Val) : negS a = arithS13 (numberS 2 0) (plainV a) := by
  rw [number_in 0 (by omega)]
  rcases plain_or a with h | h <;> simp only [negS, arithS13, intsS13, isK, h, null_k]
  · by_cases a2 : a.k = 2 <;> simp [a2]
  · simp
theorem plain_number (n : Int) : plainV (numberS 2 n) = numberS 2 n := plain_plain _
theorem sub_law (a b : Val) : subS a b = arithS13 (plainV a) (plainV b) := by
  by_cases hb : isK 2 b = true
  · obtain ⟨g, gb⟩ := is2_bounds hb
    have b2 : b.k = 2 := by simp only [isK, beq_iff_eq, g] at hb; exact hb
    have hneg : negS b = ⟨2, 0 - b.n, []⟩ := by
      unfold negS
      rw [if_pos hb, wrap_id (by omega) (by omega), number_in _ (by omega)]
    have hw : ∀ x : Int, x + (0 - b.n) = x - b.n := fun x => by omega
    have hp : (plainV ⟨2, 0 - b.n, []⟩).k = 2 := by
      have := plain_number (0 - b.n)
      rw [number_in _ (by omega)] at this
      rw [this]
    simp only [subS, hneg, addS, hw]
    rcases plain_or a with h | h <;> simp only [arithS13, intsS13, isK, h, g, hp, b2, null_k]
    · by_cases a2 : a.k = 2 <;> by_cases a4 : a.k = 4 <;> simp [a2, a4]
    · simp
  · have hb2 : (plainV b).k ≠ 2 := by simpa [isK] using hb
    simp only [subS, hb, arithS13, hb2]
    rcases plain_or a with h | h <;> rcases plain_or b with g | g <;> simp only [isK, h, g, null_k]
    · by_cases a4 : a.k = 4 <;> by_cases b4 : b.k = 4 <;> simp [a4, b4]
    · simp
    · simp
    · simp
theorem mul_law (a b : Val) : mulS a b = arithS14 (plainV a) (plainV b) := by
  rcases plain_or a with h | h <;> rcases plain_or b with g | g <;> simp only [mulS, arithS14, intsS14, isK, h, g, null_k]
  · by_cases a2 : a.k = 2 <;> by_cases b2 : b.k = 2 <;> simp [a2, b2]
  · simp
  · simp
  · simp
theorem div_law (a b : Val) : divS a b = arithS15 (plainV a) (plainV b) := by
  rcases plain_or a with h | h <;> rcases plain_or b with g | g <;> simp only [divS, arithS15, intsS15, isK, h, g, null_k]
  · by_cases a2 : a.k = 2 <;> by_cases b2 : b.k = 2 <;> by_cases b0 : b.n = 0 <;> simp [a2, b2, b0]
  · simp
  · simp
  · simp
theorem mod_law (a b : Val) : modS a b = arithS16 (plainV a) (plainV b) := by
  rcases plain_or a with h | h <;> rcases plain_or b with g | g <;> simp only [modS, arithS16, intsS16, isK, h, g, null_k]
  · by_cases a2 : a.k = 2 <;> by_cases b2 : b.k = 2 <;> by_cases b0 : b.n = 0 <;> simp [a2, b2, b0]
  · simp
  · simp
  · simp
theorem p_Lower (s : List UInt8) (h : s.length ≤ 140737488355328) (ha : ascii s = true) : R K (.call 90 [.str s] []) = some (.str (Lib.toLowerA s), []) :=
  R_prim (by show pLower [.str s] = _; simp only [pLower]; rw [if_pos (by simp [h, ha])])
theorem p_Upper (s : List UInt8) (h : s.length ≤ 140737488355328) (ha : ascii s = true) : R K (.call 91 [.str s] []) = some (.str (Lib.toUpperA s), []) :=
  R_prim (by show pUpper [.str s] = _; simp only [pUpper]; rw [if_pos (by simp [h, ha])])
theorem ascii_ok7 {s : List UInt8} (h : ok7 s = true) : ascii s = true := by
  simp only [ascii, ok7, List.all_eq_true, Bool.and_eq_true, decide_eq_true_eq] at h ⊢
  intro x hx
  have := (h x hx).2
  omega
theorem is3_text {k n : Int} {s : List UInt8} (h : isK 3 ⟨k, n, s⟩ = true) : s.length ≤ 100 ∧ ascii s = true ∧ plainV ⟨k, n, s⟩ = ⟨k, n, s⟩ ∧ k = 3 ∧ n = 0 := by
  simp only [isK, beq_iff_eq] at h
  obtain ⟨h1, h2, h3⟩ := plain_len _ h
  have hk : k = 3 := by rw [h1] at h; exact h
  have hb := (right_bounds ⟨k, n, s⟩).2.2.2.2.2.2.1 (by rw [h1]; exact hk)
  rw [h1] at hb
  exact ⟨h2, ascii_ok7 h3, h1, hk, hb⟩
def lowerS (a : Val) : Val := if isK 3 a then textS (Lib.toLowerA a.s) else null
def upperS (a : Val) : Val := if isK 3 a then textS (Lib.toUpperA a.s) else null
theorem c_Lower (k n : Int) (s : List UInt8) : R K (.call 35 [V k n s] []) = some (enc (lowerS ⟨k, n, s⟩), []) := by
  by_cases h : isK 3 ⟨k, n, s⟩ = true
  · have ht := is3_text h
    have hp := p_Lower s (by omega) ht.2.1
    rw [call_35]
    simp -implicitDefEqProofs only [go_sem, simprocAttr, Tryz.f35, c_texts1, c_text, h, hp]
    all_goals simp [lowerS, h]
  · have h' : isK 3 ⟨k, n, s⟩ = false := by simpa using h
    rw [call_35]
    simp -implicitDefEqProofs only [go_sem, simprocAttr, Tryz.f35, c_texts1, h']
    all_goals simp [lowerS, h', null]
theorem c_Upper (k n : Int) (s : List UInt8) : R K (.call 36 [V k n s] []) = some (enc (upperS ⟨k, n, s⟩), []) := by
  by_cases h : isK 3 ⟨k, n, s⟩ = true
  · have ht := is3_text h
    have hp := p_Upper s (by omega) ht.2.1
    rw [call_36]
    simp -implicitDefEqProofs only [go_sem, simprocAttr, Tryz.f36, c_texts1, c_text, h, hp]
    all_goals simp [upperS, h]
  · have h' : isK 3 ⟨k, n, s⟩ = false := by simpa using h
    rw [call_36]
    simp -implicitDefEqProofs only [go_sem, simprocAttr, Tryz.f36, c_texts1, h']
    all_goals simp [upperS, h', null]
def partS (a b c : Val) : Val := if isK 3 a && (isK 2 b && isK 2 c) && decide (0 ≤ b.n) && decide (0 ≤ c.n) then textS ((a.s.drop b.n.toNat).take c.n.toNat) else null
theorem min_nat (m : Nat) (x : Int) (h : 0 ≤ x) : (if (m : Int) < x then (m : Int) else x) = ((min m x.toNat : Nat) : Int) := by split <;> omega
theorem nat_in (m l : Nat) (h : m ≤ l) : ((0 : Int) ≤ (m : Int) ∧ (m : Int) ≤ (l : Int)) = True := by simp; omega
theorem take_rest (m : Nat) (s : List UInt8) : List.take (s.length - m) (List.drop m s) = List.drop m s := List.take_of_length_le (by simp)
theorem take_rest2 (m : Nat) (s : List UInt8) : List.take (s.length - min s.length m) (List.drop m s) = List.drop m s := List.take_of_length_le (by simp; omega)
theorem drop_min (m : Nat) (s : List UInt8) : List.drop (min s.length m) s = List.drop m s := by
  rcases Nat.le_total s.length m with h | h
  · rw [Nat.min_eq_left h, List.drop_of_length_le (Nat.le_refl _), List.drop_of_length_le h]
  · rw [Nat.min_eq_right h]
theorem take_min (m : Nat) (s : List UInt8) : List.take (min s.length m) s = List.take m s := by
  rcases Nat.le_total s.length m with h | h
  · rw [Nat.min_eq_left h, List.take_length, List.take_of_length_le h]
  · rw [Nat.min_eq_right h]
theorem c_Part (k n : Int) (s : List UInt8) (k' n' : Int) (s' : List UInt8) (k'' n'' : Int) (s'' : List UInt8) : R K (.call 37 [V k n s, V k' n' s', V k'' n'' s''] []) = some (enc (partS ⟨k, n, s⟩ ⟨k', n', s'⟩ ⟨k'', n'', s''⟩), []) := by
  by_cases h : (isK 3 ⟨k, n, s⟩ && (isK 2 ⟨k', n', s'⟩ && isK 2 ⟨k'', n'', s''⟩) && decide (0 ≤ n') && decide (0 ≤ n'')) = true
  · have hp : partS ⟨k, n, s⟩ ⟨k', n', s'⟩ ⟨k'', n'', s''⟩ = textS ((s.drop n'.toNat).take n''.toNat) := by simp only [partS, h, if_true]
    rw [hp]
    simp only [Bool.and_eq_true, decide_eq_true_eq] at h
    obtain ⟨⟨⟨h1, h2, h3⟩, h4⟩, h5⟩ := h
    have h4' : decide (n' < 0) = false := by simpa using h4
    have h5' : decide (n'' < 0) = false := by simpa using h5
    have f1 := min_nat s.length n' h4
    have f2 := nat_in (min s.length n'.toNat) s.length (Nat.min_le_left _ _)
    have f3 := min_nat (List.drop n'.toNat s).length n'' h5
    have f4 := nat_in (min (List.drop n'.toNat s).length n''.toNat) (List.drop n'.toNat s).length (Nat.min_le_left _ _)
    have f6 : (((min s.length n'.toNat : Nat) : Int) ≤ (s.length : Int)) = True := by simp; omega
    have f7 : (((min (List.drop n'.toNat s).length n''.toNat : Nat) : Int) ≤ ((List.drop n'.toNat s).length : Int)) = True := by simp; omega
    have f8 : ∀ a : Nat, ((0 : Int) ≤ (a : Int)) = True := fun a => by simp
    have f5 : ∀ a : Nat, (((a : Nat) : Int) ≤ ((a : Nat) : Int)) = True := fun a => by simp
    rw [call_37]
    simp -implicitDefEqProofs only [go_sem, simprocAttr, Tryz.f37, c_texts1, c_ints2, c_text, h1, h2, h3, h4', h5', Bool.and_self, f1, f2, f3, f4, f5, f6, f7, f8, and_true, take_rest, take_rest2, drop_min, take_min, Int.toNat_natCast, Nat.sub_zero, List.drop_zero]
  · have hp : partS ⟨k, n, s⟩ ⟨k', n', s'⟩ ⟨k'', n'', s''⟩ = null := by unfold partS; exact if_neg h
    rw [hp]
    simp only [Bool.and_eq_true, decide_eq_true_eq] at h
    rw [call_37]
    simp -implicitDefEqProofs only [go_sem, simprocAttr, Tryz.f37, c_texts1, c_ints2, c_text, null]
    repeat' ((first | apply split_cond | apply split_yes | apply split_no) <;> intro hc <;> simp -implicitDefEqProofs only [hc, go_sem, simprocAttr, c_texts1, c_ints2, c_text, null])
    simp_all
theorem r_word (s : List UInt8) : R K (.call 121 [.str s] []) = some (enc (textS s), []) := by
  rw [call_121]
  simp -implicitDefEqProofs only [go_sem, simprocAttr, Tryz.f121, r_right]
  all_goals simp [textS]
def textsS18 (a b c : Val) : Val := if a.k = 3 ∧ b.k = 3 then textS (a.s ++ b.s) else null
def textsS20 (a b c : Val) : Val := if a.k = 3 then textS (Lib.toLowerA a.s) else null
def textsS21 (a b c : Val) : Val := if a.k = 3 then textS (Lib.toUpperA a.s) else null
def textsS22 (a b c : Val) : Val := if a.k = 3 then numberS 2 a.s.length else null
def textsS23 (a b c : Val) : Val := if a.k = 3 ∧ b.k = 2 ∧ c.k = 2 ∧ 0 ≤ b.n ∧ 0 ≤ c.n then textS ((a.s.drop b.n.toNat).take c.n.toNat) else null
theorem r_texts20 (k n : Int) (s : List UInt8) (k' n' : Int) (s' : List UInt8) (k'' n'' : Int) (s'' : List UInt8) (h : k = 3 → s.length ≤ 100 ∧ ascii s = true) : R K (.call 81 [.int .i64 20, V k n s, V k' n' s', V k'' n'' s''] []) = some (enc (textsS20 ⟨k, n, s⟩ ⟨k', n', s'⟩ ⟨k'', n'', s''⟩), []) := by
  by_cases hk : k = 3
  · subst hk
    have hp := p_Lower s (by have := (h rfl).1; omega) (h rfl).2
    rw [call_81]
    simp -implicitDefEqProofs only [go_sem, simprocAttr, Tryz.f81, hp, r_word]
    all_goals simp [textsS20]
  · rw [call_81]
    simp -implicitDefEqProofs only [go_sem, simprocAttr, Tryz.f81, hk]
    repeat' ((first | apply split_cond | apply split_yes | apply split_no) <;> intro hc <;> simp -implicitDefEqProofs only [hc, go_sem, simprocAttr, hk])
    all_goals simp_all [textsS20, null]
theorem r_texts21 (k n : Int) (s : List UInt8) (k' n' : Int) (s' : List UInt8) (k'' n'' : Int) (s'' : List UInt8) (h : k = 3 → s.length ≤ 100 ∧ ascii s = true) : R K (.call 81 [.int .i64 21, V k n s, V k' n' s', V k'' n'' s''] []) = some (enc (textsS21 ⟨k, n, s⟩ ⟨k', n', s'⟩ ⟨k'', n'', s''⟩), []) := by
  by_cases hk : k = 3
  · subst hk
    have hp := p_Upper s (by have := (h rfl).1; omega) (h rfl).2
    rw [call_81]
    simp -implicitDefEqProofs only [go_sem, simprocAttr, Tryz.f81, hp, r_word]
    all_goals simp [textsS21]
  · rw [call_81]
    simp -implicitDefEqProofs only [go_sem, simprocAttr, Tryz.f81, hk]
    repeat' ((first | apply split_cond | apply split_yes | apply split_no) <;> intro hc <;> simp -implicitDefEqProofs only [hc, go_sem, simprocAttr, hk])
    all_goals simp_all [textsS21, null]
theorem r_texts22 (k n : Int) (s : List UInt8) (k' n' : Int) (s' : List UInt8) (k'' n'' : Int) (s'' : List UInt8) : R K (.call 81 [.int .i64 22, V k n s, V k' n' s', V k'' n'' s''] []) = some (enc (textsS22 ⟨k, n, s⟩ ⟨k', n', s'⟩ ⟨k'', n'', s''⟩), []) := by
  rw [call_81]
  simp -implicitDefEqProofs only [go_sem, simprocAttr, Tryz.f81, r_Number]
  repeat' ((first | apply split_cond | apply split_yes | apply split_no) <;> intro hc <;> simp -implicitDefEqProofs only [hc, go_sem, simprocAttr, r_Number])
  all_goals simp_all [textsS22, null]
theorem r_texts18 (k n : Int) (s : List UInt8) (k' n' : Int) (s' : List UInt8) (k'' n'' : Int) (s'' : List UInt8) (h : k = 3 → k' = 3 → s.length ≤ 100 ∧ s'.length ≤ 100) : R K (.call 81 [.int .i64 18, V k n s, V k' n' s', V k'' n'' s''] []) = some (enc (textsS18 ⟨k, n, s⟩ ⟨k', n', s'⟩ ⟨k'', n'', s''⟩), []) := by
  by_cases hk : k = 3 ∧ k' = 3
  · obtain ⟨rfl, rfl⟩ := hk
    have hs : s.length + s'.length ≤ strMax := by have := h rfl rfl; unfold strMax; omega
    rw [call_81]
    simp -implicitDefEqProofs only [go_sem, simprocAttr, Tryz.f81, hs, r_word]
    all_goals simp [textsS18]
  · rw [call_81]
    simp -implicitDefEqProofs only [go_sem, simprocAttr, Tryz.f81, r_word]
    repeat' ((first | apply split_cond | apply split_yes | apply split_no) <;> intro hc <;> simp -implicitDefEqProofs only [hc, go_sem, simprocAttr, r_word])
    all_goals simp_all [textsS18, null]
theorem part_eq (a c : Nat) (s : List UInt8) : List.take (min s.length (min s.length a + c) - min s.length a) (List.drop (min s.length a) s) = List.take c (List.drop a s) := by
  rw [drop_min]
  rcases Nat.le_total s.length a with h | h
  · rw [List.drop_of_length_le h]; simp
  · rw [← take_min c (List.drop a s), List.length_drop]
    congr 1
    omega
theorem r_texts23 (k n : Int) (s : List UInt8) (k' n' : Int) (s' : List UInt8) (k'' n'' : Int) (s'' : List UInt8) (h : k = 3 → s.length ≤ 100) (hb : n' ≤ 999999999999999 ∧ n'' ≤ 999999999999999) : R K (.call 81 [.int .i64 23, V k n s, V k' n' s', V k'' n'' s''] []) = some (enc (textsS23 ⟨k, n, s⟩ ⟨k', n', s'⟩ ⟨k'', n'', s''⟩), []) := by
  by_cases hk : k = 3 ∧ k' = 2 ∧ k'' = 2 ∧ 0 ≤ n' ∧ 0 ≤ n''
  · have hp : textsS23 ⟨k, n, s⟩ ⟨k', n', s'⟩ ⟨k'', n'', s''⟩ = textS ((s.drop n'.toNat).take n''.toNat) := by unfold textsS23; exact if_pos hk
    rw [hp]
    obtain ⟨rfl, rfl, rfl, h4, h5⟩ := hk
    have hl := h rfl
    have h4' : decide (n' < 0) = false := by simpa using h4
    have h5' : decide (n'' < 0) = false := by simpa using h5
    have f1 := min_nat s.length n' h4
    have hw : wrapI .i64 (((min s.length n'.toNat : Nat) : Int) + n'') = ((min s.length n'.toNat + n''.toNat : Nat) : Int) := by rw [wrap_id (by omega) (by omega)]; omega
    have f2 : (if ((s.length : Nat) : Int) < ((min s.length n'.toNat + n''.toNat : Nat) : Int) then ((s.length : Nat) : Int) else ((min s.length n'.toNat + n''.toNat : Nat) : Int)) = ((min s.length (min s.length n'.toNat + n''.toNat) : Nat) : Int) := by split <;> omega
    have g1 : (((min s.length (min s.length n'.toNat + n''.toNat) : Nat) : Int) ≤ (s.length : Int)) = True := by simp; omega
    have g2 : (((min s.length n'.toNat : Nat) : Int) ≤ (s.length : Int)) = True := by simp; omega
    have g3 : ∀ a : Nat, ((0 : Int) ≤ (a : Int)) = True := fun a => by simp
    have g4 : (((min s.length n'.toNat : Nat) : Int) ≤ ((min s.length (min s.length n'.toNat + n''.toNat) : Nat) : Int)) = True := by simp; omega
    rw [call_81]
    simp -implicitDefEqProofs only [go_sem, simprocAttr, Tryz.f81, r_word, h4', h5', f1, hw, f2, g1, g2, g3, g4, and_true, Int.toNat_natCast, part_eq]
  · have hp : textsS23 ⟨k, n, s⟩ ⟨k', n', s'⟩ ⟨k'', n'', s''⟩ = null := by unfold textsS23; exact if_neg hk
    rw [hp]
    rw [call_81]
    simp -implicitDefEqProofs only [go_sem, simprocAttr, Tryz.f81, null]
    repeat' ((first | apply split_cond | apply split_yes | apply split_no) <;> intro hc <;> simp -implicitDefEqProofs only [hc, go_sem, simprocAttr, null])
    all_goals simp_all
theorem plain3 (v : Val) (h : (plainV v).k = 3) : (plainV v).s.length ≤ 100 ∧ ascii (plainV v).s = true := by
  obtain ⟨h1, h2, h3⟩ := plain_len v h
  rw [h1]
  exact ⟨h2, ascii_ok7 h3⟩
theorem r_OperT23 (n : Int) (k1 n1 : Int) (s1 : List UInt8) (k2 n2 : Int) (s2 : List UInt8) (k3 n3 : Int) (s3 : List UInt8) : R K (.call 21 [.int .i64 23, .int .i64 n, .rows [[.int .i64 k1, .int .i64 n1, .str s1], [.int .i64 k2, .int .i64 n2, .str s2], [.int .i64 k3, .int .i64 n3, .str s3]]] []) = some (enc (textsS23 (plainV ⟨k1, n1, s1⟩) (plainV ⟨k2, n2, s2⟩) (plainV ⟨k3, n3, s3⟩)), []) := by
  have ht := r_texts23 (plainV ⟨k1, n1, s1⟩).k (plainV ⟨k1, n1, s1⟩).n (plainV ⟨k1, n1, s1⟩).s (plainV ⟨k2, n2, s2⟩).k (plainV ⟨k2, n2, s2⟩).n (plainV ⟨k2, n2, s2⟩).s (plainV ⟨k3, n3, s3⟩).k (plainV ⟨k3, n3, s3⟩).n (plainV ⟨k3, n3, s3⟩).s (fun h => (plain3 _ h).1) ⟨(right_bounds ⟨k2, n2, s2⟩).2.1.2, (right_bounds ⟨k3, n3, s3⟩).2.1.2⟩
  rw [call_21]
  simp -implicitDefEqProofs only [go_sem, simprocAttr, Tryz.f21]
  rw [RL_eq]
  simp -implicitDefEqProofs only [go_sem, simprocAttr, r_right, at?]
  rw [RL_eq]
  simp -implicitDefEqProofs only [go_sem, simprocAttr, r_right, at?]
  rw [RL_eq]
  simp -implicitDefEqProofs only [go_sem, simprocAttr, r_right, at?]
  rw [RL_eq]
  simp -implicitDefEqProofs only [go_sem, simprocAttr, r_right, at?, ht]
theorem concat_law (a b c : Val) : concatS a b = textsS18 (plainV a) (plainV b) (plainV c) := by
  rcases plain_or a with h | h <;> rcases plain_or b with g | g <;> simp [concatS, textsS18, isK, h, g, null_k]
theorem length_law (a b c : Val) : lengthS a = textsS22 (plainV a) (plainV b) (plainV c) := by
  rcases plain_or a with h | h <;> simp [lengthS, textsS22, isK, h, null_k]
theorem lower_law (a b c : Val) : lowerS a = textsS20 (plainV a) (plainV b) (plainV c) := by
  rcases plain_or a with h | h <;> simp [lowerS, textsS20, isK, h, null_k]
theorem upper_law (a b c : Val) : upperS a = textsS21 (plainV a) (plainV b) (plainV c) := by
  rcases plain_or a with h | h <;> simp [upperS, textsS21, isK, h, null_k]
theorem part_law (a b c : Val) : partS a b c = textsS23 (plainV a) (plainV b) (plainV c) := by
  rcases plain_or a with h | h <;> rcases plain_or b with g | g <;> rcases plain_or c with f | f <;> simp [partS, textsS23, isK, h, g, f, null_k, and_assoc]
structure Pc where
  c : UInt8
  any : Bool
  one : Bool
def pieceOf (c : UInt8) : Pc := if c = 37 then ⟨0, true, false⟩ else ⟨c, false, c == 95⟩
def parse : List UInt8 → List Pc
  | [] => []
  | [c] => [pieceOf c]
  | c :: d :: r => if c = 92 then ⟨d, false, false⟩ :: parse r else pieceOf c :: parse (d :: r)
def fitAt (s : List UInt8) (p : Pc) (i : Nat) : Bool := match s[i]? with
  | some b => p.one || p.c == b
  | none => false
def runOr (f : Nat → Bool) : Nat → Bool
  | 0 => f 0
  | i + 1 => f (i + 1) || runOr f i
def shiftAnd (s : List UInt8) (p : Pc) (f : Nat → Bool) : Nat → Bool
  | 0 => false
  | i + 1 => f i && fitAt s p i
def has (s : List UInt8) (ps : List Pc) : Nat → Nat → Bool
  | 0 => fun i => i == 0
  | k + 1 => match ps[k]? with
    | none => fun _ => false
    | some p => if p.any = true then runOr (has s ps k) else shiftAnd s p (has s ps k)
def anyAt (ps : List Pc) (k : Nat) : Bool := match ps[k]? with
  | some p => p.any
  | none => false
def begun (s : List UInt8) (ps : List Pc) (i k : Nat) : Bool := has s ps k i || (anyAt ps k && has s ps (k + 1) i)
def litAt (s : List UInt8) (ps : List Pc) (i k : Nat) : Bool := match ps[k]? with
  | some p => !p.any && fitAt s p i
  | none => false
def rowNext (s : List UInt8) (ps : List Pc) (i : Nat) (f : Nat → Bool) : Nat → Bool
  | 0 => f 0 && anyAt ps 0
  | k + 1 => (f (k + 1) && anyAt ps (k + 1)) || (f k && litAt s ps i k)
def skips (ps : List Pc) (f : Nat → Bool) : Nat → Bool
  | 0 => f 0
  | k + 1 => f (k + 1) || (skips ps f k && anyAt ps k)
theorem has_any (s : List UInt8) (ps : List Pc) (k i : Nat) (h : anyAt ps k = true) : has s ps (k + 1) (i + 1) = (has s ps k (i + 1) || has s ps (k + 1) i) := by
  unfold anyAt at h
  cases hp : ps[k]? with
  | none => rw [hp] at h; simp at h
  | some p => rw [hp] at h; simp only at h; simp only [has, hp, h, if_true, runOr]
theorem has_any0 (s : List UInt8) (ps : List Pc) (k : Nat) (h : anyAt ps k = true) : has s ps (k + 1) 0 = has s ps k 0 := by
  unfold anyAt at h
  cases hp : ps[k]? with
  | none => rw [hp] at h; simp at h
  | some p => rw [hp] at h; simp only at h; simp only [has, hp, h, if_true, runOr]
theorem has_lit (s : List UInt8) (ps : List Pc) (k i : Nat) (h : anyAt ps k = false) : has s ps (k + 1) (i + 1) = (has s ps k i && litAt s ps i k) := by
  unfold anyAt at h
  unfold litAt
  cases hp : ps[k]? with
  | none => simp [has, hp]
  | some p => rw [hp] at h; simp only at h; simp [has, hp, h, shiftAnd]
theorem has_lit0 (s : List UInt8) (ps : List Pc) (k : Nat) (h : anyAt ps k = false) : has s ps (k + 1) 0 = false := by
  unfold anyAt at h
  cases hp : ps[k]? with
  | none => simp [has, hp]
  | some p => rw [hp] at h; simp only at h; simp [has, hp, h, shiftAnd]
theorem lit_any (s : List UInt8) (ps : List Pc) (i k : Nat) (h : anyAt ps k = true) : litAt s ps i k = false := by
  unfold anyAt at h
  unfold litAt
  cases hp : ps[k]? with
  | none => rfl
  | some p => rw [hp] at h; simp only at h; simp [h]
theorem row_first (s : List UInt8) (ps : List Pc) : ∀ k, skips ps (fun k => k == 0) k = begun s ps 0 k
  | 0 => by
    by_cases h : anyAt ps 0 = true
    · simp [skips, begun, has_any0 s ps 0 h, has]
    · have h' : anyAt ps 0 = false := by simpa using h
      simp [skips, begun, h', has]
  | k + 1 => by
    have ih := row_first s ps k
    simp only [skips, ih, begun]
    by_cases h : anyAt ps k = true
    · have e := has_any0 s ps k h
      by_cases g : anyAt ps (k + 1) = true
      · have e2 := has_any0 s ps (k + 1) g
        simp [h, g, e, e2]
      · have g' : anyAt ps (k + 1) = false := by simpa using g
        simp [h, g', e]
    · have h' : anyAt ps k = false := by simpa using h
      have e := has_lit0 s ps k h'
      by_cases g : anyAt ps (k + 1) = true
      · have e2 := has_any0 s ps (k + 1) g
        simp [h', g, e, e2]
      · have g' : anyAt ps (k + 1) = false := by simpa using g
        simp [h', g', e]
theorem row_next (s : List UInt8) (ps : List Pc) (i : Nat) : ∀ k, skips ps (rowNext s ps i (begun s ps i)) k = begun s ps (i + 1) k
  | 0 => by
    by_cases h : anyAt ps 0 = true
    · have e := has_any s ps 0 i h
      simp only [skips, rowNext, begun, h, e, Bool.and_true, Bool.true_and]
      cases i with
      | zero => rw [has_any0 s ps 0 h]; rfl
      | succ i => simp [has]
    · have h' : anyAt ps 0 = false := by simpa using h
      simp [skips, rowNext, begun, h', has]
  | k + 1 => by
    have ih := row_next s ps i k
    simp only [skips, ih, rowNext]
    by_cases h : anyAt ps k = true
    · have e := has_any s ps k i h
      have l := lit_any s ps i k h
      by_cases g : anyAt ps (k + 1) = true
      · have e2 := has_any s ps (k + 1) i g
        simp only [begun, h, g, e, e2, l, Bool.and_true, Bool.true_and, Bool.and_false, Bool.or_false]
        cases has s ps (k + 1) i <;> cases has s ps (k + 2) i <;> cases has s ps k (i + 1) <;> rfl
      · have g' : anyAt ps (k + 1) = false := by simpa using g
        simp [begun, h, g', e, l]
    · have h' : anyAt ps k = false := by simpa using h
      have e := has_lit s ps k i h'
      by_cases g : anyAt ps (k + 1) = true
      · have e2 := has_any s ps (k + 1) i g
        simp only [begun, h', g, e, e2, Bool.and_true, Bool.true_and, Bool.and_false, Bool.or_false, Bool.false_and]
        cases i with
        | zero =>
          have e3 := has_any0 s ps (k + 1) g
          have e4 := has_lit0 s ps k h'
          simp [e3, e4]
        | succ i =>
          have e3 := has_any s ps (k + 1) i g
          simp only [e3]
          cases has s ps (k + 1) (i + 1) <;> cases has s ps (k + 2) i <;> cases has s ps k (i + 1) <;> cases litAt s ps (i + 1) k <;> rfl
      · have g' : anyAt ps (k + 1) = false := by simpa using g
        simp [begun, h', g', e]
theorem elem_bool : elemZero Tryz.prog 137 = some (.bool false) := rfl
theorem mk_bools (h : Heap) (n : Nat) (hn : n ≤ 100000) : makeSliceV Tryz.prog 137 h (.int .i64 (n : Int)) (.int .i64 (n : Int)) = some (.own h.length n, h ++ [.rows 1 (List.replicate n [.bool false]) true]) := by
  have e : es Tryz.prog 137 = some (1, 1) := rfl
  unfold makeSliceV
  simp only [if_true, e, elem_bool, makeOf, makeRows, Int.toNat_natCast]
  rw [if_pos ⟨by omega, by unfold roomMax; omega⟩]
  rfl
theorem at_zero {α : Type} (x : α) (l : List α) : at? (x :: l) (0 : Int) = some x := rfl
def bl (n : Nat) (g : Nat → Bool) : List (List AV) := (List.range n).map fun j => [.bool (g j)]
theorem bl_len (n : Nat) (g : Nat → Bool) : (bl n g).length = n := by simp [bl]
theorem bl_get? {n i : Nat} (g : Nat → Bool) (h : i < n) : (bl n g)[i]? = some [.bool (g i)] := by simp [bl, h]
theorem bl_at {n i : Nat} (g : Nat → Bool) (h : i < n) : at? (bl n g) (i : Int) = some [.bool (g i)] := at_get (bl_get? g h)
theorem bl_congr {n : Nat} {g g' : Nat → Bool} (h : ∀ j, j < n → g j = g' j) : bl n g = bl n g' := by
  unfold bl
  refine List.map_congr_left fun j hj => ?_
  rw [h j (by simpa using hj)]
theorem bl_set {n i : Nat} (g : Nat → Bool) (b : Bool) (h : i < n) : (bl n g).set i [.bool b] = bl n (fun j => if j = i then b else g j) := by
  apply List.ext_getElem?
  intro j
  rw [List.getElem?_set]
  by_cases hj : j < n
  · by_cases e : i = j
    · subst e
      rw [if_pos rfl, if_pos (by rw [bl_len]; exact h), bl_get? _ h]
      simp
    · rw [if_neg e, bl_get? _ hj, bl_get? _ hj, if_neg (Ne.symm e)]
  · have e : i ≠ j := by omega
    rw [if_neg e]
    rw [List.getElem?_eq_none (by rw [bl_len]; omega), List.getElem?_eq_none (by rw [bl_len]; omega)]
theorem bl_rep (n : Nat) : List.replicate n [AV.bool false] = bl n (fun _ => false) := by
  apply List.ext_getElem?
  intro j
  by_cases hj : j < n
  · rw [bl_get? _ hj]; simp [hj]
  · rw [List.getElem?_eq_none (by simp; omega), List.getElem?_eq_none (by rw [bl_len]; omega)]
theorem bl_first (n : Nat) : [AV.bool true] :: List.replicate n [AV.bool false] = bl (n + 1) (fun j => j == 0) := by
  have : [AV.bool true] :: List.replicate n [AV.bool false] = (List.replicate (n + 1) [AV.bool false]).set 0 [.bool true] := by
    simp [List.replicate_succ]
  rw [this, bl_rep, bl_set _ _ (by omega)]
  exact bl_congr fun j _ => by by_cases h : j = 0 <;> simp [h]
theorem bl_set0 (n : Nat) (i : Nat) (h : i < n) (g g' : Nat → Bool) (b : Bool) (e : ∀ j, j < n → (if j = i then b else g j) = g' j) : (bl n g).set i [.bool b] = bl n g' := by
  rw [bl_set g b h]
  exact bl_congr e
theorem l_any (s p : List UInt8) (g : Nat → Bool) (hs : s.length ≤ 100) (ks : List It) : ∀ (m i : Nat) (j : Int) (B : Code), Loop Tryz.f93 2 B → j = (i : Int) → s.length + 1 = i + m →
  RL K (.run 93 0 (.code B :: .lp B (some ([0, 1, 5, 6, 34, 35], [])) 2 :: .blk 2 2 :: ks) [(0, .str s), (1, .str p), (5, .rows (bl (s.length + 1) g)), (6, .own 1 (s.length + 1)), (34, .int .i64 ((s.length + 1 : Nat) : Int)), (35, .int .i64 j)] [.hole, .rows 1 (bl (s.length + 1) fun x => decide (x < i) && runOr g x) true]) =
  R K (.run 93 0 ks [(0, .str s), (1, .str p), (6, .own 1 (s.length + 1))] [.hole, .rows 1 (bl (s.length + 1) (runOr g)) true])
  | 0, i, j, B, hB, hj, hm => by
    subst hj
    have h1 : decide ((i : Int) < ((s.length + 1 : Nat) : Int)) = false := by simp; omega
    have h2 : bl (s.length + 1) (fun x => decide (x < i) && runOr g x) = bl (s.length + 1) (runOr g) := bl_congr fun j hj => by
      have : decide (j < i) = true := by simp; omega
      rw [this, Bool.true_and]
    rw [h2]
    unfold Loop at hB
    simp -implicitDefEqProofs only [go_sem, simprocAttr, Tryz.f93, loopOf] at hB
    subst hB
    rw [RL_eq]
    simp -implicitDefEqProofs only [go_sem, simprocAttr, h1]
  | m + 1, 0, j, B, hB, hj, hm => by
    subst hj
    have hB' := hB
    have h1 : decide ((0 : Int) < ((s.length + 1 : Nat) : Int)) = true := by rw [decide_eq_true_eq]; omega
    have h2 := bl_at (n := s.length + 1) (i := 0) g (by omega)
    have h3 := bl_at (n := s.length + 1) (i := 0) (fun x => decide (x < 0) && runOr g x) (by omega)
    have h4 := bl_get? (n := s.length + 1) (i := 0) (fun x => decide (x < 0) && runOr g x) (by omega)
    have h5 := bl_set0 (s.length + 1) 0 (by omega) (fun x => decide (x < 0) && runOr g x) (fun x => decide (x < 1) && runOr g x) (g 0) (fun j hj => by
      by_cases e : j = 0
      · subst e; simp [runOr]
      · have e2 : ¬ j < 1 := by omega
        simp [e, e2])
    have h7 : wrapI .i64 1 = 1 := by decide
    have ih := l_any s p g hs ks m 1 1 B hB' rfl (by omega)
    simp only [Int.natCast_zero] at *
    cases hg : g 0
    · rw [hg] at h2 h5
      unfold Loop at hB
      simp -implicitDefEqProofs only [go_sem, simprocAttr, Tryz.f93, loopOf] at hB
      subst hB
      rw [RL_eq]
      simp -implicitDefEqProofs only [go_sem, simprocAttr, h1, h2, h3, h4, h5, h7, bl_len, Int.toNat_zero, splice, ih]
    · rw [hg] at h2 h5
      unfold Loop at hB
      simp -implicitDefEqProofs only [go_sem, simprocAttr, Tryz.f93, loopOf] at hB
      subst hB
      rw [RL_eq]
      simp -implicitDefEqProofs only [go_sem, simprocAttr, h1, h2, h3, h4, h5, h7, bl_len, Int.toNat_zero, splice, ih]
  | m + 1, i + 1, j, B, hB, hj, hm => by
    subst hj
    have hB' := hB
    have h1 : decide (((i + 1 : Nat) : Int) < ((s.length + 1 : Nat) : Int)) = true := by simp; omega
    have h2 := bl_at (n := s.length + 1) (i := i + 1) g (by omega)
    have h3 := bl_at (n := s.length + 1) (i := i + 1) (fun x => decide (x < i + 1) && runOr g x) (by omega)
    have h4 := bl_get? (n := s.length + 1) (i := i + 1) (fun x => decide (x < i + 1) && runOr g x) (by omega)
    have h3' := bl_at (n := s.length + 1) (i := i) (fun x => decide (x < i + 1) && runOr g x) (by omega)
    have h4' := bl_get? (n := s.length + 1) (i := i) (fun x => decide (x < i + 1) && runOr g x) (by omega)
    have h5 : ∀ b : Bool, b = (g (i + 1) || runOr g i) → (bl (s.length + 1) (fun x => decide (x < i + 1) && runOr g x)).set (i + 1) [.bool b] = bl (s.length + 1) (fun x => decide (x < i + 1 + 1) && runOr g x) := fun b hb => bl_set0 (s.length + 1) (i + 1) (by omega) (fun x => decide (x < i + 1) && runOr g x) (fun x => decide (x < i + 1 + 1) && runOr g x) b (fun j hj => by
      by_cases e : j = i + 1
      · subst e
        have e1 : decide (i + 1 < i + 1 + 1) = true := by simp
        simp only [if_true, e1, Bool.true_and, runOr]
        exact hb
      · have e2 : decide (j < i + 1 + 1) = decide (j < i + 1) := by rw [decide_eq_decide]; omega
        simp only [e, if_false, e2])
    have h6 : decide ((0 : Int) < ((i + 1 : Nat) : Int)) = true := by rw [decide_eq_true_eq]; omega
    have h7 : wrapI .i64 (((i + 1 : Nat) : Int) + 1) = ((i + 1 + 1 : Nat) : Int) := next_id (i := i + 1) (n := 1000) (by omega) (by omega)
    have h8 : wrapI .i64 (((i + 1 : Nat) : Int) - 1) = ((i : Nat) : Int) := by rw [wrap_id (by omega) (by omega)]; omega
    have h9 : decide (i < i + 1) = true := by simp
    have ih := l_any s p g hs ks m (i + 1 + 1) _ B hB' rfl (by omega)
    simp only [h9, Bool.true_and] at h3' h4'
    cases hg : g (i + 1)
    · rw [hg] at h2
      have h5 := h5 (runOr g i) (by rw [hg, Bool.false_or])
      unfold Loop at hB
      simp -implicitDefEqProofs only [go_sem, simprocAttr, Tryz.f93, loopOf] at hB
      subst hB
      rw [RL_eq]
      simp -implicitDefEqProofs only [go_sem, simprocAttr, h1, h2, h3, h4, h3', h4', h5, h6, h7, h8, bl_len, Int.toNat_natCast, splice, ih]
    · rw [hg] at h2
      have h5 := h5 true (by rw [hg, Bool.true_or])
      unfold Loop at hB
      simp -implicitDefEqProofs only [go_sem, simprocAttr, Tryz.f93, loopOf] at hB
      subst hB
      rw [RL_eq]
      simp -implicitDefEqProofs only [go_sem, simprocAttr, h1, h2, h3, h4, h3', h4', h5, h6, h7, h8, bl_len, Int.toNat_natCast, splice, ih]
theorem u8_eq (a b : UInt8) : (((a.toNat : Nat) : Int) == ((b.toNat : Nat) : Int)) = (a == b) := by
  rw [Bool.eq_iff_iff]
  simp only [beq_iff_eq]
  exact ⟨fun h => UInt8.toNat.inj (by omega), fun h => by rw [h]⟩
theorem l_lit (s p : List UInt8) (c : UInt8) (any : Bool) (g : Nat → Bool) (hs : s.length ≤ 100) (ks : List It) : ∀ (m i : Nat) (j : Int) (B : Code), Loop Tryz.f93 4 B → j = (i : Int) → s.length = i + m →
  RL K (.run 93 0 (.code B :: .lp B (some ([0, 1, 5, 6, 7, 8, 70, 71], [])) 2 :: .blk 4 2 :: ks) [(0, .str s), (1, .str p), (5, .rows (bl (s.length + 1) g)), (6, .own 1 (s.length + 1)), (7, .int .u8 (c.toNat : Int)), (8, .bool any), (70, .int .i64 (s.length : Int)), (71, .int .i64 j)] [.hole, .rows 1 (bl (s.length + 1) fun x => decide (x < i + 1) && shiftAnd s ⟨c, false, any⟩ g x) true]) =
  R K (.run 93 0 ks [(0, .str s), (1, .str p), (6, .own 1 (s.length + 1))] [.hole, .rows 1 (bl (s.length + 1) (shiftAnd s ⟨c, false, any⟩ g)) true])
  | 0, i, j, B, hB, hj, hm => by
    subst hj
    have h1 : decide ((i : Int) < (s.length : Int)) = false := by simp; omega
    have h2 : bl (s.length + 1) (fun x => decide (x < i + 1) && shiftAnd s ⟨c, false, any⟩ g x) = bl (s.length + 1) (shiftAnd s ⟨c, false, any⟩ g) := bl_congr fun j hj => by
      have : decide (j < i + 1) = true := by simp; omega
      rw [this, Bool.true_and]
    rw [h2]
    unfold Loop at hB
    simp -implicitDefEqProofs only [go_sem, simprocAttr, Tryz.f93, loopOf] at hB
    subst hB
    rw [RL_eq]
    simp -implicitDefEqProofs only [go_sem, simprocAttr, h1]
  | m + 1, i, j, B, hB, hj, hm => by
    subst hj
    have hB' := hB
    have h1 : decide ((i : Int) < (s.length : Int)) = true := by rw [decide_eq_true_eq]; omega
    obtain ⟨b, hb⟩ := some_at (l := s) (i := i) (by omega)
    have hg := byte_get hb
    have h2 := bl_at (n := s.length + 1) (i := i) g (by omega)
    have h3 := bl_at (n := s.length + 1) (i := i + 1) (fun x => decide (x < i + 1) && shiftAnd s ⟨c, false, any⟩ g x) (by omega)
    have h4 := bl_get? (n := s.length + 1) (i := i + 1) (fun x => decide (x < i + 1) && shiftAnd s ⟨c, false, any⟩ g x) (by omega)
    have h5 : ∀ v : Bool, v = (g i && (any || c == b)) → (bl (s.length + 1) (fun x => decide (x < i + 1) && shiftAnd s ⟨c, false, any⟩ g x)).set (i + 1) [.bool v] = bl (s.length + 1) (fun x => decide (x < i + 1 + 1) && shiftAnd s ⟨c, false, any⟩ g x) := fun v hv => bl_set0 (s.length + 1) (i + 1) (by omega) (fun x => decide (x < i + 1) && shiftAnd s ⟨c, false, any⟩ g x) (fun x => decide (x < i + 1 + 1) && shiftAnd s ⟨c, false, any⟩ g x) v (fun j hj => by
      by_cases e : j = i + 1
      · subst e
        have e1 : decide (i + 1 < i + 1 + 1) = true := by simp
        simp only [if_true, e1, Bool.true_and, shiftAnd, fitAt, hb]
        exact hv
      · have e2 : decide (j < i + 1 + 1) = decide (j < i + 1) := by rw [decide_eq_decide]; omega
        simp only [e, if_false, e2])
    have h7 := next_id (i := i) (n := s.length) (by omega) (by omega)
    have ih := l_lit s p c any g hs ks m (i + 1) _ B hB' rfl (by omega)
    have h8 := u8_eq b c
    cases hgi : g i
    · rw [hgi] at h2
      have h5 := h5 false (by rw [hgi, Bool.false_and])
      unfold Loop at hB
      simp -implicitDefEqProofs only [go_sem, simprocAttr, Tryz.f93, loopOf] at hB
      subst hB
      rw [RL_eq]
      simp -implicitDefEqProofs only [go_sem, simprocAttr, h1, h2, h3, h4, h5, h7, hg, bl_len, Int.toNat_natCast, splice, ih]
    · rw [hgi] at h2
      cases any
      · have h5 := h5 (b == c) (by rw [hgi, Bool.true_and, Bool.false_or, Bool.eq_iff_iff, beq_iff_eq, beq_iff_eq]; exact eq_comm)
        unfold Loop at hB
        simp -implicitDefEqProofs only [go_sem, simprocAttr, Tryz.f93, loopOf] at hB
        subst hB
        rw [RL_eq]
        simp -implicitDefEqProofs only [go_sem, simprocAttr, h1, h2, h3, h4, h5, h7, h8, hg, bl_len, Int.toNat_natCast, splice, ih]
      · have h5 := h5 true (by rw [hgi, Bool.true_and, Bool.true_or])
        unfold Loop at hB
        simp -implicitDefEqProofs only [go_sem, simprocAttr, Tryz.f93, loopOf] at hB
        subst hB
        rw [RL_eq]
        simp -implicitDefEqProofs only [go_sem, simprocAttr, h1, h2, h3, h4, h5, h7, hg, bl_len, Int.toNat_natCast, splice, ih]
def col (s : List UInt8) : List Pc → (Nat → Bool) → Nat → Bool
  | [], g => g
  | p :: r, g => col s r (if p.any = true then runOr g else shiftAnd s p g)
theorem has_col (s : List UInt8) : ∀ (r done : List Pc), has s (done ++ r) (done.length + r.length) = col s r (has s (done ++ r) done.length)
  | [], done => by simp [col]
  | p :: r, done => by
    have ih := has_col s r (done ++ [p])
    simp only [List.append_assoc, List.cons_append, List.nil_append, List.length_append, List.length_cons, List.length_nil, Nat.zero_add] at ih
    simp only [List.length_cons, col]
    rw [show done.length + (r.length + 1) = done.length + 1 + r.length by omega, ih]
    congr 1
    have : (done ++ p :: r)[done.length]? = some p := by simp
    simp only [has, this]
theorem has_all (s : List UInt8) (ps : List Pc) : has s ps ps.length = col s ps (fun i => i == 0) := by
  have := has_col s ps []
  simpa [has] using this
theorem parse_any {c : UInt8} (q : List UInt8) (h : c = 37) : parse (c :: q) = ⟨0, true, false⟩ :: parse q := by
  subst h
  cases q <;> rfl
theorem parse_esc {c : UInt8} (d : UInt8) (q : List UInt8) (h : c = 92) : parse (c :: d :: q) = ⟨d, false, false⟩ :: parse q := by subst h; rfl
theorem parse_lit {c : UInt8} (q : List UInt8) (h : c ≠ 37) (h2 : c ≠ 92 ∨ q = []) : parse (c :: q) = ⟨c, false, c == 95⟩ :: parse q := by
  have e : pieceOf c = ⟨c, false, c == 95⟩ := if_neg h
  cases q with
  | nil => simp [parse, e]
  | cons d r =>
    have : c ≠ 92 := h2.resolve_right (by simp)
    simp [parse, e, this]
theorem u8_lit (c : UInt8) (k : Nat) (hk : k < 256) : (((c.toNat : Nat) : Int) == (k : Int)) = (c == UInt8.ofNat k) := by
  rw [Bool.eq_iff_iff]
  simp only [beq_iff_eq]
  constructor
  · intro h
    refine UInt8.toNat.inj ?_
    rw [UInt8.toNat_ofNat']
    omega
  · rintro rfl
    rw [UInt8.toNat_ofNat']
    omega
theorem l_like (s : List UInt8) (hs : s.length ≤ 100) (ks : List It) : ∀ (m : Nat) (p : List UInt8) (g : Nat → Bool) (B : Code), Loop Tryz.f93 0 B → p.length ≤ m → p.length ≤ 100 →
  RL K (.run 93 0 (.code B :: .lp B (some ([0, 1, 5], [5])) 1 :: .blk 0 1 :: ks) [(0, .str s), (1, .str p), (5, .rows (bl (s.length + 1) g))] [Blk.hole]) =
  R K (.run 93 0 ks [(0, .str s), (5, .rows (bl (s.length + 1) (col s (parse p) g)))] [Blk.hole])
  | m, [], g, B, hB, hm, hp => by
    unfold Loop at hB
    simp -implicitDefEqProofs only [go_sem, simprocAttr, Tryz.f93, loopOf] at hB
    subst hB
    rw [RL_eq]
    simp -implicitDefEqProofs only [go_sem, simprocAttr, parse, col]
  | m + 1, c :: p, g, B, hB, hm, hp => by
    have hB' := hB
    simp only [List.length_cons] at hm hp
    have h1 : wrapI .i64 ((s.length : Int) + 1) = ((s.length + 1 : Nat) : Int) := by rw [wrap_id (by omega) (by omega)]; rfl
    have h2 := fun h => mk_bools h (s.length + 1) (by omega)
    have h3 : decide ((0 : Int) < ((p.length + 1 : Nat) : Int)) = true := by rw [decide_eq_true_eq]; omega
    have h4 : ((1 : Int) ≤ ((p.length + 1 : Nat) : Int)) = True := by simp; omega
    have h5 : List.take (p.length + 1 - 1) (List.drop 1 (c :: p)) = p := by simp
    have h6 : List.take p.length (List.drop 1 (c :: p)) = p := by simp
    have h7 : (1 : Int).toNat = 1 := rfl
    have h8 : (((c.toNat : Nat) : Int) == 37) = (c == 37) := u8_lit c 37 (by omega)
    have h9 : (((c.toNat : Nat) : Int) == 92) = (c == 92) := u8_lit c 92 (by omega)
    have h10 : (((c.toNat : Nat) : Int) == 95) = (c == 95) := u8_lit c 95 (by omega)
    have i1 : bl (s.length + 1) (fun _ => false) = bl (s.length + 1) (fun x => decide (x < 0) && runOr g x) := bl_congr fun j _ => by simp
    by_cases hany : c = 37
    · have ih := l_like s hs ks m p (runOr g) B hB' (by omega) (by omega)
      have hc : (c == 37) = true := by simp [hany]
      rw [parse_any p hany]
      unfold Loop at hB
      simp -implicitDefEqProofs only [go_sem, simprocAttr, Tryz.f93, loopOf] at hB
      subst hB
      rw [RL_eq]
      simp -implicitDefEqProofs only [go_sem, simprocAttr, h1, h2, h3, h4, h5, h6, h7, h8, h9, h10, hc, Nat.add_sub_cancel, List.drop_succ_cons, List.drop_zero, List.take_length, List.length_replicate, at_zero, bl_rep, bl_len]
      rw [i1, l_any s p g hs _ (s.length + 1) 0 0 _ ?_ rfl (by omega)]
      · simp -implicitDefEqProofs only [go_sem, simprocAttr, bl_len, ih, col]
      · rfl
    · have hc : (c == 37) = false := by simp [hany]
      have j1 : ∀ P : Pc, bl (s.length + 1) (fun _ => false) = bl (s.length + 1) (fun x => decide (x < 0 + 1) && shiftAnd s P g x) := fun P => bl_congr fun j _ => by
        cases j with
        | zero => simp [shiftAnd]
        | succ j => simp
      by_cases hesc : c = 92
      · have hc2 : (c == 92) = true := by simp [hesc]
        have hc3 : (c == 95) = false := by simp [hesc]
        match p, hm, hp, h3, h4, h5, h6 with
        | [], hm, hp, h3, h4, h5, h6 =>
          have ih := l_like s hs ks m [] (shiftAnd s ⟨c, false, c == 95⟩ g) B hB' (by simp) (by simp)
          rw [parse_lit [] hany (.inr rfl)]
          rw [hc3] at ih ⊢
          unfold Loop at hB
          simp -implicitDefEqProofs only [go_sem, simprocAttr, Tryz.f93, loopOf] at hB
          subst hB
          rw [RL_eq]
          simp -implicitDefEqProofs only [go_sem, simprocAttr, h1, h2, h3, h4, h5, h6, h7, h8, h9, h10, hc, hc2, hc3, Nat.add_sub_cancel, List.drop_succ_cons, List.drop_zero, List.take_length, List.length_replicate, at_zero, bl_rep, bl_len]
          rw [j1 ⟨c, false, false⟩, l_lit s [] c false g hs _ s.length 0 0 _ ?_ rfl (by omega)]
          · simp -implicitDefEqProofs only [go_sem, simprocAttr, bl_len, ih, col]
          · rfl
        | d :: q, hm, hp, h3, h4, h5, h6 =>
          simp only [List.length_cons] at hm hp
          have ih := l_like s hs ks m q (shiftAnd s ⟨d, false, false⟩ g) B hB' (by omega) (by omega)
          have k3 : decide ((0 : Int) < ((q.length + 1 : Nat) : Int)) = true := by rw [decide_eq_true_eq]; omega
          have k4 : ((1 : Int) ≤ ((q.length + 1 : Nat) : Int)) = True := by simp; omega
          have k3' : decide ((0 : Int) < ((q.length + 1 + 1 : Nat) : Int)) = true := by rw [decide_eq_true_eq]; omega
          have k4' : ((1 : Int) ≤ ((q.length + 1 + 1 : Nat) : Int)) = True := by simp; omega
          have k5 : List.take q.length q = q := List.take_length
          have k6 : List.take (q.length + 1) (d :: q) = d :: q := by simp
          rw [parse_esc d q hesc]
          unfold Loop at hB
          simp -implicitDefEqProofs only [go_sem, simprocAttr, Tryz.f93, loopOf] at hB
          subst hB
          rw [RL_eq]
          simp -implicitDefEqProofs only [go_sem, simprocAttr, h1, h2, h7, h8, h9, h10, hc, hc2, hc3, k3, k4, k3', k4', k5, k6, Nat.add_sub_cancel, List.drop_succ_cons, List.drop_zero, List.take_length, List.length_replicate, at_zero, bl_rep, bl_len]
          rw [j1 ⟨d, false, false⟩, l_lit s q d false g hs _ s.length 0 0 _ ?_ rfl (by omega)]
          · simp -implicitDefEqProofs only [go_sem, simprocAttr, bl_len, ih, col]
          · rfl
      · have hc2 : (c == 92) = false := by simp [hesc]
        have ih := l_like s hs ks m p (shiftAnd s ⟨c, false, c == 95⟩ g) B hB' (by omega) (by omega)
        rw [parse_lit p hany (.inl hesc)]
        unfold Loop at hB
        simp -implicitDefEqProofs only [go_sem, simprocAttr, Tryz.f93, loopOf] at hB
        subst hB
        rw [RL_eq]
        simp -implicitDefEqProofs only [go_sem, simprocAttr, h1, h2, h3, h4, h5, h6, h7, h8, h9, h10, hc, hc2, Nat.add_sub_cancel, List.drop_succ_cons, List.drop_zero, List.take_length, List.length_replicate, at_zero, bl_rep, bl_len]
        rw [j1 ⟨c, false, c == 95⟩, l_lit s p c (c == 95) g hs _ s.length 0 0 _ ?_ rfl (by omega)]
        · simp -implicitDefEqProofs only [go_sem, simprocAttr, bl_len, ih, col]
        · rfl
def likeS (s p : List UInt8) : Bool := has s (parse p) (parse p).length s.length
theorem c_like (s p : List UInt8) (hs : s.length ≤ 100) (hp : p.length ≤ 100) : R K (.call 93 [.str s, .str p] []) = some (.bool (likeS s p), []) := by
  have h1 : wrapI .i64 ((s.length : Int) + 1) = ((s.length + 1 : Nat) : Int) := by rw [wrap_id (by omega) (by omega)]; rfl
  have h2 := fun h => mk_bools h (s.length + 1) (by omega)
  have h3 := bl_at (n := s.length + 1) (i := s.length) (col s (parse p) fun j => j == 0) (by omega)
  rw [call_93]
  simp -implicitDefEqProofs only [go_sem, simprocAttr, Tryz.f93, h1, h2, List.length_replicate, at_zero, bl_first, bl_len]
  rw [l_like s hs _ p.length p _ _ ?_ (Nat.le_refl _) hp]
  · simp -implicitDefEqProofs only [go_sem, simprocAttr, h3, bl_len]
    rw [likeS, has_all]
  · rfl
def likeV (a b : Val) : Val := if isK 3 a && isK 3 b then boolV (likeS a.s b.s) else null
theorem c_Like (k n : Int) (s : List UInt8) (k' n' : Int) (s' : List UInt8) : R K (.call 39 [V k n s, V k' n' s'] []) = some (enc (likeV ⟨k, n, s⟩ ⟨k', n', s'⟩), []) := by
  by_cases h : isK 3 ⟨k, n, s⟩ = true ∧ isK 3 ⟨k', n', s'⟩ = true
  · have h1 := is3_text h.1
    have h2 := is3_text h.2
    have hl := c_like s s' h1.1 h2.1
    rw [call_39]
    simp -implicitDefEqProofs only [go_sem, simprocAttr, Tryz.f39, c_texts2, h.1, h.2, hl, c_boolean]
    all_goals simp [likeV, h.1, h.2]
  · have h' : (isK 3 ⟨k, n, s⟩ && isK 3 ⟨k', n', s'⟩) = false := by
      rw [Bool.eq_false_iff]
      intro e
      exact h (by simpa using e)
    rw [call_39]
    simp -implicitDefEqProofs only [go_sem, simprocAttr, Tryz.f39, c_texts2, h']
    have e : likeV ⟨k, n, s⟩ ⟨k', n', s'⟩ = null := by unfold likeV; rw [h']; rfl
    rw [e]
    rfl
def rowP (p : Pc) : List AV := [.int .u8 (p.c.toNat : Int), .bool p.any, .bool p.one]
theorem rowP_snoc (acc : List Pc) (c : UInt8) (a o : Bool) : List.map rowP acc ++ [[.int .u8 (c.toNat : Int), .bool a, .bool o]] = List.map rowP (acc ++ [⟨c, a, o⟩]) := by simp [rowP]
theorem rowP_get {ps : List Pc} {i : Nat} {p : Pc} (h : ps[i]? = some p) : at? (ps.map rowP) (i : Int) = some (rowP p) := at_get (by simp [h])
theorem rowP_get? {ps : List Pc} {i : Nat} {p : Pc} (h : ps[i]? = some p) : (ps.map rowP)[i]? = some (rowP p) := by simp [h]
theorem l_skip (ps : List Pc) (g : Nat → Bool) (hl : ps.length ≤ 1000) (ks : List It) : ∀ (m i : Nat) (j : Int) (B : Code), Loop Tryz.f199 0 B → j = (i : Int) → ps.length = i + m →
  RL K (.run 199 3 (.code B :: .lp B (some ([0, 5, 6, 7], [])) 3 :: .blk 0 3 :: ks) [(0, .own 0 (ps.length + 1)), (5, .own 2 ps.length), (6, .int .i64 ps.length), (7, .int .i64 j)] [.rows 1 (bl (ps.length + 1) fun x => if x < i + 1 then skips ps g x else g x) true, .cells [.own 2 ps.length], .rows 3 (ps.map rowP) false]) =
  R K (.run 199 3 ks [] [.rows 1 (bl (ps.length + 1) (skips ps g)) true, .cells [.own 2 ps.length], .rows 3 (ps.map rowP) false])
  | 0, i, j, B, hB, hj, hm => by
    subst hj
    have h1 : decide ((i : Int) < (ps.length : Int)) = false := by simp; omega
    have h2 : bl (ps.length + 1) (fun x => if x < i + 1 then skips ps g x else g x) = bl (ps.length + 1) (skips ps g) := bl_congr fun j hj => by rw [if_pos (by omega)]
    rw [h2]
    unfold Loop at hB
    simp -implicitDefEqProofs only [go_sem, simprocAttr, Tryz.f199, loopOf] at hB
    subst hB
    rw [RL_eq]
    simp -implicitDefEqProofs only [go_sem, simprocAttr, h1]
  | m + 1, i, j, B, hB, hj, hm => by
    subst hj
    have hB' := hB
    have h1 : decide ((i : Int) < (ps.length : Int)) = true := by rw [decide_eq_true_eq]; omega
    obtain ⟨p, hp⟩ := some_at (l := ps) (i := i) (by omega)
    have g1 := rowP_get hp
    have g2 := rowP_get? hp
    have ha : anyAt ps i = p.any := by simp [anyAt, hp]
    have h2 : at? (bl (ps.length + 1) fun x => if x < i + 1 then skips ps g x else g x) (i : Int) = some [.bool (skips ps g i)] := by rw [bl_at _ (by omega)]; simp
    have h2' : (bl (ps.length + 1) fun x => if x < i + 1 then skips ps g x else g x)[i]? = some [.bool (skips ps g i)] := by rw [bl_get? _ (by omega)]; simp
    have h3 : at? (bl (ps.length + 1) fun x => if x < i + 1 then skips ps g x else g x) ((i + 1 : Nat) : Int) = some [.bool (g (i + 1))] := by rw [bl_at _ (by omega)]; simp
    have h3' : (bl (ps.length + 1) fun x => if x < i + 1 then skips ps g x else g x)[i + 1]? = some [.bool (g (i + 1))] := by rw [bl_get? _ (by omega)]; simp
    have h5 : ∀ v : Bool, v = (g (i + 1) || (skips ps g i && p.any)) → (bl (ps.length + 1) fun x => if x < i + 1 then skips ps g x else g x).set (i + 1) [.bool v] = bl (ps.length + 1) fun x => if x < i + 1 + 1 then skips ps g x else g x := fun v hv => bl_set0 _ _ (by omega) _ _ _ (fun j hj => by
      by_cases e : j = i + 1
      · subst e
        simp only [if_true, Nat.lt_add_one, skips, ha]
        exact hv
      · by_cases e2 : j < i + 1
        · rw [if_neg e, if_pos e2, if_pos (by omega)]
        · rw [if_neg e, if_neg e2, if_neg (by omega)])
    have h7 := next_id (i := i) (n := ps.length) (by omega) (by omega)
    have ih := l_skip ps g hl ks m (i + 1) _ B hB' rfl (by omega)
    cases hg : g (i + 1)
    · rw [hg] at h3 h3'
      cases hs : skips ps g i
      · rw [hs] at h2 h2'
        have h5 := h5 false (by rw [hg, hs]; simp)
        unfold Loop at hB
        simp -implicitDefEqProofs only [go_sem, simprocAttr, Tryz.f199, loopOf] at hB
        subst hB
        rw [RL_eq]
        simp -implicitDefEqProofs only [go_sem, simprocAttr, h1, g1, g2, rowP, h2, h2', h3, h3', h5, h7, bl_len, List.length_map, Int.toNat_natCast, splice, ih]
      · rw [hs] at h2 h2'
        have h5 := h5 p.any (by rw [hg, hs]; simp)
        unfold Loop at hB
        simp -implicitDefEqProofs only [go_sem, simprocAttr, Tryz.f199, loopOf] at hB
        subst hB
        rw [RL_eq]
        simp -implicitDefEqProofs only [go_sem, simprocAttr, h1, g1, g2, rowP, h2, h2', h3, h3', h5, h7, bl_len, List.length_map, Int.toNat_natCast, splice, ih]
    · rw [hg] at h3 h3'
      have h5 := h5 true (by rw [hg]; simp)
      unfold Loop at hB
      simp -implicitDefEqProofs only [go_sem, simprocAttr, Tryz.f199, loopOf] at hB
      subst hB
      rw [RL_eq]
      simp -implicitDefEqProofs only [go_sem, simprocAttr, h1, g1, g2, rowP, h2, h2', h3, h3', h5, h7, bl_len, List.length_map, Int.toNat_natCast, splice, ih]
theorem r_skip (ps : List Pc) (g : Nat → Bool) (hl : ps.length ≤ 1000) : R K (.call 199 [.own 0 (ps.length + 1), .ptr 1 0] [.rows 1 (bl (ps.length + 1) g) true, .cells [.own 2 ps.length], .rows 3 (ps.map rowP) false]) =
   some (.tup [], [.rows 1 (bl (ps.length + 1) (skips ps g)) true, .cells [.own 2 ps.length], .rows 3 (ps.map rowP) false]) := by
  have i1 : bl (ps.length + 1) g = bl (ps.length + 1) fun x => if x < 0 + 1 then skips ps g x else g x := bl_congr fun j _ => by
    cases j with
    | zero => simp [skips]
    | succ j => simp
  rw [call_199]
  simp -implicitDefEqProofs only [go_sem, simprocAttr, Tryz.f199]
  rw [i1, l_skip ps g hl _ ps.length 0 0 _ ?_ rfl (by omega)]
  · simp -implicitDefEqProofs only [go_sem, simprocAttr]
  · rfl
theorem l_parse (s pat : List UInt8) (hp : pat.length ≤ 100) (ks : List It) : ∀ (m i : Nat) (j : Int) (acc : List Pc) (B : Code), Loop Tryz.f135 0 B → j = (i : Int) → pat.length ≤ i + m → i ≤ pat.length → acc.length ≤ i →
  RL K (.run 135 0 (.code B :: .lp B (some ([0, 1, 5, 6], [])) 2 :: .blk 0 2 :: ks) [(0, .str s), (1, .str pat), (5, .ptr 0 0), (6, .int .i64 j)] [.cells [.own 1 acc.length], .rows 3 (acc.map rowP) false]) =
  R K (.run 135 0 ks [(0, .str s), (5, .ptr 0 0)] [.cells [.own 1 (acc ++ parse (pat.drop i)).length], .rows 3 ((acc ++ parse (pat.drop i)).map rowP) false])
  | 0, i, j, acc, B, hB, hj, hm, hi, ha => by
    subst hj
    have h1 : decide ((i : Int) < (pat.length : Int)) = false := by simp; omega
    rw [List.drop_of_length_le (by omega)]
    unfold Loop at hB
    simp -implicitDefEqProofs only [go_sem, simprocAttr, Tryz.f135, loopOf] at hB
    subst hB
    rw [RL_eq]
    simp -implicitDefEqProofs only [go_sem, simprocAttr, h1, parse, List.append_nil]
  | m + 1, i, j, acc, B, hB, hj, hm, hi, ha => by
    subst hj
    have hB' := hB
    by_cases hlt : i < pat.length
    · obtain ⟨c, hc⟩ := some_at (l := pat) (i := i) hlt
      have h1 : decide ((i : Int) < (pat.length : Int)) = true := by rw [decide_eq_true_eq]; omega
      have g1 := byte_get hc
      have h7 := next_id (i := i) (n := pat.length) (by omega) (by omega)
      have h8 : (((c.toNat : Nat) : Int) == 37) = (c == 37) := u8_lit c 37 (by omega)
      have h9 : (((c.toNat : Nat) : Int) == 92) = (c == 92) := u8_lit c 92 (by omega)
      have h10 : (((c.toNat : Nat) : Int) == 95) = (c == 95) := u8_lit c 95 (by omega)
      have hr : ∀ k : Nat, k ≤ 10 → (((acc.length + 1) * k ≤ roomMax)) = True := fun k hk => by
        have : (acc.length + 1) * k ≤ 101 * 10 := Nat.mul_le_mul (by omega) hk
        unfold roomMax
        simp; omega
      rw [drop_get hc]
      by_cases hesc : c = 92
      · have hc1 : (c == 92) = true := by simp [hesc]
        have hc2 : (c == 37) = false := by simp [hesc]
        have hc3 : (c == 95) = false := by simp [hesc]
        by_cases hl2 : i + 1 < pat.length
        · obtain ⟨d, hd⟩ := some_at (l := pat) (i := i + 1) hl2
          have g2 := byte_get hd
          have h1' : decide (((i + 1 : Nat) : Int) < (pat.length : Int)) = true := by rw [decide_eq_true_eq]; omega
          have h7' := next_id (i := i + 1) (n := pat.length) (by omega) (by omega)
          rw [drop_get hd, parse_esc d _ hesc]
          have ih := l_parse s pat hp ks m (i + 1 + 1) _ (acc ++ [⟨d, false, false⟩]) B hB' rfl (by omega) (by omega) (by simp; omega)
          have e : acc ++ [⟨d, false, false⟩] ++ parse (pat.drop (i + 1 + 1)) = acc ++ ⟨d, false, false⟩ :: parse (pat.drop (i + 1 + 1)) := by simp
          rw [e, List.length_append, List.length_cons, List.length_nil, Nat.zero_add] at ih
          unfold Loop at hB
          simp -implicitDefEqProofs only [go_sem, simprocAttr, Tryz.f135, loopOf] at hB
          subst hB
          rw [RL_eq]
          simp -implicitDefEqProofs only [go_sem, simprocAttr, h1, h1', g1, g2, h7, h7', h8, h9, h10, hc1, hc2, hc3, hr, List.length_map, rowP_snoc, ih]
        · have h1' : decide (((i + 1 : Nat) : Int) < (pat.length : Int)) = false := by simp; omega
          rw [List.drop_of_length_le (by omega), parse_lit [] (by simp [hesc]) (.inr rfl), hc3]
          have ih := l_parse s pat hp ks m (i + 1) _ (acc ++ [⟨c, false, false⟩]) B hB' rfl (by omega) (by omega) (by simp; omega)
          have e : acc ++ [⟨c, false, false⟩] ++ parse (pat.drop (i + 1)) = acc ++ ⟨c, false, false⟩ :: parse [] := by rw [List.drop_of_length_le (by omega)]; simp
          rw [e, List.length_append, List.length_cons, List.length_nil, Nat.zero_add] at ih
          unfold Loop at hB
          simp -implicitDefEqProofs only [go_sem, simprocAttr, Tryz.f135, loopOf] at hB
          subst hB
          rw [RL_eq]
          simp -implicitDefEqProofs only [go_sem, simprocAttr, h1, h1', g1, h7, h8, h9, h10, hc1, hc2, hc3, hr, List.length_map, rowP_snoc, ih]
      · have hc1 : (c == 92) = false := by simp [hesc]
        by_cases hany : c = 37
        · have hc2 : (c == 37) = true := by simp [hany]
          rw [parse_any _ hany]
          have ih := l_parse s pat hp ks m (i + 1) _ (acc ++ [⟨0, true, false⟩]) B hB' rfl (by omega) (by omega) (by simp; omega)
          have e : acc ++ [⟨0, true, false⟩] ++ parse (pat.drop (i + 1)) = acc ++ ⟨0, true, false⟩ :: parse (pat.drop (i + 1)) := by simp
          rw [e, List.length_append, List.length_cons, List.length_nil, Nat.zero_add] at ih
          have h0 := rowP_snoc acc 0 true false
          simp only [show (((0 : UInt8).toNat : Nat) : Int) = 0 from rfl] at h0
          unfold Loop at hB
          simp -implicitDefEqProofs only [go_sem, simprocAttr, Tryz.f135, loopOf] at hB
          subst hB
          rw [RL_eq]
          simp -implicitDefEqProofs only [go_sem, simprocAttr, h1, g1, h7, h8, h9, h10, hc1, hc2, hr, List.length_map, h0, ih]
        · have hc2 : (c == 37) = false := by simp [hany]
          rw [parse_lit _ hany (.inl hesc)]
          have ih := l_parse s pat hp ks m (i + 1) _ (acc ++ [⟨c, false, c == 95⟩]) B hB' rfl (by omega) (by omega) (by simp; omega)
          have e : acc ++ [⟨c, false, c == 95⟩] ++ parse (pat.drop (i + 1)) = acc ++ ⟨c, false, c == 95⟩ :: parse (pat.drop (i + 1)) := by simp
          rw [e, List.length_append, List.length_cons, List.length_nil, Nat.zero_add] at ih
          unfold Loop at hB
          simp -implicitDefEqProofs only [go_sem, simprocAttr, Tryz.f135, loopOf] at hB
          subst hB
          rw [RL_eq]
          simp -implicitDefEqProofs only [go_sem, simprocAttr, h1, g1, h7, h8, h9, h10, hc1, hc2, hr, List.length_map, rowP_snoc, ih]
    · have h1 : decide ((i : Int) < (pat.length : Int)) = false := by simp; omega
      rw [List.drop_of_length_le (by omega)]
      unfold Loop at hB
      simp -implicitDefEqProofs only [go_sem, simprocAttr, Tryz.f135, loopOf] at hB
      subst hB
      rw [RL_eq]
      simp -implicitDefEqProofs only [go_sem, simprocAttr, h1, parse, List.append_nil]
attribute [go_sem] callIn conv convL reach posOf sub renB renL ren back afterIn outer List.contains_cons List.contains_nil List.map_cons List.map_nil
@[go_sem] theorem size_none {α : Type} : (#[] : Array α).size = 0 := rfl
def partAt (s : List UInt8) (ps : List Pc) (i : Nat) (f : Nat → Bool) : Nat → Bool
  | 0 => false
  | k + 1 => f k && litAt s ps i k
theorem row_part (s : List UInt8) (ps : List Pc) (i : Nat) (f : Nat → Bool) (k : Nat) : rowNext s ps i f k = ((f k && anyAt ps k) || partAt s ps i f k) := by
  cases k with
  | zero => simp [rowNext, partAt]
  | succ k => simp [rowNext, partAt]
def mid (s : List UInt8) (ps : List Pc) (i : Nat) (f : Nat → Bool) (k x : Nat) : Bool := if x < k then rowNext s ps i f x else if x = k then partAt s ps i f k else false
theorem mid_lt {s : List UInt8} {ps : List Pc} {i : Nat} {f : Nat → Bool} {k x : Nat} (h : x < k) : mid s ps i f k x = rowNext s ps i f x := if_pos h
theorem mid_eq {s : List UInt8} {ps : List Pc} {i : Nat} {f : Nat → Bool} {k : Nat} : mid s ps i f k k = partAt s ps i f k := by unfold mid; rw [if_neg (by omega), if_pos rfl]
theorem mid_gt {s : List UInt8} {ps : List Pc} {i : Nat} {f : Nat → Bool} {k x : Nat} (h : k < x) : mid s ps i f k x = false := by unfold mid; rw [if_neg (by omega), if_neg (by omega)]
theorem lit_eq {s : List UInt8} {ps : List Pc} {i k : Nat} {p : Pc} {b : UInt8} (hp : ps[k]? = some p) (hb : s[i]? = some b) : litAt s ps i k = (!p.any && (p.one || p.c == b)) := by simp [litAt, fitAt, hp, hb]
theorem any_eq {ps : List Pc} {k : Nat} {p : Pc} (hp : ps[k]? = some p) : anyAt ps k = p.any := by simp [anyAt, hp]
theorem l_row (s : List UInt8) (ps : List Pc) (f : Nat → Bool) (i : Nat) (b : UInt8) (hb : s[i]? = some b) (hl : ps.length ≤ 1000) (ks : List It) : ∀ (m k : Nat) (j : Int) (B : Code), Loop Tryz.f135 5 B → j = (k : Int) → ps.length = k + m →
  RL K (.run 135 0 (.code B :: .lp B (some ([0, 5, 8, 9, 10, 11, 76, 77, 78], [])) 4 :: .blk 5 4 :: ks) [(0, .str s), (5, .ptr 0 0), (8, .rows (bl (ps.length + 1) f)), (9, .fn 199 [.ptr 0 0]), (10, .int .i64 (i : Int)), (11, .own 3 (ps.length + 1)), (76, .own 1 ps.length), (77, .int .i64 ps.length), (78, .int .i64 j)] [.cells [.own 1 ps.length], .rows 3 (ps.map rowP) false, .hole, .rows 1 (bl (ps.length + 1) (mid s ps i f k)) true]) =
  R K (.run 135 0 ks [(0, .str s), (5, .ptr 0 0), (9, .fn 199 [.ptr 0 0]), (10, .int .i64 (i : Int)), (11, .own 3 (ps.length + 1))] [.cells [.own 1 ps.length], .rows 3 (ps.map rowP) false, .hole, .rows 1 (bl (ps.length + 1) (rowNext s ps i f)) true])
  | 0, k, j, B, hB, hj, hm => by
    subst hj
    have h1 : decide ((k : Int) < (ps.length : Int)) = false := by simp; omega
    have h2 : bl (ps.length + 1) (mid s ps i f k) = bl (ps.length + 1) (rowNext s ps i f) := bl_congr fun j hj => by
      rcases Nat.lt_or_ge j k with h | h
      · exact mid_lt h
      · have : j = k := by omega
        subst this
        have ha : anyAt ps j = false := by simp [anyAt, List.getElem?_eq_none (show ps.length ≤ j by omega)]
        rw [mid_eq, row_part, ha]; simp
    rw [h2]
    unfold Loop at hB
    simp -implicitDefEqProofs only [go_sem, simprocAttr, Tryz.f135, loopOf] at hB
    subst hB
    rw [RL_eq]
    simp -implicitDefEqProofs only [go_sem, simprocAttr, h1]
  | m + 1, k, j, B, hB, hj, hm => by
    subst hj
    have hB' := hB
    have h1 : decide ((k : Int) < (ps.length : Int)) = true := by rw [decide_eq_true_eq]; omega
    obtain ⟨p, hp⟩ := some_at (l := ps) (i := k) (by omega)
    have g1 := rowP_get hp
    have g2 := rowP_get? hp
    have ha := any_eq hp
    have hl2 := lit_eq hp hb
    have gb := byte_get hb
    have h2 := bl_at (n := ps.length + 1) (i := k) f (by omega)
    have h3 := bl_at (n := ps.length + 1) (i := k) (mid s ps i f k) (by omega)
    have h3' := bl_get? (n := ps.length + 1) (i := k) (mid s ps i f k) (by omega)
    have h4 := bl_at (n := ps.length + 1) (i := k + 1) (mid s ps i f k) (by omega)
    have h4' := bl_get? (n := ps.length + 1) (i := k + 1) (mid s ps i f k) (by omega)
    have h7 := next_id (i := k) (n := ps.length) (by omega) (by omega)
    have h8 := u8_eq p.c b
    have ih := l_row s ps f i b hb hl ks m (k + 1) _ B hB' rfl (by omega)
    have s0 : (f k && (p.any || (p.one || p.c == b))) = false → bl (ps.length + 1) (mid s ps i f k) = bl (ps.length + 1) (mid s ps i f (k + 1)) := fun e => bl_congr fun j hj => by
      have e1 : (f k && p.any) = false := by revert e; cases f k <;> cases p.any <;> simp
      have e2 : (f k && litAt s ps i k) = false := by rw [hl2]; revert e; cases f k <;> cases p.any <;> simp
      rcases Nat.lt_trichotomy j k with h | h | h
      · rw [mid_lt h, mid_lt (by omega)]
      · subst h; rw [mid_eq, mid_lt (by omega), row_part, ha, e1, Bool.false_or]
      · rw [mid_gt h]
        by_cases h' : j = k + 1
        · subst h'; rw [mid_eq]; simp only [partAt, e2]
        · rw [mid_gt (by omega)]
    have s1 : f k = true → p.any = true → (bl (ps.length + 1) (mid s ps i f k)).set k [.bool true] = bl (ps.length + 1) (mid s ps i f (k + 1)) := fun e1 e2 => bl_set0 _ _ (by omega) _ _ _ (fun j hj => by
      rcases Nat.lt_trichotomy j k with h | h | h
      · rw [if_neg (by omega), mid_lt h, mid_lt (by omega)]
      · subst h; rw [if_pos rfl, mid_lt (by omega), row_part, ha, e1, e2]; rfl
      · rw [if_neg (by omega), mid_gt h]
        by_cases h' : j = k + 1
        · subst h'; rw [mid_eq]; simp only [partAt, hl2, e2]; simp
        · rw [mid_gt (by omega)])
    have s2 : f k = true → p.any = false → (p.one || p.c == b) = true → (bl (ps.length + 1) (mid s ps i f k)).set (k + 1) [.bool true] = bl (ps.length + 1) (mid s ps i f (k + 1)) := fun e1 e2 e3 => bl_set0 _ _ (by omega) _ _ _ (fun j hj => by
      rcases Nat.lt_trichotomy j k with h | h | h
      · rw [if_neg (by omega), mid_lt h, mid_lt (by omega)]
      · subst h; rw [if_neg (by omega), mid_eq, mid_lt (by omega), row_part, ha, e2]; simp
      · by_cases h' : j = k + 1
        · subst h'; rw [if_pos rfl, mid_eq]; simp only [partAt, hl2, e1, e2, e3]; rfl
        · rw [if_neg h', mid_gt h, mid_gt (by omega)])
    cases hf : f k
    · rw [hf] at h2
      rw [s0 (by rw [hf]; rfl)]
      unfold Loop at hB
      simp -implicitDefEqProofs only [go_sem, simprocAttr, Tryz.f135, loopOf] at hB
      subst hB
      rw [RL_eq]
      simp -implicitDefEqProofs only [go_sem, simprocAttr, h1, g1, g2, rowP, h2, h7, bl_len, List.length_map, Int.toNat_natCast, splice, ih]
    · rw [hf] at h2
      cases hany : p.any
      · cases hone : p.one
        · cases hcb : p.c == b
          · rw [hcb] at h8
            rw [s0 (by rw [hf, hany, hone, hcb]; rfl)]
            unfold Loop at hB
            simp -implicitDefEqProofs only [go_sem, simprocAttr, Tryz.f135, loopOf] at hB
            subst hB
            rw [RL_eq]
            simp -implicitDefEqProofs only [go_sem, simprocAttr, h1, g1, g2, gb, rowP, h2, h7, h8, hany, hone, bl_len, List.length_map, Int.toNat_natCast, splice, ih]
          · rw [hcb] at h8
            have s2 := s2 hf hany (by rw [hone, hcb]; rfl)
            unfold Loop at hB
            simp -implicitDefEqProofs only [go_sem, simprocAttr, Tryz.f135, loopOf] at hB
            subst hB
            rw [RL_eq]
            simp -implicitDefEqProofs only [go_sem, simprocAttr, h1, g1, g2, gb, rowP, h2, h4, h4', h7, h8, hany, hone, bl_len, List.length_map, Int.toNat_natCast, splice, s2, ih]
        · have s2 := s2 hf hany (by rw [hone]; rfl)
          unfold Loop at hB
          simp -implicitDefEqProofs only [go_sem, simprocAttr, Tryz.f135, loopOf] at hB
          subst hB
          rw [RL_eq]
          simp -implicitDefEqProofs only [go_sem, simprocAttr, h1, g1, g2, gb, rowP, h2, h4, h4', h7, hany, hone, bl_len, List.length_map, Int.toNat_natCast, splice, s2, ih]
      · have s1 := s1 hf hany
        unfold Loop at hB
        simp -implicitDefEqProofs only [go_sem, simprocAttr, Tryz.f135, loopOf] at hB
        subst hB
        rw [RL_eq]
        simp -implicitDefEqProofs only [go_sem, simprocAttr, h1, g1, g2, gb, rowP, h2, h3, h3', h7, hany, bl_len, List.length_map, Int.toNat_natCast, splice, s1, ih]
theorem l_rows (s : List UInt8) (ps : List Pc) (hs : s.length ≤ 1000) (hl : ps.length ≤ 1000) (ks : List It) : ∀ (m i : Nat) (j : Int) (B : Code), Loop Tryz.f135 3 B → j = (i : Int) → s.length = i + m →
  RL K (.run 135 0 (.code B :: .lp B (some ([0, 5, 8, 9, 10], [8])) 3 :: .blk 3 3 :: ks) [(0, .str s), (5, .ptr 0 0), (8, .rows (bl (ps.length + 1) (begun s ps i))), (9, .fn 199 [.ptr 0 0]), (10, .int .i64 j)] [.cells [.own 1 ps.length], .rows 3 (ps.map rowP) false, .hole]) =
  R K (.run 135 0 ks [(5, .ptr 0 0), (8, .rows (bl (ps.length + 1) (begun s ps s.length)))] [.cells [.own 1 ps.length], .rows 3 (ps.map rowP) false, .hole])
  | 0, i, j, B, hB, hj, hm => by
    subst hj
    have h1 : decide ((i : Int) < (s.length : Int)) = false := by simp; omega
    have e : i = s.length := by omega
    subst e
    unfold Loop at hB
    simp -implicitDefEqProofs only [go_sem, simprocAttr, Tryz.f135, loopOf] at hB
    subst hB
    rw [RL_eq]
    simp -implicitDefEqProofs only [go_sem, simprocAttr, h1]
  | m + 1, i, j, B, hB, hj, hm => by
    subst hj
    have hB' := hB
    have h1 : decide ((i : Int) < (s.length : Int)) = true := by rw [decide_eq_true_eq]; omega
    obtain ⟨b, hb⟩ := some_at (l := s) (i := i) (by omega)
    have h2 : wrapI .i64 ((ps.length : Int) + 1) = ((ps.length + 1 : Nat) : Int) := by rw [wrap_id (by omega) (by omega)]; rfl
    have h3 := fun h => mk_bools h (ps.length + 1) (by omega)
    have h7 := next_id (i := i) (n := s.length) (by omega) (by omega)
    have ih := l_rows s ps hs hl ks m (i + 1) _ B hB' rfl (by omega)
    have i1 : bl (ps.length + 1) (fun _ => false) = bl (ps.length + 1) (mid s ps i (begun s ps i) 0) := bl_congr fun j _ => by
      cases j with
      | zero => rw [mid_eq]; rfl
      | succ j => rw [mid_gt (by omega)]
    have i2 : bl (ps.length + 1) (skips ps (rowNext s ps i (begun s ps i))) = bl (ps.length + 1) (begun s ps (i + 1)) := bl_congr fun j _ => row_next s ps i j
    have h5 := r_skip ps (rowNext s ps i (begun s ps i)) hl
    rw [i2] at h5
    unfold Loop at hB
    simp -implicitDefEqProofs only [go_sem, simprocAttr, Tryz.f135, loopOf] at hB
    subst hB
    rw [RL_eq]
    simp -implicitDefEqProofs only [go_sem, simprocAttr, h1, h2, h3, bl_rep, bl_len, List.length_replicate, List.length_map]
    rw [i1, l_row s ps (begun s ps i) i b hb hl _ ps.length 0 0 _ ?_ rfl (by omega)]
    · simp -implicitDefEqProofs only [go_sem, simprocAttr, h5, h7, bl_len, List.length_map, ih]
    · rfl
theorem r_likes (s pat : List UInt8) (hs : s.length ≤ 100) (hp : pat.length ≤ 100) : R K (.call 135 [.str s, .str pat] []) = some (.bool (likeS s pat), []) := by
  have hpl : ∀ q : List UInt8, (parse q).length ≤ q.length := by
    intro q
    induction q using parse.induct with
    | case1 => simp [parse]
    | case2 c => simp [parse]
    | case3 d r ih => simp only [parse, if_true, List.length_cons]; omega
    | case4 c d r hne ih => simp only [parse, hne, if_false, List.length_cons] at ih ⊢; omega
  have hl := hpl pat
  have lp := l_parse s pat hp
  have h2 : wrapI .i64 (((parse pat).length : Int) + 1) = (((parse pat).length + 1 : Nat) : Int) := by rw [wrap_id (by omega) (by omega)]; rfl
  have h3 := fun h => mk_bools h ((parse pat).length + 1) (by omega)
  have h5 := r_skip (parse pat) (fun k => k == 0) (by omega)
  have i2 : bl ((parse pat).length + 1) (skips (parse pat) (fun k => k == 0)) = bl ((parse pat).length + 1) (begun s (parse pat) 0) := bl_congr fun j _ => row_first s (parse pat) j
  rw [i2] at h5
  have h6 : at? (bl ((parse pat).length + 1) (begun s (parse pat) s.length)) ((parse pat).length : Int) = some [.bool (likeS s pat)] := by
    rw [bl_at _ (by omega)]
    have : anyAt (parse pat) (parse pat).length = false := by simp [anyAt]
    simp [begun, this, likeS]
  have z1 := bl_at (n := (parse pat).length + 1) (i := 0) (fun _ => false) (by omega)
  have z2 := bl_get? (n := (parse pat).length + 1) (i := 0) (fun _ => false) (by omega)
  have z3 : (bl ((parse pat).length + 1) (fun _ => false)).set 0 [.bool true] = bl ((parse pat).length + 1) (fun k => k == 0) := bl_set0 _ _ (by omega) _ _ _ (fun j _ => by by_cases h : j = 0 <;> simp [h])
  rw [Int.natCast_zero] at z1
  rw [call_135]
  simp -implicitDefEqProofs only [go_sem, simprocAttr, Tryz.f135]
  have lp0 := fun ks B hB => lp ks pat.length 0 0 [] B hB rfl (by omega) (by omega) (by simp)
  simp only [List.length_nil, List.map_nil, List.nil_append, List.drop_zero] at lp0
  rw [lp0 _ _ ?_]
  · simp -implicitDefEqProofs only [go_sem, simprocAttr, h2, h3, bl_rep, bl_len, List.length_replicate, List.length_map, Int.toNat_zero, z1, z2, z3, splice, h5]
    rw [l_rows s (parse pat) (by omega) (by omega) _ s.length 0 0 _ ?_ rfl (by omega)]
    · simp -implicitDefEqProofs only [go_sem, simprocAttr, h6, bl_len, List.length_map]
    · rfl
  · rfl
def textsS19 (a b c : Val) : Val := if a.k = 3 ∧ b.k = 3 then boolV (likeS a.s b.s) else null
theorem r_texts19 (k n : Int) (s : List UInt8) (k' n' : Int) (s' : List UInt8) (k'' n'' : Int) (s'' : List UInt8) (h : k = 3 → k' = 3 → s.length ≤ 100 ∧ s'.length ≤ 100) : R K (.call 81 [.int .i64 19, V k n s, V k' n' s', V k'' n'' s''] []) = some (enc (textsS19 ⟨k, n, s⟩ ⟨k', n', s'⟩ ⟨k'', n'', s''⟩), []) := by
  by_cases hk : k = 3 ∧ k' = 3
  · obtain ⟨rfl, rfl⟩ := hk
    have hl := h rfl rfl
    have hp := r_likes s s' hl.1 hl.2
    rw [call_81]
    simp -implicitDefEqProofs only [go_sem, simprocAttr, Tryz.f81, hp, r_Truth]
    all_goals simp [textsS19]
  · rw [call_81]
    simp -implicitDefEqProofs only [go_sem, simprocAttr, Tryz.f81]
    repeat' ((first | apply split_cond | apply split_yes | apply split_no) <;> intro hc <;> simp -implicitDefEqProofs only [hc, go_sem, simprocAttr])
    all_goals simp_all [textsS19, null]
theorem r_Oper19 (n : Int) (k1 n1 : Int) (s1 : List UInt8) (k2 n2 : Int) (s2 : List UInt8) : R K (.call 21 [.int .i64 19, .int .i64 n, .rows [[.int .i64 k1, .int .i64 n1, .str s1], [.int .i64 k2, .int .i64 n2, .str s2]]] []) = some (enc (textsS19 (plainV ⟨k1, n1, s1⟩) (plainV ⟨k2, n2, s2⟩) null), []) := by
  have ht := r_texts19 (plainV ⟨k1, n1, s1⟩).k (plainV ⟨k1, n1, s1⟩).n (plainV ⟨k1, n1, s1⟩).s (plainV ⟨k2, n2, s2⟩).k (plainV ⟨k2, n2, s2⟩).n (plainV ⟨k2, n2, s2⟩).s 0 0 [] (fun h h' => ⟨(plain3 _ h).1, (plain3 _ h').1⟩)
  rw [call_21]
  simp -implicitDefEqProofs only [go_sem, simprocAttr, Tryz.f21]
  rw [RL_eq]
  simp -implicitDefEqProofs only [go_sem, simprocAttr, r_right, at?]
  rw [RL_eq]
  simp -implicitDefEqProofs only [go_sem, simprocAttr, r_right, at?]
  rw [RL_eq]
  simp -implicitDefEqProofs only [go_sem, simprocAttr, r_right, at?, ht]
  rfl
theorem like_law (a b : Val) : likeV a b = textsS19 (plainV a) (plainV b) null := by
  unfold likeV textsS19
  by_cases h : (plainV a).k = 3 ∧ (plainV b).k = 3
  · have h1 := (plain_len a h.1).1
    have h2 := (plain_len b h.2).1
    have e1 : isK 3 a = true := by simp [isK, h.1]
    have e2 : isK 3 b = true := by simp [isK, h.2]
    rw [if_pos (by rw [e1, e2]; rfl), if_pos h, h1, h2]
  · rw [if_neg h, if_neg]
    intro e
    simp only [isK, Bool.and_eq_true, beq_iff_eq] at e
    exact h e
theorem tm (a b : Int) (h : 0 ≤ a) : a.tmod b = a % b := Int.tmod_eq_emod_of_nonneg h
theorem td (a b : Int) (h : 0 ≤ a) : a.tdiv b = a / b := Int.tdiv_eq_ediv_of_nonneg h
def belowS (x n : Int) : Int := if n < 1 then 0 else if x.tmod n < 0 then wrapI .i64 (x.tmod n + n) else x.tmod n
theorem r_Below (x n : Int) : R K (.call 92 [.int .i64 x, .int .i64 n] []) = some (.int .i64 (belowS x n), []) := by
  by_cases hn : n < 1
  · have h1 : decide (n < 1) = true := by simp [hn]
    rw [call_92]
    simp -implicitDefEqProofs only [go_sem, simprocAttr, Tryz.f92, h1]
    simp [belowS, hn]
  · have h1 : decide (n < 1) = false := by simpa using hn
    have h2 : n ≠ 0 := by omega
    have e : belowS x n = if x.tmod n < 0 then wrapI .i64 (x.tmod n + n) else x.tmod n := if_neg hn
    rw [e]
    rw [call_92]
    simp -implicitDefEqProofs only [go_sem, simprocAttr, Tryz.f92, h1, h2]
    repeat' ((first | apply split_cond | apply split_yes | apply split_no) <;> intro hc <;> simp -implicitDefEqProofs only [hc, go_sem, simprocAttr, h1, h2])
    all_goals simp_all
    intro; omega
theorem below_bounds (x n : Int) (h1 : 1 ≤ n) (h2 : n ≤ 4611686018427387904) : 0 ≤ belowS x n ∧ belowS x n < n := by
  unfold belowS
  rw [if_neg (by omega)]
  have a := Int.tmod_lt_of_pos x (show 0 < n by omega)
  have b : -n < x.tmod n := by
    have := Int.tmod_lt_of_pos (-x) (show 0 < n by omega)
    rw [Int.neg_tmod] at this
    omega
  split
  · rw [wrap_id (by omega) (by omega)]; omega
  · omega
def nextS (L : List Int) (a n : Int) : Int :=
  if L.length = 0 then belowS (wrapI .i64 ((a + 1) * 7919)) n
  else belowS (wrapI .i64 (belowS (L.getD (a % L.length).toNat 0) 1073741824 + wrapI .i64 (a / L.length * (7919 + a % L.length)))) n
abbrev LR (L : List Int) : AV := .rows (L.map fun x => [.int .i64 x])
theorem r_Next (L : List Int) (a n : Int) (ha : 0 ≤ a) (ha2 : a ≤ 4611686018427387904) (hL : L.length ≤ 9223372036854775807) : R K (.call 38 [.ptr 0 0, .int .i64 n] [.cells [LR L, .int .i64 a]]) = some (.int .i64 (nextS L a n), [.cells [LR L, .int .i64 (a + 1)]]) := by
  have e1 : wrapI .i64 (a + 1) = a + 1 := wrap_id (by omega) (by omega)
  have e2 : wrapI .i64 (a + 1 - 1) = a := by rw [wrap_id (by omega) (by omega)]; omega
  have el : (L.map fun x => [AV.int .i64 x]).length = L.length := List.length_map _
  by_cases h : L.length = 0
  · have h0 : decide (((L.length : Nat) : Int) = 0) = true := by simp [h]
    have hb : (((L.length : Nat) : Int) == 0) = true := by simp [h]
    have e : nextS L a n = belowS (wrapI .i64 ((a + 1) * 7919)) n := if_pos h
    rw [e]
    rw [call_38]
    simp -implicitDefEqProofs only [go_sem, simprocAttr, Tryz.f38, e1, hb, el, r_Below]
  · have hb : (((L.length : Nat) : Int) == 0) = false := by simpa using h
    have hl1 : (1 : Int) ≤ L.length := by omega
    have e3 : a.tmod (L.length : Int) = a % L.length := tm _ _ ha
    have e4 : wrapI .i64 (a.tdiv (L.length : Int)) = a / L.length := by
      rw [td _ _ ha]
      have := Int.ediv_le_self (L.length : Int) ha
      have := Int.ediv_nonneg ha (show (0 : Int) ≤ L.length by omega)
      exact wrap_id (by omega) (by omega)
    have m1 := Int.emod_nonneg a (show (L.length : Int) ≠ 0 by omega)
    have m2 := Int.emod_lt_of_pos a (show (0 : Int) < L.length by omega)
    have m3 : a % (L.length : Int) ≤ a := by
      rw [Int.emod_def]
      exact Int.sub_le_self a (Int.mul_nonneg (by omega) (Int.ediv_nonneg ha (by omega)))
    obtain ⟨x, hx⟩ := some_at (l := L) (i := (a % L.length).toNat) (by omega)
    have e5 : at? (L.map fun x => [AV.int .i64 x]) (a % L.length) = some [.int .i64 x] := by
      unfold at?
      rw [if_pos m1]
      simp [hx]
    have e6 : wrapI .i64 (7919 + a % L.length) = 7919 + a % L.length := wrap_id (by omega) (by omega)
    have hd : L.getD (a % L.length).toNat 0 = x := by simp [List.getD, hx]
    have hne : ((L.length : Nat) : Int) ≠ 0 := by omega
    have e : nextS L a n = belowS (wrapI .i64 (belowS x 1073741824 + wrapI .i64 (a / L.length * (7919 + a % L.length)))) n := by
      unfold nextS
      rw [if_neg h, hd]
    rw [e]
    rw [call_38]
    simp -implicitDefEqProofs only [go_sem, simprocAttr, Tryz.f38, e1, e2, e3, e4, e5, e6, hb, hne, h, el, r_Below]
theorem next_bounds (L : List Int) (a n : Int) (h1 : 1 ≤ n) (h2 : n ≤ 4611686018427387904) : 0 ≤ nextS L a n ∧ nextS L a n < n := by
  unfold nextS
  split <;> exact below_bounds _ _ h1 h2
def leapS (y : Int) : Bool := (y % 4 == 0 && !(y % 100 == 0)) || y % 400 == 0
def mdS (y m : Int) : Int := if m = 2 then (if leapS y = true then 29 else 28) else if m = 4 ∨ m = 6 ∨ m = 9 ∨ m = 11 then 30 else 31
def ydS (y : Int) : Int := 365 * (y - 1970) + (y - 1) / 4 - (y - 1) / 100 + (y - 1) / 400 - 477
def lenS (y : Int) : Int := if leapS y = true then 366 else 365
theorem leap_iff (y : Int) : leapS y = true ↔ (y % 4 = 0 ∧ y % 100 ≠ 0) ∨ y % 400 = 0 := by simp [leapS]
theorem yd_next (y : Int) : ydS (y + 1) = ydS y + lenS y := by
  unfold ydS lenS
  by_cases h : leapS y = true
  · rw [if_pos h]
    rw [leap_iff] at h
    omega
  · rw [if_neg h]
    rw [leap_iff] at h
    omega
theorem len_pos (y : Int) : 365 ≤ lenS y ∧ lenS y ≤ 366 := by unfold lenS; split <;> omega
theorem md_pos (y m : Int) : 28 ≤ mdS y m ∧ mdS y m ≤ 31 := by unfold mdS; repeat' split <;> omega
theorem yd_mono_nat (y : Int) : ∀ k : Nat, ydS y + k * 365 ≤ ydS (y + k)
  | 0 => by simp
  | k + 1 => by
    have ih := yd_mono_nat y k
    have e := yd_next (y + k)
    have l := len_pos (y + k)
    have : y + ((k + 1 : Nat) : Int) = y + k + 1 := by omega
    rw [this]
    omega
theorem yd_mono {y z : Int} (h : y ≤ z) : ydS y + (z - y) * 365 ≤ ydS z := by
  obtain ⟨k, rfl⟩ : ∃ k : Nat, z = y + k := ⟨(z - y).toNat, by omega⟩
  have := yd_mono_nat y k
  have e : y + (k : Int) - y = k := by omega
  rw [e]
  exact this
theorem yd0 : ydS 1970 = 0 := by decide
theorem year_ex : ∀ d : Nat, ∃ z : Int, 1970 ≤ z ∧ ydS z ≤ d ∧ (d : Int) < ydS (z + 1)
  | 0 => ⟨1970, by omega, by rw [yd0]; simp, by rw [yd_next, yd0]; have := len_pos 1970; omega⟩
  | d + 1 => by
    obtain ⟨z, h1, h2, h3⟩ := year_ex d
    by_cases h : ((d + 1 : Nat) : Int) < ydS (z + 1)
    · exact ⟨z, h1, by omega, h⟩
    · refine ⟨z + 1, by omega, by omega, ?_⟩
      have := yd_next (z + 1)
      have := len_pos (z + 1)
      omega
noncomputable def yearS (d : Int) : Int := Classical.choose (year_ex d.toNat)
theorem year_spec {d : Int} (h : 0 ≤ d) : 1970 ≤ yearS d ∧ ydS (yearS d) ≤ d ∧ d < ydS (yearS d + 1) := by
  have hc := Classical.choose_spec (year_ex d.toNat)
  obtain ⟨h1, h2, h3⟩ := hc
  unfold yearS
  refine ⟨h1, ?_, ?_⟩
  · omega
  · omega
theorem year_le {d y : Int} (h : 0 ≤ d) (hy : d < ydS (y + 1)) : yearS d ≤ y := by
  rcases Int.lt_or_le y (yearS d) with hl | hl
  · have := (year_spec h).2.1
    have := yd_mono (y := y + 1) (z := yearS d) (by omega)
    omega
  · exact hl
theorem year_ge {d y : Int} (h : 0 ≤ d) (hy : ydS y ≤ d) : y ≤ yearS d := by
  rcases Int.lt_or_le (yearS d) y with hl | hl
  · have := (year_spec h).2.2
    have := yd_mono (y := yearS d + 1) (z := y) (by omega)
    omega
  · exact hl
theorem yd_top : ydS (9999 + 1) = 2932897 := by decide
theorem year_max {d : Int} (h : 0 ≤ d) (hd : d ≤ 2932896) : yearS d ≤ 9999 := year_le h (by rw [yd_top]; omega)
theorem yd_up : ∀ k : Nat, ydS (1970 + k) ≤ k * 366
  | 0 => by rw [show (1970 : Int) + ((0 : Nat) : Int) = 1970 from rfl, yd0]; simp
  | k + 1 => by
    have ih := yd_up k
    have e := yd_next (1970 + k)
    have l := len_pos (1970 + k)
    have : (1970 : Int) + ((k + 1 : Nat) : Int) = 1970 + k + 1 := by omega
    rw [this]
    omega
theorem year_low {d : Int} (h : 0 ≤ d) : 1970 + d / 366 ≤ yearS d := by
  refine year_ge h ?_
  have := yd_up (d / 366).toNat
  have e : (((d / 366).toNat : Nat) : Int) = d / 366 := by omega
  rw [e] at this
  omega
def monthUp : Nat → Int → Int → Int → Int × Int
  | 0, _, m, r => (m, r)
  | f + 1, y, m, r => if mdS y m ≤ r then monthUp f y (m + 1) (r - mdS y m) else (m, r)
def restS : Nat → Int → Int → Int
  | 0, _, _ => 0
  | f + 1, y, m => mdS y m + restS f y (m + 1)
theorem rest_len (y : Int) : restS 12 y 1 = lenS y := by
  cases h : leapS y <;> simp [restS, mdS, lenS, h]
theorem month_bounds (y : Int) : ∀ (f : Nat) (m r : Int), 0 ≤ r → r < restS f y m → m ≤ (monthUp f y m r).1 ∧ (monthUp f y m r).1 < m + f ∧ 0 ≤ (monthUp f y m r).2 ∧ (monthUp f y m r).2 < mdS y (monthUp f y m r).1
  | 0, m, r, h0, h1 => by simp only [restS] at h1; omega
  | f + 1, m, r, h0, h1 => by
    simp only [restS] at h1
    simp only [monthUp]
    split
    · rename_i h
      have ih := month_bounds y f (m + 1) (r - mdS y m) (by omega) (by omega)
      refine ⟨by omega, by omega, ih.2.2.1, ih.2.2.2⟩
    · rename_i h
      refine ⟨Int.le_refl _, by simp only; omega, h0, ?_⟩
      simp only
      omega
def aheadS : Nat → Int → Int
  | 0, _ => 0
  | k + 1, y => aheadS k y + mdS y (k + 1 : Nat)
noncomputable def ymS (n : Int) : Int × Int := monthUp 12 (yearS (n / 86400)) 1 (n / 86400 - ydS (yearS (n / 86400)))
noncomputable def dateS (n : Int) : List Int := [yearS (n / 86400), (ymS n).1, (ymS n).2 + 1, n % 86400 / 3600, n % 86400 % 3600 / 60, n % 86400 % 60]
theorem date_bounds {n : Int} (h0 : 0 ≤ n) (h1 : n ≤ 253402300799) : 1970 ≤ yearS (n / 86400) ∧ yearS (n / 86400) ≤ 9999 ∧ 1 ≤ (ymS n).1 ∧ (ymS n).1 ≤ 12 ∧ 0 ≤ (ymS n).2 ∧ (ymS n).2 < mdS (yearS (n / 86400)) (ymS n).1 := by
  have hd : 0 ≤ n / 86400 := by omega
  have hs := year_spec hd
  have hm := year_max hd (by omega)
  have hn := yd_next (yearS (n / 86400))
  have hb := month_bounds (yearS (n / 86400)) 12 1 (n / 86400 - ydS (yearS (n / 86400))) (by omega) (by rw [rest_len]; omega)
  refine ⟨hs.1, hm, hb.1, ?_, hb.2.2.1, hb.2.2.2⟩
  have := hb.2.1
  unfold ymS
  omega
theorem dec_first (u : Nat) : ∃ c r, Lib.decDigits u = c :: r ∧ 48 ≤ c.toNat ∧ c.toNat ≤ 57 := by
  induction u using Nat.strongRecOn with
  | _ u ih =>
    by_cases h : u < 10
    · refine ⟨UInt8.ofNat (48 + u), [], ?_, ?_, ?_⟩
      · rw [Lib.decDigits, dif_pos h]
      · have : (UInt8.ofNat (48 + u)).toNat = 48 + u := by simp [UInt8.toNat_ofNat']; omega
        omega
      · have : (UInt8.ofNat (48 + u)).toNat = 48 + u := by simp [UInt8.toNat_ofNat']; omega
        omega
    · obtain ⟨c, r, e, h1, h2⟩ := ih (u / 10) (by omega)
      exact ⟨c, r ++ [UInt8.ofNat (48 + u % 10)], by rw [Lib.decDigits, dif_neg h, e]; rfl, h1, h2⟩
theorem itoa_first (n : Int) : ∃ c r, Lib.itoa n = c :: r ∧ (c = 45 ∨ (48 ≤ c.toNat ∧ c.toNat ≤ 57)) := by
  unfold Lib.itoa
  split
  · exact ⟨45, _, rfl, .inl rfl⟩
  · obtain ⟨c, r, e, h⟩ := dec_first n.toNat
    exact ⟨c, r, e, .inr h⟩
abbrev bNull : List UInt8 := [110, 117, 108, 108]
abbrev bTrue : List UInt8 := [116, 114, 117, 101]
abbrev bFalse : List UInt8 := [102, 97, 108, 115, 101]
theorem fmt_bool (b : Bool) : Lib.formatBool b = if b = true then bTrue else bFalse := by cases b <;> decide +kernel
def padS (n : Int) (d : Nat) : List UInt8 := Lib.repeatL [48] (d - (Lib.itoa n).length) ++ Lib.itoa n
noncomputable def dtextS (n : Int) : List UInt8 := padS (yearS (n / 86400)) 4 ++ [45] ++ padS (ymS n).1 2 ++ [45] ++ padS ((ymS n).2 + 1) 2 ++ [84] ++ padS (n % 86400 / 3600) 2 ++ [58] ++ padS (n % 86400 % 3600 / 60) 2 ++ [58] ++ padS (n % 86400 % 60) 2
noncomputable def showS (v : Val) : List UInt8 :=
  if (plainV v).k = 1 then Lib.formatBool ((plainV v).n == 1) else if (plainV v).k = 2 then Lib.itoa (plainV v).n else if (plainV v).k = 3 then [39] ++ Lib.replaceAll (plainV v).s [39] [39, 39] ++ [39]
  else if (plainV v).k = 4 then [64] ++ dtextS (plainV v).n else bNull
def atoiN (s : List UInt8) : Option Int := match Lib.atoiAll s with
  | .ok v => some v
  | _ => none
def daysS (y m d : Int) : Int := ydS y + aheadS (m - 1).toNat y + d - 1
def dateV (y m d h mi s : Int) : Val := if 1970 ≤ y ∧ y ≤ 9999 ∧ 1 ≤ m ∧ m ≤ 12 ∧ 1 ≤ d ∧ d ≤ mdS y m ∧ 0 ≤ h ∧ h ≤ 23 ∧ 0 ≤ mi ∧ mi ≤ 59 ∧ 0 ≤ s ∧ s ≤ 59 then numberS 4 (daysS y m d * 86400 + h * 3600 + mi * 60 + s) else null
def sixS (s : List UInt8) : Option (Int × Int × Int × Int × Int × Int) :=
  match atoiN (cut s 0 4), atoiN (cut s 5 7), atoiN (cut s 8 10), atoiN (cut s 11 13), atoiN (cut s 14 16), atoiN (cut s 17 19) with
  | some a, some b, some c, some d, some e, some f => some (a, b, c, d, e, f)
  | _, _, _, _, _, _ => none
noncomputable def dreadS (s : List UInt8) : Val :=
  if s.length = 19 then match sixS s with
    | some (a, b, c, d, e, f) => if (dateV a b c d e f).k = 0 ∨ dtextS (dateV a b c d e f).n ≠ s then null else dateV a b c d e f
    | none => null
  else null
noncomputable def candS (s : List UInt8) : Val :=
  if s = bTrue ∨ s = bFalse then boolV (decide (s = bTrue))
  else if 2 ≤ s.length ∧ s[0]? = some 39 ∧ s[s.length - 1]? = some 39 then ⟨3, 0, Lib.replaceAll (cut s 1 (s.length - 1)) [39, 39] [39]⟩
  else if Lib.hasPrefix s [64] = true then dreadS (s.drop 1)
  else match atoiN s with
    | some n => ⟨2, n, []⟩
    | none => null
noncomputable def candsS (s : List UInt8) : List Val :=
  [null, boolV true, boolV false] ++ (match atoiN s with
    | some n => [numberS 2 n]
    | none => []) ++ (if 1 < s.length ∧ s[0]? = some 39 then [textS (Lib.replaceAll (cut s 1 (s.length - 1)) [39, 39] [39])] else []) ++
  (if (dreadS (Lib.trimPrefix s [64])).k = 4 then [dreadS (Lib.trimPrefix s [64])] else [])
theorem plain_of_right {v : Val} (h : rightS v = true) : plainV v = v := by unfold plainV; exact if_pos h
theorem plain_null : plainV null = null := by decide
theorem show_null : showS null = bNull := by simp only [showS, plain_null]; simp [null]
theorem right_bool (b : Bool) : rightS (boolV b) = true := by cases b <;> decide
theorem right_null : rightS null = true := by decide
theorem show_bool (b : Bool) : showS (boolV b) = if b = true then bTrue else bFalse := by
  have := plain_of_right (right_bool b)
  cases b
  · simp only [showS, this]; simp [boolV, fmt_bool]
  · simp only [showS, this]; simp [boolV, fmt_bool]
theorem number_cases (k n : Int) : numberS k n = null ∨ (numberS k n = ⟨k, n, []⟩ ∧ rightS ⟨k, n, []⟩ = true) := by
  unfold numberS plainV
  split
  · rename_i h; exact .inr ⟨rfl, h⟩
  · exact .inl rfl
theorem text_cases (s : List UInt8) : textS s = null ∨ (textS s = ⟨3, 0, s⟩ ∧ rightS ⟨3, 0, s⟩ = true) := by
  unfold textS plainV
  split
  · rename_i h; exact .inr ⟨rfl, h⟩
  · exact .inl rfl
theorem show_int {n : Int} (h : rightS ⟨2, n, []⟩ = true) : showS ⟨2, n, []⟩ = Lib.itoa n := by simp [showS, plain_of_right h]
theorem show_text {s : List UInt8} (h : rightS ⟨3, 0, s⟩ = true) : showS ⟨3, 0, s⟩ = [39] ++ Lib.replaceAll s [39] [39, 39] ++ [39] := by simp [showS, plain_of_right h]
theorem date_cases (a b c d e f : Int) : dateV a b c d e f = null ∨ ((dateV a b c d e f).k = 4 ∧ (dateV a b c d e f).s = [] ∧ rightS (dateV a b c d e f) = true) := by
  unfold dateV
  split
  · rcases number_cases 4 (daysS a b c * 86400 + d * 3600 + e * 60 + f) with h | ⟨h, h2⟩
    · exact .inl h
    · rw [h]; exact .inr ⟨rfl, rfl, h2⟩
  · exact .inl rfl
theorem dread_cases (s : List UInt8) : dreadS s = null ∨ ((dreadS s).k = 4 ∧ rightS (dreadS s) = true ∧ dtextS (dreadS s).n = s) := by
  unfold dreadS
  split
  · split
    · rename_i a b c d e f _
      split
      · exact .inl rfl
      · rename_i h
        rcases date_cases a b c d e f with h2 | h2
        · rw [h2] at h; simp [null] at h
        · exact .inr ⟨h2.1, h2.2.2, by simpa using (not_or.1 h).2⟩
    · exact .inl rfl
  · exact .inl rfl
theorem show_moment {v : Val} (hk : v.k = 4) (hr : rightS v = true) : showS v = 64 :: dtextS v.n := by
  simp [showS, plain_of_right hr, hk]
theorem atoi_null : atoiN bNull = none := by decide +kernel
theorem cand_null : candS bNull = null := by
  unfold candS
  rw [if_neg (by decide), if_neg (by decide), if_neg (by decide), atoi_null]
theorem trim_at (r : List UInt8) : Lib.trimPrefix (64 :: r) [64] = r := by simp [Lib.trimPrefix, Lib.hasPrefix]
theorem pre_at (r : List UInt8) : Lib.hasPrefix (64 :: r) [64] = true := by simp [Lib.hasPrefix]
theorem pre_no (c : UInt8) (r : List UInt8) (h : c ≠ 64) : Lib.hasPrefix (c :: r) [64] = false := by
  have : (64 == c) = false := by simpa using Ne.symm h
  simp [Lib.hasPrefix, List.isPrefixOf, this]
theorem trim_no (c : UInt8) (r : List UInt8) (h : c ≠ 64) : Lib.trimPrefix (c :: r) [64] = c :: r := by simp [Lib.trimPrefix, pre_no c r h]
theorem cands_cand {s : List UInt8} {v : Val} (hv : v ∈ candsS s) (hs : showS v = s) : v = candS s ∧ rightS (candS s) = true := by
  unfold candsS at hv
  simp only [List.mem_append, List.mem_cons, List.not_mem_nil, or_false] at hv
  have hn : v = null → v = candS s ∧ rightS (candS s) = true := by
    rintro rfl
    rw [show_null] at hs
    rw [← hs, cand_null]
    exact ⟨rfl, right_null⟩
  rcases hv with (((rfl | rfl | rfl) | hv) | hv) | hv
  · exact hn rfl
  · rw [show_bool] at hs
    have hs : bTrue = s := by simpa using hs
    have : candS s = boolV true := by rw [← hs]; unfold candS; rw [if_pos (by decide)]; rfl
    rw [this]; exact ⟨rfl, right_bool _⟩
  · rw [show_bool] at hs
    have hs : bFalse = s := by simpa using hs
    have : candS s = boolV false := by rw [← hs]; unfold candS; rw [if_pos (by decide)]; rfl
    rw [this]; exact ⟨rfl, right_bool _⟩
  · cases ha : atoiN s with
    | none => rw [ha] at hv; simp at hv
    | some n =>
      rw [ha] at hv
      simp only [List.mem_cons, List.not_mem_nil, or_false] at hv
      subst hv
      rcases number_cases 2 n with h | ⟨h, hr⟩
      · exact hn h
      · rw [h] at hs ⊢
        rw [show_int hr] at hs
        obtain ⟨c, r, e, hc⟩ := itoa_first n
        rw [hs] at e
        have h45 : (45 : UInt8).toNat = 45 := rfl
        have hc39 : c ≠ 39 := by rintro rfl; rcases hc with hc | hc; · simp at hc
                                 · simp at hc
        have hc64 : c ≠ 64 := by rintro rfl; rcases hc with hc | hc; · simp at hc
                                 · simp at hc
        have hct : c ≠ 116 := by rintro rfl; rcases hc with hc | hc; · simp at hc
                                 · simp at hc
        have hcf : c ≠ 102 := by rintro rfl; rcases hc with hc | hc; · simp at hc
                                 · simp at hc
        have : candS s = ⟨2, n, []⟩ := by
          unfold candS
          rw [ha, if_neg (by rw [e]; simp [hct, hcf]), if_neg (by rw [e]; simp [hc39]), if_neg (by rw [e, pre_no c r hc64]; simp)]
        rw [this]; exact ⟨rfl, hr⟩
  · by_cases hq : 1 < s.length ∧ s[0]? = some 39
    · rw [if_pos hq] at hv
      simp only [List.mem_cons, List.not_mem_nil, or_false] at hv
      subst hv
      rcases text_cases (Lib.replaceAll (cut s 1 (s.length - 1)) [39, 39] [39]) with h | ⟨h, hr⟩
      · exact hn h
      · rw [h] at hs ⊢
        rw [show_text hr] at hs
        have hlast : s[s.length - 1]? = some 39 := by
          rw [← hs]
          simp
        have hne : s[0]? = some 39 := hq.2
        have : candS s = ⟨3, 0, Lib.replaceAll (cut s 1 (s.length - 1)) [39, 39] [39]⟩ := by
          unfold candS
          rw [if_neg (by rintro (rfl | rfl) <;> simp at hne), if_pos ⟨hq.1, hne, hlast⟩]
        rw [this]; exact ⟨rfl, hr⟩
    · rw [if_neg hq] at hv; simp at hv
  · by_cases hm : (dreadS (Lib.trimPrefix s [64])).k = 4
    · rw [if_pos hm] at hv
      simp only [List.mem_cons, List.not_mem_nil, or_false] at hv
      rcases dread_cases (Lib.trimPrefix s [64]) with h | ⟨h1, h2, h3⟩
      · rw [h] at hm; simp [null] at hm
      · rw [← hv] at h1 h2 h3
        rw [show_moment h1 h2] at hs
        have e : Lib.trimPrefix s [64] = dtextS v.n := h3.symm
        have : candS s = v := by
          unfold candS
          rw [if_neg (by rw [← hs]; simp), if_neg (by rw [← hs]; simp), if_pos (by rw [← hs]; exact pre_at _), hv, e, ← hs]
          rfl
        rw [this]; exact ⟨rfl, h2⟩
    · rw [if_neg hm] at hv; simp at hv
theorem cand_cands {s : List UInt8} (hr : rightS (candS s) = true) : candS s ∈ candsS s := by
  by_cases h1 : s = bTrue ∨ s = bFalse
  · have e : candS s = boolV (decide (s = bTrue)) := by unfold candS; rw [if_pos h1]
    rw [e]
    unfold candsS
    cases decide (s = bTrue) <;> simp
  · by_cases h2 : 2 ≤ s.length ∧ s[0]? = some 39 ∧ s[s.length - 1]? = some 39
    · have e : candS s = ⟨3, 0, Lib.replaceAll (cut s 1 (s.length - 1)) [39, 39] [39]⟩ := by unfold candS; rw [if_neg h1, if_pos h2]
      rw [e] at hr ⊢
      have : textS (Lib.replaceAll (cut s 1 (s.length - 1)) [39, 39] [39]) = ⟨3, 0, Lib.replaceAll (cut s 1 (s.length - 1)) [39, 39] [39]⟩ := plain_of_right hr
      unfold candsS
      rw [if_pos (show 1 < s.length ∧ s[0]? = some 39 from ⟨h2.1, h2.2.1⟩), this]
      simp
    · by_cases h3 : Lib.hasPrefix s [64] = true
      · have e : candS s = dreadS (s.drop 1) := by unfold candS; rw [if_neg h1, if_neg h2, if_pos h3]
        have et : Lib.trimPrefix s [64] = s.drop 1 := by unfold Lib.trimPrefix; rw [if_pos h3]; rfl
        rw [e]
        rcases dread_cases (s.drop 1) with h | ⟨h4, _, _⟩
        · rw [h]; unfold candsS; simp
        · unfold candsS
          rw [et, if_pos h4]; simp
      · cases ha : atoiN s with
        | none =>
          have e : candS s = null := by unfold candS; rw [if_neg h1, if_neg h2, if_neg h3, ha]
          rw [e]; unfold candsS; simp
        | some n =>
          have e : candS s = ⟨2, n, []⟩ := by unfold candS; rw [if_neg h1, if_neg h2, if_neg h3, ha]
          rw [e] at hr ⊢
          have : numberS 2 n = ⟨2, n, []⟩ := plain_of_right hr
          unfold candsS
          rw [ha]
          simp only [this]; simp
def canS (a b : Int) : Bool := within a 1 4 && within b 1 4 && !((a == 1 && b == 4) || (a == 4 && b == 1))
noncomputable def shownS (a : Val) : List UInt8 := if a.k = 3 then a.s else if a.k = 4 then dtextS a.n else showS a
noncomputable def fromS (s : List UInt8) (kind : Int) : Val :=
  if rightS (if kind = 4 then dreadS s else candS s) = true ∧ (if kind = 4 then dreadS s else candS s).k = kind ∧ shownS (if kind = 4 then dreadS s else candS s) = s then (if kind = 4 then dreadS s else candS s) else null
noncomputable def castS (a : Val) (kind : Int) : Val :=
  if (plainV a).k = 0 ∨ canS (plainV a).k kind = false then null
  else if (plainV a).k = kind then plainV a
  else if kind = 3 then textS (shownS (plainV a))
  else if (plainV a).k = 3 then fromS (plainV a).s kind
  else if kind = 1 then boolV (!((plainV a).n == 0))
  else numberS kind (plainV a).n
noncomputable def castTextS (v : Val) : Val := if v.k = 3 then v else textS (Lib.trimPrefix (showS v) [64])
noncomputable def fitS (w : Val) (kind : Int) (x : Val) : Bool := x.k == kind && decide (castTextS x = w)
noncomputable def castedS (a : Val) (kind : Int) : Val :=
  if (plainV a).k = 0 ∨ canS (plainV a).k kind = false then null
  else if (plainV a).k = kind then plainV a
  else if kind = 3 then castTextS (plainV a)
  else if (plainV a).k = 3 then (match (candsS (plainV a).s ++ candsS ([64] ++ (plainV a).s)).find? (fitS (plainV a) kind) with
    | some x => x
    | none => null)
  else if kind = 1 then boolV (!((plainV a).n == 0))
  else if kind = 4 then numberS 4 (plainV a).n
  else numberS 2 (plainV a).n
theorem text_of {s t : List UInt8} (h : textS t = ⟨3, 0, s⟩) : t = s := by
  rcases text_cases t with e | ⟨e, _⟩
  · rw [e] at h; simp [null] at h
  · rw [e] at h; simpa using h
theorem trim_itoa (n : Int) : Lib.trimPrefix (Lib.itoa n) [64] = Lib.itoa n := by
  obtain ⟨c, r, e, h⟩ := itoa_first n
  rw [e]
  refine trim_no c r ?_
  rintro rfl
  rcases h with h | h
  · simp at h
  · simp at h
theorem trim_bool (b : Bool) : Lib.trimPrefix (if b = true then bTrue else bFalse) [64] = if b = true then bTrue else bFalse := by cases b <;> decide
theorem atoi_at (r : List UInt8) : atoiN (64 :: r) = none := by
  have e : Lib.atoiAll (64 :: r) = Lib.NumEnd.syntax := by
    rw [Lib.atoiAll_plain 64 r (by decide) (by decide)]
    rfl
  unfold atoiN
  rw [e]
theorem cands_kind {s : List UInt8} {x : Val} (h : x ∈ candsS s) : x = null ∨ (∃ b, x = boolV b) ∨ (∃ n, atoiN s = some n ∧ x = ⟨2, n, []⟩ ∧ rightS x = true) ∨ x.k = 3 ∨ (x = dreadS (Lib.trimPrefix s [64]) ∧ x.k = 4 ∧ rightS x = true ∧ dtextS x.n = Lib.trimPrefix s [64]) := by
  unfold candsS at h
  simp only [List.mem_append, List.mem_cons, List.not_mem_nil, or_false] at h
  rcases h with (((rfl | rfl | rfl) | h) | h) | h
  · exact .inl rfl
  · exact .inr (.inl ⟨true, rfl⟩)
  · exact .inr (.inl ⟨false, rfl⟩)
  · cases ha : atoiN s with
    | none => rw [ha] at h; simp at h
    | some n =>
      rw [ha] at h
      simp only [List.mem_cons, List.not_mem_nil, or_false] at h
      subst h
      rcases number_cases 2 n with e | ⟨e, hr⟩
      · exact .inl e
      · rw [e]; exact .inr (.inr (.inl ⟨n, rfl, rfl, hr⟩))
  · by_cases hq : 1 < s.length ∧ s[0]? = some 39
    · rw [if_pos hq] at h
      simp only [List.mem_cons, List.not_mem_nil, or_false] at h
      subst h
      rcases text_cases (Lib.replaceAll (cut s 1 (s.length - 1)) [39, 39] [39]) with e | ⟨e, hr⟩
      · exact .inl e
      · rw [e]; exact .inr (.inr (.inr (.inl rfl)))
    · rw [if_neg hq] at h; simp at h
  · by_cases hm : (dreadS (Lib.trimPrefix s [64])).k = 4
    · rw [if_pos hm] at h
      simp only [List.mem_cons, List.not_mem_nil, or_false] at h
      subst h
      rcases dread_cases (Lib.trimPrefix s [64]) with e | ⟨h1, h2, h3⟩
      · exact .inl e
      · exact .inr (.inr (.inr (.inr ⟨rfl, h1, h2, h3⟩)))
    · rw [if_neg hm] at h; simp at h
theorem cand_true : candS bTrue = boolV true := by unfold candS; rw [if_pos (by decide)]; rfl
theorem cand_false : candS bFalse = boolV false := by unfold candS; rw [if_pos (by decide)]; rfl
theorem cast_text_ne {x : Val} {s : List UInt8} (hk : x.k ≠ 3) (h : castTextS x = ⟨3, 0, s⟩) : Lib.trimPrefix (showS x) [64] = s := by
  unfold castTextS at h
  rw [if_neg hk] at h
  exact text_of h
theorem from_yes {s : List UInt8} {kind : Int} {x : Val} (h1 : (if kind = 4 then dreadS s else candS s) = x) (h2 : rightS x = true) (h3 : x.k = kind) (h4 : shownS x = s) : fromS s kind = x := by
  unfold fromS
  rw [h1, if_pos ⟨h2, h3, h4⟩]
theorem fit_from {s : List UInt8} {kind : Int} {x : Val} (hk : kind ≠ 3) (h0 : kind ≠ 0) (hx : x ∈ candsS s ++ candsS ([64] ++ s)) (hf : fitS ⟨3, 0, s⟩ kind x = true) : fromS s kind = x := by
  unfold fitS at hf
  simp only [Bool.and_eq_true, beq_iff_eq, decide_eq_true_eq] at hf
  obtain ⟨hkx, hc⟩ := hf
  have ht := cast_text_ne (by rw [hkx]; exact hk) hc
  have main : ∀ t, x ∈ candsS t → (∀ n, atoiN t = some n → t = s) → (Lib.trimPrefix t [64] = s → x = dreadS (Lib.trimPrefix t [64]) → x = dreadS s) → fromS s kind = x := by
    intro t hx hn hd
    rcases cands_kind hx with rfl | ⟨b, rfl⟩ | ⟨n, ha, rfl, hr⟩ | h | ⟨h1, h2, h3, h4⟩
    · exact absurd hkx.symm h0
    · rw [show_bool, trim_bool] at ht
      have hk1 : kind = 1 := hkx.symm
      subst hk1
      refine from_yes ?_ (right_bool b) rfl ?_
      · rw [if_neg (by decide), ← ht]; cases b
        · exact cand_false
        · exact cand_true
      · unfold shownS
        rw [if_neg (by simp [boolV]), if_neg (by simp [boolV]), show_bool, ht]
    · have hk2 : kind = 2 := hkx.symm
      subst hk2
      rw [show_int hr, trim_itoa] at ht
      have := hn n ha
      subst this
      have hm : (⟨2, n, []⟩ : Val) ∈ candsS t := by
        unfold candsS
        rw [ha]
        have : numberS 2 n = ⟨2, n, []⟩ := plain_of_right hr
        simp [this]
      have hcc := cands_cand hm ((show_int hr).trans ht)
      refine from_yes ?_ hr rfl ?_
      · rw [if_neg (by decide)]; exact hcc.1.symm
      · unfold shownS
        rw [if_neg (by simp), if_neg (by simp), show_int hr, ht]
    · exact absurd (hkx.symm.trans h) hk
    · have hk4 : kind = 4 := hkx.symm.trans h2
      subst hk4
      rw [show_moment h2 h3, trim_at] at ht
      have hs : Lib.trimPrefix t [64] = s := by rw [← h4]; exact ht
      refine from_yes ?_ h3 h2 ?_
      · rw [if_pos rfl]; exact (hd hs h1).symm
      · unfold shownS
        rw [if_neg (by rw [h2]; decide), if_pos h2, ht]
  rcases List.mem_append.1 hx with h | h
  · exact main s h (fun _ _ => rfl) (fun e h2 => by rw [e] at h2; exact h2)
  · exact main ([64] ++ s) h (fun n ha => by rw [show [64] ++ s = 64 :: s from rfl, atoi_at] at ha; simp at ha) (fun e h2 => by rw [e] at h2; exact h2)
theorem from_fit {s : List UInt8} {kind : Int} (hk : kind = 1 ∨ kind = 2 ∨ kind = 4) (hr : rightS ⟨3, 0, s⟩ = true) (h : rightS (if kind = 4 then dreadS s else candS s) = true ∧ (if kind = 4 then dreadS s else candS s).k = kind ∧ shownS (if kind = 4 then dreadS s else candS s) = s) :
    (if kind = 4 then dreadS s else candS s) ∈ candsS s ++ candsS ([64] ++ s) ∧ fitS ⟨3, 0, s⟩ kind (if kind = 4 then dreadS s else candS s) = true := by
  obtain ⟨h1, h2, h3⟩ := h
  have ts : textS s = ⟨3, 0, s⟩ := plain_of_right hr
  by_cases h4 : kind = 4
  · subst h4
    simp only [if_true] at h1 h2 h3 ⊢
    rcases dread_cases s with e | ⟨e1, e2, e3⟩
    · rw [e] at h2; simp [null] at h2
    · refine ⟨List.mem_append.2 (.inr ?_), ?_⟩
      · unfold candsS
        rw [show [64] ++ s = 64 :: s from rfl, trim_at, if_pos e1]
        simp
      · unfold fitS castTextS
        rw [if_neg (by rw [e1]; decide), show_moment e1 e2, trim_at, e3, ts]
        simp [e1]
  · rw [if_neg h4] at h1 h2 h3 ⊢
    have hk3 : (candS s).k ≠ 3 := by rw [h2]; omega
    have hsh : showS (candS s) = s := by
      unfold shownS at h3
      rwa [if_neg hk3, if_neg (by rw [h2]; exact h4)] at h3
    have hm := cand_cands h1
    refine ⟨List.mem_append.2 (.inl hm), ?_⟩
    unfold fitS castTextS
    rw [if_neg hk3, hsh]
    have htr : Lib.trimPrefix s [64] = s := by
      rcases cands_kind hm with e | ⟨b, e⟩ | ⟨n, _, e, hr2⟩ | e | ⟨_, e, _⟩
      · rw [e] at h2; simp [null] at h2; omega
      · rw [← hsh, e, show_bool]; exact trim_bool b
      · rw [← hsh, e]
        rw [e] at hr2
        rw [show_int hr2]; exact trim_itoa n
      · exact absurd e hk3
      · exact absurd (h2.symm.trans e) h4
    rw [htr, ts]
    simp [h2]
theorem plain_right (v : Val) : rightS (plainV v) = true := by
  unfold plainV
  split
  · assumption
  · exact right_null
theorem plain3_eq {v : Val} (h : (plainV v).k = 3) : plainV v = ⟨3, 0, (plainV v).s⟩ := by
  have hr := plain_right v
  have hn : (plainV v).n = 0 := by
    simp only [rightS, formS, Bool.and_eq_true] at hr
    rw [if_neg (by rw [h]; decide), if_pos h] at hr
    simpa using hr.1
  cases hv : plainV v
  rw [hv] at h hn
  simp only at h hn
  subst h hn
  rfl
theorem cast_law (a : Val) (kind : Int) : castedS a kind = castS a kind := by
  unfold castedS castS
  by_cases h1 : (plainV a).k = 0 ∨ canS (plainV a).k kind = false
  · rw [if_pos h1, if_pos h1]
  rw [if_neg h1, if_neg h1]
  by_cases h2 : (plainV a).k = kind
  · rw [if_pos h2, if_pos h2]
  rw [if_neg h2, if_neg h2]
  obtain ⟨h0, hc⟩ := not_or.1 h1
  have hc : canS (plainV a).k kind = true := by simpa using hc
  have hkinds : (1 ≤ (plainV a).k ∧ (plainV a).k ≤ 4) ∧ (1 ≤ kind ∧ kind ≤ 4) := by
    simp only [canS, within, Bool.and_eq_true, decide_eq_true_eq] at hc
    exact hc.1
  by_cases h3 : kind = 3
  · rw [if_pos h3, if_pos h3]
    have hk : (plainV a).k ≠ 3 := by rw [h3] at h2; exact h2
    unfold castTextS shownS
    rw [if_neg hk, if_neg hk]
    have hr := plain_right a
    by_cases h4 : (plainV a).k = 4
    · rw [if_pos h4, show_moment h4 hr, trim_at]
    · rw [if_neg h4]
      congr 1
      have hp := plain_of_right hr
      unfold showS
      rw [hp]
      by_cases h5 : (plainV a).k = 1
      · rw [if_pos h5, fmt_bool]; exact trim_bool _
      · rw [if_neg h5, if_pos (by omega)]; exact trim_itoa _
  rw [if_neg h3, if_neg h3]
  by_cases h4 : (plainV a).k = 3
  · rw [if_pos h4, if_pos h4]
    have he := plain3_eq h4
    have hr : rightS ⟨3, 0, (plainV a).s⟩ = true := by rw [← he]; exact plain_right a
    generalize hs : (plainV a).s = s at hr he ⊢
    rw [he]
    cases hf : (candsS s ++ candsS ([64] ++ s)).find? (fitS ⟨3, 0, s⟩ kind) with
    | some x => exact (fit_from h3 (by omega) (List.mem_of_find?_eq_some hf) (List.find?_some hf)).symm
    | none =>
      unfold fromS
      rw [if_neg]
      intro h
      have := from_fit (by omega) hr h
      exact List.find?_eq_none.1 hf _ this.1 this.2
  rw [if_neg h4, if_neg h4]
  by_cases h5 : kind = 1
  · rw [if_pos h5, if_pos h5]
  rw [if_neg h5, if_neg h5]
  by_cases h6 : kind = 4
  · rw [if_pos h6, h6]
  · rw [if_neg h6]
    have : kind = 2 := by omega
    rw [this]
theorem c_leap (y : Int) (h : 0 ≤ y) : R K (.call 258 [.int .i64 y] []) = some (.bool (leapS y), []) := by
  rw [call_258]
  simp -implicitDefEqProofs only [go_sem, simprocAttr, Tryz.f258, tm y _ h]
  repeat' ((first | apply split_cond | apply split_yes | apply split_no) <;> intro hc <;> simp -implicitDefEqProofs only [hc, go_sem, simprocAttr, tm y _ h])
  all_goals simp_all [leapS]
theorem r_leap (y : Int) (h : 0 ≤ y) : R K (.call 260 [.int .i64 y] []) = some (.bool (leapS y), []) := by
  rw [call_260]
  simp -implicitDefEqProofs only [go_sem, simprocAttr, Tryz.f260, tm y _ h]
  repeat' ((first | apply split_cond | apply split_yes | apply split_no) <;> intro hc <;> simp -implicitDefEqProofs only [hc, go_sem, simprocAttr, tm y _ h])
  all_goals simp_all [leapS]
theorem c_md (y m : Int) (h : 0 ≤ y) : R K (.call 192 [.int .i64 y, .int .i64 m] []) = some (.int .i64 (mdS y m), []) := by
  rw [call_192]
  simp -implicitDefEqProofs only [go_sem, simprocAttr, Tryz.f192, c_leap y h]
  repeat' ((first | apply split_cond | apply split_yes | apply split_no) <;> intro hc <;> simp -implicitDefEqProofs only [hc, go_sem, simprocAttr, c_leap y h])
  all_goals simp_all [mdS]
theorem r_md (y m : Int) (h : 0 ≤ y) : R K (.call 195 [.int .i64 y, .int .i64 m] []) = some (.int .i64 (mdS y m), []) := by
  rw [call_195]
  simp -implicitDefEqProofs only [go_sem, simprocAttr, Tryz.f195, r_leap y h]
  repeat' ((first | apply split_cond | apply split_yes | apply split_no) <;> intro hc <;> simp -implicitDefEqProofs only [hc, go_sem, simprocAttr, r_leap y h])
  all_goals simp_all [mdS]
theorem r_yearDays (y : Int) (h : 0 ≤ y) : R K (.call 194 [.int .i64 y] []) = some (.int .i64 (lenS y), []) := by
  rw [call_194]
  simp -implicitDefEqProofs only [go_sem, simprocAttr, Tryz.f194, r_leap y h]
  repeat' ((first | apply split_cond | apply split_yes | apply split_no) <;> intro hc <;> simp -implicitDefEqProofs only [hc, go_sem, simprocAttr, r_leap y h])
  all_goals simp_all [lenS]
theorem c_yd (y : Int) (h : 1 ≤ y) (h2 : y ≤ 100000) : R K (.call 191 [.int .i64 y] []) = some (.int .i64 (ydS y), []) := by
  have e1 : wrapI .i64 (y - 1) = y - 1 := wrap_id (by omega) (by omega)
  have e2 : wrapI .i64 (y - 1970) = y - 1970 := wrap_id (by omega) (by omega)
  have e3 : wrapI .i64 (365 * (y - 1970)) = 365 * (y - 1970) := wrap_id (by omega) (by omega)
  have e4 : wrapI .i64 ((y - 1).tdiv 4) = (y - 1) / 4 := by rw [td _ _ (by omega)]; exact wrap_id (by omega) (by omega)
  have e5 : wrapI .i64 (365 * (y - 1970) + (y - 1) / 4) = 365 * (y - 1970) + (y - 1) / 4 := wrap_id (by omega) (by omega)
  have e6 : wrapI .i64 ((y - 1).tdiv 100) = (y - 1) / 100 := by rw [td _ _ (by omega)]; exact wrap_id (by omega) (by omega)
  have e7 : wrapI .i64 (365 * (y - 1970) + (y - 1) / 4 - (y - 1) / 100) = 365 * (y - 1970) + (y - 1) / 4 - (y - 1) / 100 := wrap_id (by omega) (by omega)
  have e8 : wrapI .i64 ((y - 1).tdiv 400) = (y - 1) / 400 := by rw [td _ _ (by omega)]; exact wrap_id (by omega) (by omega)
  have e9 : wrapI .i64 (365 * (y - 1970) + (y - 1) / 4 - (y - 1) / 100 + (y - 1) / 400) = 365 * (y - 1970) + (y - 1) / 4 - (y - 1) / 100 + (y - 1) / 400 := wrap_id (by omega) (by omega)
  have e10 : wrapI .i64 (365 * (y - 1970) + (y - 1) / 4 - (y - 1) / 100 + (y - 1) / 400 - 477) = ydS y := by unfold ydS; exact wrap_id (by omega) (by omega)
  rw [call_191]
  simp -implicitDefEqProofs only [go_sem, simprocAttr, Tryz.f191, e1, e2, e3, e4, e5, e6, e7, e8, e9, e10]
abbrev I (n : Int) : AV := .int .i64 n
theorem yd_lt {y : Int} (h : y ≤ 9999) : ydS (y + 1) ≤ 2932897 := by
  have := yd_mono (y := y + 1) (z := 9999 + 1) (by omega)
  rw [yd_top] at this
  omega
theorem l_dateOf0 (d rest z : Int) (h1 : ydS z ≤ d) (h2 : d < ydS (z + 1)) (hz : z ≤ 9999) (ks : List It) : ∀ (m : Nat) (y : Int) (B : Code), Loop Tryz.f127 0 B → y + m = z → 1970 ≤ y →
   RL K (.run 127 0 (.code B :: .lp B (some ([2, 3, 4, 5], [])) 1 :: .blk 0 1 :: ks) [(2, .ptr 0 0), (3, I d), (4, I rest), (5, I y)] [.cells [I 0, I 0, I 0, I 0, I 0, I 0]]) =
   R K (.run 127 0 ks [(2, .ptr 0 0), (3, I d), (4, I rest), (5, I z)] [.cells [I 0, I 0, I 0, I 0, I 0, I 0]])
  | 0, y, B, hB, hm, hy => by
    have hzy : y = z := by omega
    subst hzy
    have e1 : wrapI .i64 (y + 1) = y + 1 := wrap_id (by omega) (by omega)
    have e2 := c_yd (y + 1) (by omega) (by omega)
    have e3 : decide (ydS (y + 1) ≤ d) = false := by simp; omega
    unfold Loop at hB
    simp -implicitDefEqProofs only [go_sem, simprocAttr, Tryz.f127, loopOf] at hB
    subst hB
    rw [RL_eq]
    simp -implicitDefEqProofs only [go_sem, simprocAttr, e1, e2, e3]
  | m + 1, y, B, hB, hm, hy => by
    have hB' := hB
    have e1 : wrapI .i64 (y + 1) = y + 1 := wrap_id (by omega) (by omega)
    have e2 := c_yd (y + 1) (by omega) (by omega)
    have e3 : decide (ydS (y + 1) ≤ d) = true := by
      have := yd_mono (y := y + 1) (z := z) (by omega)
      simp; omega
    have ih := l_dateOf0 d rest z h1 h2 hz ks m (y + 1) B hB' (by omega) (by omega)
    unfold Loop at hB
    simp -implicitDefEqProofs only [go_sem, simprocAttr, Tryz.f127, loopOf] at hB
    subst hB
    rw [RL_eq]
    simp -implicitDefEqProofs only [go_sem, simprocAttr, e1, e2, e3, ih]
theorem md_wrap (y m r : Int) (h0 : 0 ≤ r) (h1 : r ≤ 400) : wrapI .i64 (r - mdS y m) = r - mdS y m := by
  have := md_pos y m
  exact wrap_id (by omega) (by omega)
theorem l_dateOf2 (y rest : Int) (h0 : 0 ≤ y) (ks : List It) : ∀ (f : Nat) (m r : Int) (B : Code), Loop Tryz.f127 2 B → 0 ≤ r → r < restS f y m → r ≤ 400 → 0 ≤ m → m + f ≤ 100 →
   RL K (.run 127 0 (.code B :: .lp B (some ([2, 3, 4, 5, 6], [])) 1 :: .blk 2 1 :: ks) [(2, .ptr 0 0), (3, I r), (4, I rest), (5, I y), (6, I m)] [.cells [I 0, I 0, I 0, I 0, I 0, I 0]]) =
   R K (.run 127 0 ks [(2, .ptr 0 0), (3, I (monthUp f y m r).2), (4, I rest), (5, I y), (6, I (monthUp f y m r).1)] [.cells [I 0, I 0, I 0, I 0, I 0, I 0]])
  | 0, m, r, B, hB, hr, hl, _, _, _ => by simp only [restS] at hl; omega
  | f + 1, m, r, B, hB, hr, hl, hr4, hm0, hm => by
    have hB' := hB
    simp only [restS] at hl
    have e1 := c_md y m h0
    have e2 := md_wrap y m r hr hr4
    have e3 : wrapI .i64 (m + 1) = m + 1 := wrap_id (by omega) (by omega)
    have hp := md_pos y m
    by_cases h : mdS y m ≤ r
    · have e4 : decide (mdS y m ≤ r) = true := by simp [h]
      have ih := l_dateOf2 y rest h0 ks f (m + 1) (r - mdS y m) B hB' (by omega) (by omega) (by omega) (by omega) (by omega)
      have e5 : monthUp (f + 1) y m r = monthUp f y (m + 1) (r - mdS y m) := by simp only [monthUp]; rw [if_pos h]
      rw [e5]
      unfold Loop at hB
      simp -implicitDefEqProofs only [go_sem, simprocAttr, Tryz.f127, loopOf] at hB
      subst hB
      rw [RL_eq]
      simp -implicitDefEqProofs only [go_sem, simprocAttr, e1, e2, e3, e4, ih]
    · have e4 : decide (mdS y m ≤ r) = false := by simpa using h
      have e5 : monthUp (f + 1) y m r = (m, r) := by simp only [monthUp]; rw [if_neg h]
      rw [e5]
      unfold Loop at hB
      simp -implicitDefEqProofs only [go_sem, simprocAttr, Tryz.f127, loopOf] at hB
      subst hB
      rw [RL_eq]
      simp -implicitDefEqProofs only [go_sem, simprocAttr, e1, e4]
theorem c_dateOf (n : Int) (h0 : 0 ≤ n) (h1 : n ≤ 253402300799) : R K (.call 127 [I n] []) = some (.agg ((dateS n).map I), []) := by
  have hb := date_bounds h0 h1
  have hs := year_spec (d := n / 86400) (by omega)
  have hlow := year_low (d := n / 86400) (by omega)
  have hlen := yd_next (yearS (n / 86400))
  have hlp := len_pos (yearS (n / 86400))
  have e1 : wrapI .i64 (n.tdiv 86400) = n / 86400 := by rw [td _ _ h0]; exact wrap_id (by omega) (by omega)
  have e2 : n.tmod 86400 = n % 86400 := tm _ _ h0
  have e3 : wrapI .i64 ((n / 86400).tdiv 366) = n / 86400 / 366 := by rw [td _ _ (by omega)]; exact wrap_id (by omega) (by omega)
  have e4 : wrapI .i64 (1970 + n / 86400 / 366) = 1970 + n / 86400 / 366 := wrap_id (by omega) (by omega)
  have e5 := c_yd (yearS (n / 86400)) (by omega) (by omega)
  have e6 : wrapI .i64 (n / 86400 - ydS (yearS (n / 86400))) = n / 86400 - ydS (yearS (n / 86400)) := wrap_id (by omega) (by omega)
  have e7 : wrapI .i64 ((ymS n).2 + 1) = (ymS n).2 + 1 := by have := md_pos (yearS (n / 86400)) (ymS n).1; exact wrap_id (by omega) (by omega)
  have e8 : wrapI .i64 ((n % 86400).tdiv 3600) = n % 86400 / 3600 := by rw [td _ _ (by omega)]; exact wrap_id (by omega) (by omega)
  have e9 : (n % 86400).tmod 3600 = n % 86400 % 3600 := tm _ _ (by omega)
  have e10 : wrapI .i64 ((n % 86400 % 3600).tdiv 60) = n % 86400 % 3600 / 60 := by rw [td _ _ (by omega)]; exact wrap_id (by omega) (by omega)
  have e11 : (n % 86400).tmod 60 = n % 86400 % 60 := tm _ _ (by omega)
  have hm : monthUp 12 (yearS (n / 86400)) 1 (n / 86400 - ydS (yearS (n / 86400))) = ymS n := rfl
  rw [call_127]
  simp -implicitDefEqProofs only [go_sem, simprocAttr, Tryz.f127, e1, e2, e3, e4]
  rw [l_dateOf0 (n / 86400) (n % 86400) (yearS (n / 86400)) hs.2.1 hs.2.2 hb.2.1 _ (yearS (n / 86400) - (1970 + n / 86400 / 366)).toNat _ _ ?_ (by omega) (by omega)]
  · simp -implicitDefEqProofs only [go_sem, simprocAttr, e5, e6]
    rw [l_dateOf2 (yearS (n / 86400)) (n % 86400) (by omega) _ 12 1 _ _ ?_ (by omega) (by rw [rest_len]; omega) (by omega) (by omega) (by omega), hm]
    · simp -implicitDefEqProofs only [go_sem, simprocAttr, e7, e8, e9, e10, e11]
      rfl
    · rfl
  · rfl
theorem l_parts0 (d n z : Int) (h1 : ydS z ≤ d) (h2 : d < ydS (z + 1)) (hz : z ≤ 9999) (hd : 0 ≤ d ∧ d ≤ 3000000) (ks : List It) : ∀ (m : Nat) (y : Int) (B : Code), Loop Tryz.f130 0 B → y + m = z → 1970 ≤ y →
   RL K (.run 130 0 (.code B :: .lp B (some ([0, 2, 3, 4, 5], [])) 1 :: .blk 0 1 :: ks) [(0, I n), (2, .ptr 0 0), (3, I (d - ydS y)), (4, I y), (5, I 1)] [.cells [I 0, I 0, I 0, I 0, I 0, I 0]]) =
   R K (.run 130 0 ks [(0, I n), (2, .ptr 0 0), (3, I (d - ydS z)), (4, I z), (5, I 1)] [.cells [I 0, I 0, I 0, I 0, I 0, I 0]])
  | 0, y, B, hB, hm, hy => by
    have hzy : y = z := by omega
    subst hzy
    have e2 := r_yearDays y (by omega)
    have e3 : decide (lenS y ≤ d - ydS y) = false := by have := yd_next y; simp; omega
    unfold Loop at hB
    simp -implicitDefEqProofs only [go_sem, simprocAttr, Tryz.f130, loopOf] at hB
    subst hB
    rw [RL_eq]
    simp -implicitDefEqProofs only [go_sem, simprocAttr, e2, e3]
  | m + 1, y, B, hB, hm, hy => by
    have hB' := hB
    have e1 : wrapI .i64 (y + 1) = y + 1 := wrap_id (by omega) (by omega)
    have e2 := r_yearDays y (by omega)
    have en := yd_next y
    have el := len_pos y
    have em := yd_mono (y := y + 1) (z := z) (by omega)
    have e3 : decide (lenS y ≤ d - ydS y) = true := by rw [decide_eq_true_eq]; omega
    have e0 := yd_mono (y := 1970) (z := y) hy
    rw [yd0] at e0
    have e4 : wrapI .i64 (d - ydS y - lenS y) = d - ydS (y + 1) := by rw [wrap_id (by omega) (by omega)]; omega
    have ih := l_parts0 d n z h1 h2 hz hd ks m (y + 1) B hB' (by omega) (by omega)
    unfold Loop at hB
    simp -implicitDefEqProofs only [go_sem, simprocAttr, Tryz.f130, loopOf] at hB
    subst hB
    rw [RL_eq]
    simp -implicitDefEqProofs only [go_sem, simprocAttr, e1, e2, e3, e4, ih]
theorem l_parts2 (y n : Int) (h0 : 0 ≤ y) (ks : List It) : ∀ (f : Nat) (m r : Int) (B : Code), Loop Tryz.f130 2 B → 0 ≤ r → r < restS f y m → r ≤ 400 → 0 ≤ m → m + f ≤ 100 →
   RL K (.run 130 0 (.code B :: .lp B (some ([0, 2, 3, 4, 5], [])) 1 :: .blk 2 1 :: ks) [(0, I n), (2, .ptr 0 0), (3, I r), (4, I y), (5, I m)] [.cells [I 0, I 0, I 0, I 0, I 0, I 0]]) =
   R K (.run 130 0 ks [(0, I n), (2, .ptr 0 0), (3, I (monthUp f y m r).2), (4, I y), (5, I (monthUp f y m r).1)] [.cells [I 0, I 0, I 0, I 0, I 0, I 0]])
  | 0, m, r, B, hB, hr, hl, _, _, _ => by simp only [restS] at hl; omega
  | f + 1, m, r, B, hB, hr, hl, hr4, hm0, hm => by
    have hB' := hB
    simp only [restS] at hl
    have e1 := r_md y m h0
    have e2 := md_wrap y m r hr hr4
    have e3 : wrapI .i64 (m + 1) = m + 1 := wrap_id (by omega) (by omega)
    have hp := md_pos y m
    by_cases h : mdS y m ≤ r
    · have e4 : decide (mdS y m ≤ r) = true := by simp [h]
      have ih := l_parts2 y n h0 ks f (m + 1) (r - mdS y m) B hB' (by omega) (by omega) (by omega) (by omega) (by omega)
      have e5 : monthUp (f + 1) y m r = monthUp f y (m + 1) (r - mdS y m) := by simp only [monthUp]; rw [if_pos h]
      rw [e5]
      unfold Loop at hB
      simp -implicitDefEqProofs only [go_sem, simprocAttr, Tryz.f130, loopOf] at hB
      subst hB
      rw [RL_eq]
      simp -implicitDefEqProofs only [go_sem, simprocAttr, e1, e2, e3, e4, ih]
    · have e4 : decide (mdS y m ≤ r) = false := by simpa using h
      have e5 : monthUp (f + 1) y m r = (m, r) := by simp only [monthUp]; rw [if_neg h]
      rw [e5]
      unfold Loop at hB
      simp -implicitDefEqProofs only [go_sem, simprocAttr, Tryz.f130, loopOf] at hB
      subst hB
      rw [RL_eq]
      simp -implicitDefEqProofs only [go_sem, simprocAttr, e1, e4]
theorem r_parts (n : Int) (h0 : 0 ≤ n) (h1 : n ≤ 253402300799) : R K (.call 130 [I n] []) = some (.agg ((dateS n).reverse.map I), []) := by
  have hb := date_bounds h0 h1
  have hs := year_spec (d := n / 86400) (by omega)
  have hlen := yd_next (yearS (n / 86400))
  have hlp := len_pos (yearS (n / 86400))
  have e1 : wrapI .i64 (n.tdiv 86400) = n / 86400 := by rw [td _ _ h0]; exact wrap_id (by omega) (by omega)
  have e7 : wrapI .i64 ((ymS n).2 + 1) = (ymS n).2 + 1 := by have := md_pos (yearS (n / 86400)) (ymS n).1; exact wrap_id (by omega) (by omega)
  have e8 : n.tmod 60 = n % 86400 % 60 := by rw [tm _ _ h0]; omega
  have e9 : wrapI .i64 (n.tdiv 60) = n / 60 := by rw [td _ _ h0]; exact wrap_id (by omega) (by omega)
  have e10 : (n / 60).tmod 60 = n % 86400 % 3600 / 60 := by rw [tm _ _ (by omega)]; omega
  have e11 : wrapI .i64 (n.tdiv 3600) = n / 3600 := by rw [td _ _ h0]; exact wrap_id (by omega) (by omega)
  have e12 : (n / 3600).tmod 24 = n % 86400 / 3600 := by rw [tm _ _ (by omega)]; omega
  have hm : monthUp 12 (yearS (n / 86400)) 1 (n / 86400 - ydS (yearS (n / 86400))) = ymS n := rfl
  have e13 : n / 86400 = n / 86400 - ydS 1970 := by rw [yd0]; omega
  rw [call_130]
  simp -implicitDefEqProofs only [go_sem, simprocAttr, Tryz.f130, e1]
  have l0 := l_parts0 (n / 86400) n (yearS (n / 86400)) hs.2.1 hs.2.2 hb.2.1 ⟨by omega, by omega⟩
  rw [show ((.int .i64 (n / 86400)) : AV) = I (n / 86400 - ydS 1970) from congrArg I e13]
  rw [l0 _ (yearS (n / 86400) - 1970).toNat 1970 _ ?_ (by omega) (by omega)]
  · simp -implicitDefEqProofs only [go_sem, simprocAttr]
    rw [l_parts2 (yearS (n / 86400)) n (by omega) _ 12 1 _ _ ?_ (by omega) (by rw [rest_len]; omega) (by omega) (by omega) (by omega), hm]
    · simp -implicitDefEqProofs only [go_sem, simprocAttr, e7, e8, e9, e10, e11, e12]
      rfl
    · rfl
  · rfl
theorem ahead_bounds (y : Int) : ∀ k : Nat, 0 ≤ aheadS k y ∧ aheadS k y ≤ 31 * k
  | 0 => by simp [aheadS]
  | k + 1 => by
    have ih := ahead_bounds y k
    have := md_pos y ((k + 1 : Nat) : Int)
    simp only [aheadS]
    omega
theorem l_Date (y m h mi s base : Int) (h0 : 0 ≤ y) (hm1 : 1 ≤ m) (hm2 : m ≤ 12) (hb : 0 ≤ base ∧ base ≤ 3000000) (ks : List It) : ∀ (j k : Nat) (B : Code), Loop Tryz.f183 0 B → ((k + j + 1 : Nat) : Int) = m →
   RL K (.run 183 0 (.code B :: .lp B (some ([0, 1, 3, 4, 5, 12, 13, 14], [])) 1 :: .blk 0 1 :: ks) [(0, I y), (1, I m), (3, I h), (4, I mi), (5, I s), (12, .ptr 0 0), (13, I (base + aheadS k y)), (14, I ((k + 1 : Nat) : Int))] [.cells [I 0, I 0, .str []]]) =
   R K (.run 183 0 ks [(3, I h), (4, I mi), (5, I s), (12, .ptr 0 0), (13, I (base + aheadS (m - 1).toNat y))] [.cells [I 0, I 0, .str []]])
  | 0, k, B, hB, hj => by
    have e1 : decide (((k + 1 : Nat) : Int) < m) = false := by simp; omega
    have e2 : (m - 1).toNat = k := by omega
    rw [e2]
    unfold Loop at hB
    simp -implicitDefEqProofs only [go_sem, simprocAttr, Tryz.f183, loopOf] at hB
    subst hB
    rw [RL_eq]
    simp -implicitDefEqProofs only [go_sem, simprocAttr, e1]
  | j + 1, k, B, hB, hj => by
    have hB' := hB
    have e1 : decide (((k + 1 : Nat) : Int) < m) = true := by rw [decide_eq_true_eq]; omega
    have e2 := c_md y ((k + 1 : Nat) : Int) h0
    have e3 : wrapI .i64 (((k + 1 : Nat) : Int) + 1) = ((k + 1 + 1 : Nat) : Int) := next_id (i := k + 1) (n := 1000) (by omega) (by omega)
    have ha := ahead_bounds y k
    have hp := md_pos y ((k + 1 : Nat) : Int)
    have e4 : wrapI .i64 (base + aheadS k y + mdS y ((k + 1 : Nat) : Int)) = base + aheadS (k + 1) y := by
      rw [wrap_id (by omega) (by omega)]; simp only [aheadS]; omega
    have ih := l_Date y m h mi s base h0 hm1 hm2 hb ks j (k + 1) B hB' (by omega)
    unfold Loop at hB
    simp -implicitDefEqProofs only [go_sem, simprocAttr, Tryz.f183, loopOf] at hB
    subst hB
    rw [RL_eq]
    simp -implicitDefEqProofs only [go_sem, simprocAttr, e1, e2, e3, e4, ih]
theorem l_Dated0 (y m h mi s base : Int) (h0 : 1970 ≤ y) (hy : y ≤ 9999) (hb : 0 ≤ base ∧ base ≤ 100) (ks : List It) : ∀ (j : Nat) (k : Int) (B : Code), Loop Tryz.f136 0 B → k + j = y → 1970 ≤ k →
   RL K (.run 136 0 (.code B :: .lp B (some ([0, 1, 3, 4, 5, 12, 13, 14], [])) 1 :: .blk 0 1 :: ks) [(0, I y), (1, I m), (3, I h), (4, I mi), (5, I s), (12, .ptr 0 0), (13, I (base + ydS k)), (14, I k)] [.cells [I 0, I 0, .str []]]) =
   R K (.run 136 0 ks [(0, I y), (1, I m), (3, I h), (4, I mi), (5, I s), (12, .ptr 0 0), (13, I (base + ydS y))] [.cells [I 0, I 0, .str []]])
  | 0, k, B, hB, hj, hk => by
    have hky : k = y := by omega
    subst hky
    have e1 : decide (k < k) = false := by simp
    unfold Loop at hB
    simp -implicitDefEqProofs only [go_sem, simprocAttr, Tryz.f136, loopOf] at hB
    subst hB
    rw [RL_eq]
    simp -implicitDefEqProofs only [go_sem, simprocAttr, e1]
  | j + 1, k, B, hB, hj, hk => by
    have hB' := hB
    have e1 : decide (k < y) = true := by rw [decide_eq_true_eq]; omega
    have e2 := r_yearDays k (by omega)
    have e3 : wrapI .i64 (k + 1) = k + 1 := wrap_id (by omega) (by omega)
    have en := yd_next k
    have el := len_pos k
    have et := yd_lt (y := k) (by omega)
    have e0 := yd_mono (y := 1970) (z := k) hk
    rw [yd0] at e0
    have e4 : wrapI .i64 (base + ydS k + lenS k) = base + ydS (k + 1) := by
      rw [wrap_id (by omega) (by omega)]; omega
    have ih := l_Dated0 y m h mi s base h0 hy hb ks j (k + 1) B hB' (by omega) (by omega)
    unfold Loop at hB
    simp -implicitDefEqProofs only [go_sem, simprocAttr, Tryz.f136, loopOf] at hB
    subst hB
    rw [RL_eq]
    simp -implicitDefEqProofs only [go_sem, simprocAttr, e1, e2, e3, e4, ih]
theorem l_Dated2 (y m h mi s base : Int) (h0 : 0 ≤ y) (hm1 : 1 ≤ m) (hm2 : m ≤ 12) (hb : 0 ≤ base ∧ base ≤ 3000000) (ks : List It) : ∀ (j k : Nat) (B : Code), Loop Tryz.f136 2 B → ((k + j + 1 : Nat) : Int) = m →
   RL K (.run 136 0 (.code B :: .lp B (some ([0, 1, 3, 4, 5, 12, 13, 15], [])) 1 :: .blk 2 1 :: ks) [(0, I y), (1, I m), (3, I h), (4, I mi), (5, I s), (12, .ptr 0 0), (13, I (base + aheadS k y)), (15, I ((k + 1 : Nat) : Int))] [.cells [I 0, I 0, .str []]]) =
   R K (.run 136 0 ks [(3, I h), (4, I mi), (5, I s), (12, .ptr 0 0), (13, I (base + aheadS (m - 1).toNat y))] [.cells [I 0, I 0, .str []]])
  | 0, k, B, hB, hj => by
    have e1 : decide (((k + 1 : Nat) : Int) < m) = false := by simp; omega
    have e2 : (m - 1).toNat = k := by omega
    rw [e2]
    unfold Loop at hB
    simp -implicitDefEqProofs only [go_sem, simprocAttr, Tryz.f136, loopOf] at hB
    subst hB
    rw [RL_eq]
    simp -implicitDefEqProofs only [go_sem, simprocAttr, e1]
  | j + 1, k, B, hB, hj => by
    have hB' := hB
    have e1 : decide (((k + 1 : Nat) : Int) < m) = true := by rw [decide_eq_true_eq]; omega
    have e2 := r_md y ((k + 1 : Nat) : Int) h0
    have e3 : wrapI .i64 (((k + 1 : Nat) : Int) + 1) = ((k + 1 + 1 : Nat) : Int) := next_id (i := k + 1) (n := 1000) (by omega) (by omega)
    have ha := ahead_bounds y k
    have hp := md_pos y ((k + 1 : Nat) : Int)
    have e4 : wrapI .i64 (base + aheadS k y + mdS y ((k + 1 : Nat) : Int)) = base + aheadS (k + 1) y := by
      rw [wrap_id (by omega) (by omega)]; simp only [aheadS]; omega
    have ih := l_Dated2 y m h mi s base h0 hm1 hm2 hb ks j (k + 1) B hB' (by omega)
    unfold Loop at hB
    simp -implicitDefEqProofs only [go_sem, simprocAttr, Tryz.f136, loopOf] at hB
    subst hB
    rw [RL_eq]
    simp -implicitDefEqProofs only [go_sem, simprocAttr, e1, e2, e3, e4, ih]
theorem wit_iff (x a b : Int) : within x a b = true ↔ a ≤ x ∧ x ≤ b := by simp [within]
theorem within_no {x a b : Int} (h : ¬ (a ≤ x ∧ x ≤ b)) : within x a b = false := by
  rw [Bool.eq_false_iff]; exact fun e => h ((wit_iff x a b).1 e)
theorem dateV_no {y m d h mi s : Int} (H : ¬ (1970 ≤ y ∧ y ≤ 9999 ∧ 1 ≤ m ∧ m ≤ 12 ∧ 1 ≤ d ∧ d ≤ mdS y m ∧ 0 ≤ h ∧ h ≤ 23 ∧ 0 ≤ mi ∧ mi ≤ 59 ∧ 0 ≤ s ∧ s ≤ 59)) : dateV y m d h mi s = null := if_neg H
theorem c_Date (y m d h mi s : Int) : R K (.call 183 [I y, I m, I d, I h, I mi, I s] []) = some (enc (dateV y m d h mi s), []) := by
  by_cases hy : ¬ (1970 ≤ y ∧ y ≤ 9999)
  · rw [dateV_no (by omega)]
    have w := within_no hy
    rw [call_183]
    simp -implicitDefEqProofs only [go_sem, simprocAttr, Tryz.f183, c_within, w]
    rfl
  have hy := Decidable.not_not.1 hy
  have wy := (wit_iff y 1970 9999).2 hy
  by_cases hm : ¬ (1 ≤ m ∧ m ≤ 12)
  · rw [dateV_no (by omega)]
    have w := within_no hm
    rw [call_183]
    simp -implicitDefEqProofs only [go_sem, simprocAttr, Tryz.f183, c_within, wy, w]
    rfl
  have hm := Decidable.not_not.1 hm
  have wm := (wit_iff m 1 12).2 hm
  have e1 := c_md y m (by omega)
  by_cases hd : ¬ (1 ≤ d ∧ d ≤ mdS y m)
  · rw [dateV_no (by omega)]
    have w := within_no hd
    rw [call_183]
    simp -implicitDefEqProofs only [go_sem, simprocAttr, Tryz.f183, c_within, wy, wm, e1, w]
    rfl
  have hd := Decidable.not_not.1 hd
  have wd := (wit_iff d 1 (mdS y m)).2 hd
  by_cases hh : ¬ (0 ≤ h ∧ h ≤ 23)
  · rw [dateV_no (by omega)]
    have w := within_no hh
    rw [call_183]
    simp -implicitDefEqProofs only [go_sem, simprocAttr, Tryz.f183, c_within, wy, wm, e1, wd, w]
    rfl
  have hh := Decidable.not_not.1 hh
  have wh := (wit_iff h 0 23).2 hh
  by_cases hi : ¬ (0 ≤ mi ∧ mi ≤ 59)
  · rw [dateV_no (by omega)]
    have w := within_no hi
    rw [call_183]
    simp -implicitDefEqProofs only [go_sem, simprocAttr, Tryz.f183, c_within, wy, wm, e1, wd, wh, w]
    rfl
  have hi := Decidable.not_not.1 hi
  have wi := (wit_iff mi 0 59).2 hi
  by_cases hs : ¬ (0 ≤ s ∧ s ≤ 59)
  · rw [dateV_no (by omega)]
    have w := within_no hs
    rw [call_183]
    simp -implicitDefEqProofs only [go_sem, simprocAttr, Tryz.f183, c_within, wy, wm, e1, wd, wh, wi, w]
    rfl
  have hs := Decidable.not_not.1 hs
  have ws := (wit_iff s 0 59).2 hs
  have hv : dateV y m d h mi s = numberS 4 (daysS y m d * 86400 + h * 3600 + mi * 60 + s) := if_pos ⟨hy.1, hy.2, hm.1, hm.2, hd.1, hd.2, hh.1, hh.2, hi.1, hi.2, hs.1, hs.2⟩
  have e0 := yd_mono (y := 1970) (z := y) hy.1
  rw [yd0] at e0
  have et := yd_lt hy.2
  have en := yd_next y
  have el := len_pos y
  have em := md_pos y m
  have ea := ahead_bounds y (m - 1).toNat
  have e2 := c_yd y (by omega) (by omega)
  have e3 : wrapI .i64 (ydS y + d) = ydS y + d := wrap_id (by omega) (by omega)
  have e4 : wrapI .i64 (ydS y + d - 1) = ydS y + d - 1 + aheadS 0 y := by rw [wrap_id (by omega) (by omega)]; simp [aheadS]
  have e5 : wrapI .i64 ((ydS y + d - 1 + aheadS (m - 1).toNat y) * 86400) = daysS y m d * 86400 := by rw [wrap_id (by omega) (by omega)]; unfold daysS; omega
  have e6 : wrapI .i64 (h * 3600) = h * 3600 := wrap_id (by omega) (by omega)
  have e7 : wrapI .i64 (daysS y m d * 86400 + h * 3600) = daysS y m d * 86400 + h * 3600 := wrap_id (by unfold daysS; omega) (by unfold daysS; omega)
  have e8 : wrapI .i64 (mi * 60) = mi * 60 := wrap_id (by omega) (by omega)
  have e9 : wrapI .i64 (daysS y m d * 86400 + h * 3600 + mi * 60) = daysS y m d * 86400 + h * 3600 + mi * 60 := wrap_id (by unfold daysS; omega) (by unfold daysS; omega)
  have e10 : wrapI .i64 (daysS y m d * 86400 + h * 3600 + mi * 60 + s) = daysS y m d * 86400 + h * 3600 + mi * 60 + s := wrap_id (by unfold daysS; omega) (by unfold daysS; omega)
  rw [hv]
  rw [call_183]
  simp -implicitDefEqProofs only [go_sem, simprocAttr, Tryz.f183, c_within, wy, wm, e1, wd, wh, wi, ws, e2, e3, e4]
  have ld := l_Date y m h mi s (ydS y + d - 1) (by omega) hm.1 hm.2 ⟨by omega, by omega⟩
  have ld := fun ks B hB => ld ks (m - 1).toNat 0 B hB (by omega)
  rw [show ((0 + 1 : Nat) : Int) = 1 from rfl] at ld
  rw [ld _ _ ?_]
  · simp -implicitDefEqProofs only [go_sem, simprocAttr, e5, e6, e7, e8, e9, e10, c_number]
  · rfl
theorem r_Dated (y m d h mi s : Int) : R K (.call 136 [I y, I m, I d, I h, I mi, I s] []) = some (enc (dateV y m d h mi s), []) := by
  by_cases hy : ¬ (1970 ≤ y ∧ y ≤ 9999)
  · rw [dateV_no (by omega)]
    have w := within_no hy
    rw [call_136]
    simp -implicitDefEqProofs only [go_sem, simprocAttr, Tryz.f136, r_within, w]
    rfl
  have hy := Decidable.not_not.1 hy
  have wy := (wit_iff y 1970 9999).2 hy
  by_cases hm : ¬ (1 ≤ m ∧ m ≤ 12)
  · rw [dateV_no (by omega)]
    have w := within_no hm
    rw [call_136]
    simp -implicitDefEqProofs only [go_sem, simprocAttr, Tryz.f136, r_within, wy, w]
    rfl
  have hm := Decidable.not_not.1 hm
  have wm := (wit_iff m 1 12).2 hm
  have e1 := r_md y m (by omega)
  by_cases hd : ¬ (1 ≤ d ∧ d ≤ mdS y m)
  · rw [dateV_no (by omega)]
    have w := within_no hd
    rw [call_136]
    simp -implicitDefEqProofs only [go_sem, simprocAttr, Tryz.f136, r_within, wy, wm, e1, w]
    rfl
  have hd := Decidable.not_not.1 hd
  have wd := (wit_iff d 1 (mdS y m)).2 hd
  by_cases hh : ¬ (0 ≤ h ∧ h ≤ 23)
  · rw [dateV_no (by omega)]
    have w := within_no hh
    rw [call_136]
    simp -implicitDefEqProofs only [go_sem, simprocAttr, Tryz.f136, r_within, wy, wm, e1, wd, w]
    rfl
  have hh := Decidable.not_not.1 hh
  have wh := (wit_iff h 0 23).2 hh
  by_cases hi : ¬ (0 ≤ mi ∧ mi ≤ 59)
  · rw [dateV_no (by omega)]
    have w := within_no hi
    rw [call_136]
    simp -implicitDefEqProofs only [go_sem, simprocAttr, Tryz.f136, r_within, wy, wm, e1, wd, wh, w]
    rfl
  have hi := Decidable.not_not.1 hi
  have wi := (wit_iff mi 0 59).2 hi
  by_cases hs : ¬ (0 ≤ s ∧ s ≤ 59)
  · rw [dateV_no (by omega)]
    have w := within_no hs
    rw [call_136]
    simp -implicitDefEqProofs only [go_sem, simprocAttr, Tryz.f136, r_within, wy, wm, e1, wd, wh, wi, w]
    rfl
  have hs := Decidable.not_not.1 hs
  have ws := (wit_iff s 0 59).2 hs
  have hv : dateV y m d h mi s = numberS 4 (daysS y m d * 86400 + h * 3600 + mi * 60 + s) := if_pos ⟨hy.1, hy.2, hm.1, hm.2, hd.1, hd.2, hh.1, hh.2, hi.1, hi.2, hs.1, hs.2⟩
  have e0 := yd_mono (y := 1970) (z := y) hy.1
  rw [yd0] at e0
  have et := yd_lt hy.2
  have en := yd_next y
  have el := len_pos y
  have em := md_pos y m
  have ea := ahead_bounds y (m - 1).toNat
  have e4 : wrapI .i64 (d - 1) = d - 1 + ydS 1970 := by rw [wrap_id (by omega) (by omega), yd0]; omega
  have e5 : d - 1 + ydS y = d - 1 + ydS y + aheadS 0 y := by simp [aheadS]
  have e6 : wrapI .i64 ((d - 1 + ydS y + aheadS (m - 1).toNat y) * 24) = daysS y m d * 24 := by rw [wrap_id (by omega) (by omega)]; unfold daysS; omega
  have e7 : wrapI .i64 (daysS y m d * 24 + h) = daysS y m d * 24 + h := wrap_id (by unfold daysS; omega) (by unfold daysS; omega)
  have e8 : wrapI .i64 ((daysS y m d * 24 + h) * 60) = daysS y m d * 1440 + h * 60 := by rw [wrap_id (by unfold daysS; omega) (by unfold daysS; omega)]; omega
  have e9 : wrapI .i64 (daysS y m d * 1440 + h * 60 + mi) = daysS y m d * 1440 + h * 60 + mi := wrap_id (by unfold daysS; omega) (by unfold daysS; omega)
  have e10 : wrapI .i64 ((daysS y m d * 1440 + h * 60 + mi) * 60) = daysS y m d * 86400 + h * 3600 + mi * 60 := by rw [wrap_id (by unfold daysS; omega) (by unfold daysS; omega)]; omega
  have e11 : wrapI .i64 (daysS y m d * 86400 + h * 3600 + mi * 60 + s) = daysS y m d * 86400 + h * 3600 + mi * 60 + s := wrap_id (by unfold daysS; omega) (by unfold daysS; omega)
  rw [hv]
  rw [call_136]
  simp -implicitDefEqProofs only [go_sem, simprocAttr, Tryz.f136, r_within, wy, wm, e1, wd, wh, wi, ws, e4]
  have l0 := l_Dated0 y m h mi s (d - 1) hy.1 hy.2 ⟨by omega, by omega⟩
  rw [l0 _ (y - 1970).toNat 1970 _ ?_ (by omega) (by omega)]
  · simp -implicitDefEqProofs only [go_sem, simprocAttr]
    rw [e5]
    have l2 := l_Dated2 y m h mi s (d - 1 + ydS y) (by omega) hm.1 hm.2 ⟨by omega, by omega⟩
    have l2 := fun ks B hB => l2 ks (m - 1).toNat 0 B hB (by omega)
    rw [show ((0 + 1 : Nat) : Int) = 1 from rfl] at l2
    rw [l2 _ _ ?_]
    · simp -implicitDefEqProofs only [go_sem, simprocAttr, e6, e7, e8, e9, e10, e11, r_moment]
    · rfl
  · rfl
theorem p_Itoa (n : Int) (h0 : -9223372036854775808 ≤ n) (h1 : n ≤ 9223372036854775807) : R K (.call 59 [I n] []) = some (.str (Lib.itoa n), []) :=
  R_prim (by show pItoa [I n] = _; simp only [pItoa]; rw [if_pos (by simp [fits, h0, h1])])
theorem p_Repeat (s : List UInt8) (c : Nat) (h : c ≤ 1000) (hs : s.length ≤ 1000) : R K (.call 103 [.str s, I (c : Int)] []) = some (.str (Lib.repeatL s c), []) :=
  R_prim (by
    show pRepeat [.str s, I (c : Int)] = _
    simp only [pRepeat]
    have : s.length * c ≤ 1000 * 1000 := Nat.mul_le_mul hs h
    rw [if_pos (by simp only [Bool.and_eq_true, decide_eq_true_eq, Int.toNat_natCast]; omega), Int.toNat_natCast])
theorem p_Bool (b : Bool) : R K (.call 58 [.bool b] []) = some (.str (Lib.formatBool b), []) := R_prim rfl
theorem p_Replace (s o n : List UInt8) (hs : s.length < 4294967281) (ho : 1 ≤ o.length) (hr : s.length + (s.length + 1) * n.length ≤ 140737488355328) : R K (.call 60 [.str s, .str o, .str n] []) = some (.str (Lib.replaceAll s o n), []) :=
  R_prim (by
    show pReplaceAll [.str s, .str o, .str n] = _
    simp only [pReplaceAll]
    have h1 : Lib.countB ⟨s.toArray⟩ ⟨o.toArray⟩ ≤ s.length + 1 := Lib.count_le s o
    have h2 : Lib.countB ⟨s.toArray⟩ ⟨o.toArray⟩ * n.length ≤ (s.length + 1) * n.length := Nat.mul_le_mul h1 (Nat.le_refl _)
    rw [if_pos (by simp only [Bool.and_eq_true, decide_eq_true_eq]; omega)])
theorem replaceK_len (o n : List UInt8) : ∀ (k : Nat) (s : List UInt8), (Lib.replaceK o n k s).length ≤ s.length + k * n.length
  | 0, s => by simp [Lib.replaceK]
  | k + 1, s => by
    simp only [Lib.replaceK]
    split
    · omega
    · have ih := replaceK_len o n k (s.drop ((Lib.index s o).toNat + o.length))
      simp only [List.length_append, List.length_take, List.length_drop] at ih ⊢
      rw [Nat.succ_mul]
      omega
theorem replace_len (s o n : List UInt8) : (Lib.replaceAll s o n).length ≤ s.length + (s.length + 1) * n.length := by
  unfold Lib.replaceAll Lib.replace
  split
  · omega
  · have h1 := replaceK_len o n (Lib.replaceNum s o (-1)) s
    have h2 : Lib.replaceNum s o (-1) ≤ s.length + 1 := by
      unfold Lib.replaceNum
      rw [if_pos (.inl (by omega))]
      exact Lib.count_le s o
    have h3 : Lib.replaceNum s o (-1) * n.length ≤ (s.length + 1) * n.length := Nat.mul_le_mul h2 (Nat.le_refl _)
    omega
theorem nDigits_le : ∀ (d u : Nat), u < 10 ^ (d + 1) → Lib.nDigits u ≤ d + 1
  | 0, u, h => by rw [Lib.nDigits_small (by simpa using h)]; omega
  | d + 1, u, h => by
    by_cases hu : u < 10
    · rw [Lib.nDigits_small hu]; omega
    · rw [Lib.nDigits_big hu]
      have := nDigits_le d (u / 10) (by rw [Nat.pow_succ] at h; omega)
      omega
theorem itoa_len {n : Int} (d : Nat) (h0 : 0 ≤ n) (h : n < 10 ^ (d + 1)) : (Lib.itoa n).length ≤ d + 1 := by
  obtain ⟨u, rfl⟩ : ∃ u : Nat, n = u := ⟨n.toNat, by omega⟩
  rw [Lib.itoa_nonneg, Lib.decDigits_length]
  exact nDigits_le d u (by exact_mod_cast h)
theorem pad_len {n : Int} {d : Nat} (h : (Lib.itoa n).length ≤ d) : (padS n d).length = d := by
  unfold padS
  rw [List.length_append, Lib.repeatL_length, List.length_singleton]
  omega
theorem c_padded (n : Int) (d : Nat) (h0 : 0 ≤ n) (h1 : n ≤ 1000000) (hd : d ≤ 100) : R K (.call 128 [I n, I (d : Int)] []) = some (.str (padS n d), []) := by
  have hl := Lib.itoa_length_le n (by omega) (by omega)
  have e1 := p_Itoa n (by omega) (by omega)
  have e2 : wrapI .i64 ((d : Int) - ((Lib.itoa n).length : Int)) = (d : Int) - ((Lib.itoa n).length : Int) := wrap_id (by omega) (by omega)
  have e3 : (if (d : Int) - ((Lib.itoa n).length : Int) < 0 then 0 else (d : Int) - ((Lib.itoa n).length : Int)) = ((d - (Lib.itoa n).length : Nat) : Int) := by split <;> omega
  have e4 := p_Repeat [48] (d - (Lib.itoa n).length) (by omega) (by simp)
  have e5 : ((Lib.repeatL [48] (d - (Lib.itoa n).length)).length + (Lib.itoa n).length ≤ strMax) = True := by
    rw [Lib.repeatL_length]; unfold strMax; simp; omega
  rw [call_128]
  simp -implicitDefEqProofs only [go_sem, simprocAttr, Tryz.f128, e1, e2, e3, e4, e5]
  rfl
theorem r_padded (n : Int) (d : Nat) (h0 : 0 ≤ n) (h1 : n ≤ 1000000) (hd : d ≤ 100) : R K (.call 131 [I n, I (d : Int)] []) = some (.str (padS n d), []) := by
  have hl := Lib.itoa_length_le n (by omega) (by omega)
  have e1 := p_Itoa n (by omega) (by omega)
  have e2 : wrapI .i64 ((d : Int) - ((Lib.itoa n).length : Int)) = (d : Int) - ((Lib.itoa n).length : Int) := wrap_id (by omega) (by omega)
  have e3 : (if (d : Int) - ((Lib.itoa n).length : Int) < 0 then 0 else (d : Int) - ((Lib.itoa n).length : Int)) = ((d - (Lib.itoa n).length : Nat) : Int) := by split <;> omega
  have e4 := p_Repeat [48] (d - (Lib.itoa n).length) (by omega) (by simp)
  have e5 : ((Lib.repeatL [48] (d - (Lib.itoa n).length)).length + (Lib.itoa n).length ≤ strMax) = True := by
    rw [Lib.repeatL_length]; unfold strMax; simp; omega
  rw [call_131]
  simp -implicitDefEqProofs only [go_sem, simprocAttr, Tryz.f131, e1, e2, e3, e4, e5]
  rfl
theorem small_str (k : Nat) (h : k ≤ 1000) : (k ≤ strMax) = True := by unfold strMax; simp; omega
theorem date_lens {n : Int} (h0 : 0 ≤ n) (h1 : n ≤ 253402300799) : (padS (yearS (n / 86400)) 4).length = 4 ∧ (padS (ymS n).1 2).length = 2 ∧ (padS ((ymS n).2 + 1) 2).length = 2 ∧ (padS (n % 86400 / 3600) 2).length = 2 ∧ (padS (n % 86400 % 3600 / 60) 2).length = 2 ∧ (padS (n % 86400 % 60) 2).length = 2 := by
  have hb := date_bounds h0 h1
  have hm := md_pos (yearS (n / 86400)) (ymS n).1
  exact ⟨pad_len (itoa_len 3 (by omega) (by omega)), pad_len (itoa_len 1 (by omega) (by omega)), pad_len (itoa_len 1 (by omega) (by omega)), pad_len (itoa_len 1 (by omega) (by omega)), pad_len (itoa_len 1 (by omega) (by omega)), pad_len (itoa_len 1 (by omega) (by omega))⟩
theorem dtext_len {n : Int} (h0 : 0 ≤ n) (h1 : n ≤ 253402300799) : (dtextS n).length = 19 := by
  obtain ⟨l1, l2, l3, l4, l5, l6⟩ := date_lens h0 h1
  unfold dtextS
  simp only [List.length_append, l1, l2, l3, l4, l5, l6, List.length_cons, List.length_nil]
theorem c_dateText (n : Int) (h0 : 0 ≤ n) (h1 : n ≤ 253402300799) : R K (.call 61 [I n] []) = some (.str (dtextS n), []) := by
  have hb := date_bounds h0 h1
  have hm := md_pos (yearS (n / 86400)) (ymS n).1
  have e1 := c_dateOf n h0 h1
  simp only [dateS, List.map_cons, List.map_nil] at e1
  have a1 := c_padded (yearS (n / 86400)) 4 (by omega) (by omega) (by omega)
  have a2 := c_padded (ymS n).1 2 (by omega) (by omega) (by omega)
  have a3 := c_padded ((ymS n).2 + 1) 2 (by omega) (by omega) (by omega)
  have a4 := c_padded (n % 86400 / 3600) 2 (by omega) (by omega) (by omega)
  have a5 := c_padded (n % 86400 % 3600 / 60) 2 (by omega) (by omega) (by omega)
  have a6 := c_padded (n % 86400 % 60) 2 (by omega) (by omega) (by omega)
  simp only [Int.cast_ofNat_Int] at a1 a2 a3 a4 a5 a6
  obtain ⟨l1, l2, l3, l4, l5, l6⟩ := date_lens h0 h1
  rw [call_61]
  simp -implicitDefEqProofs only [go_sem, simprocAttr, Tryz.f61, e1, a1, a2, a3, a4, a5, a6, l1, l2, l3, l4, l5, l6, small_str]
  rfl
theorem r_MomentText (n : Int) (h0 : 0 ≤ n) (h1 : n ≤ 253402300799) : R K (.call 63 [I n] []) = some (.str (dtextS n), []) := by
  have hb := date_bounds h0 h1
  have hm := md_pos (yearS (n / 86400)) (ymS n).1
  have e1 := r_parts n h0 h1
  simp only [dateS, List.reverse_cons, List.reverse_nil, List.nil_append, List.cons_append, List.map_cons, List.map_nil] at e1
  have a1 := r_padded (yearS (n / 86400)) 4 (by omega) (by omega) (by omega)
  have a2 := r_padded (ymS n).1 2 (by omega) (by omega) (by omega)
  have a3 := r_padded ((ymS n).2 + 1) 2 (by omega) (by omega) (by omega)
  have a4 := r_padded (n % 86400 / 3600) 2 (by omega) (by omega) (by omega)
  have a5 := r_padded (n % 86400 % 3600 / 60) 2 (by omega) (by omega) (by omega)
  have a6 := r_padded (n % 86400 % 60) 2 (by omega) (by omega) (by omega)
  simp only [Int.cast_ofNat_Int] at a1 a2 a3 a4 a5 a6
  obtain ⟨l1, l2, l3, l4, l5, l6⟩ := date_lens h0 h1
  rw [call_63]
  simp -implicitDefEqProofs only [go_sem, simprocAttr, Tryz.f63, e1, a1, a2, a3, a4, a5, a6, l1, l2, l3, l4, l5, l6, small_str]
  rfl
theorem plain_moment {v : Val} (h : (plainV v).k = 4) : 0 ≤ (plainV v).n ∧ (plainV v).n ≤ 253402300799 := by
  have hr := plain_right v
  simp only [rightS, rangeS, Bool.and_eq_true, h] at hr
  have h2 := hr.2.2
  simp [within] at h2
  exact h2
theorem plain_kinds (v : Val) : (plainV v).k = 0 ∨ (plainV v).k = 1 ∨ (plainV v).k = 2 ∨ (plainV v).k = 3 ∨ (plainV v).k = 4 := by
  have hr := plain_right v
  simp only [rightS, formS, Bool.and_eq_true] at hr
  have h1 := hr.1
  split at h1
  · rename_i h; exact .inl h
  · split at h1
    · rename_i h; exact .inr (.inr (.inr (.inl h)))
    · simp only [within, Bool.and_eq_true, decide_eq_true_eq] at h1; omega
theorem small_str2 (a b : Nat) (h : a + b ≤ 100000) : (a + b ≤ strMax) = True := by unfold strMax; simp; omega
theorem c_Show (k n : Int) (s : List UInt8) : R K (.call 13 [V k n s] []) = some (.str (showS ⟨k, n, s⟩), []) := by
  generalize hv : (⟨k, n, s⟩ : Val) = v
  have hp := c_plain k n s
  rw [hv] at hp
  rcases plain_kinds v with h | h | h | h | h
  · have e : showS v = bNull := by simp [showS, h]
    rw [e]
    rw [call_13]
    simp -implicitDefEqProofs only [go_sem, simprocAttr, Tryz.f13, hp, h]
  · have e : showS v = Lib.formatBool ((plainV v).n == 1) := by simp [showS, h]
    rw [e]
    have hb := p_Bool ((plainV v).n == 1)
    rw [call_13]
    simp -implicitDefEqProofs only [go_sem, simprocAttr, Tryz.f13, hp, h, hb]
  · have e : showS v = Lib.itoa (plainV v).n := by simp [showS, h]
    rw [e]
    have hb := right_bounds v
    have hi := p_Itoa (plainV v).n (by have := hb.2.1; omega) (by have := hb.2.1; omega)
    rw [call_13]
    simp -implicitDefEqProofs only [go_sem, simprocAttr, Tryz.f13, hp, h, hi]
  · have e : showS v = [39] ++ Lib.replaceAll (plainV v).s [39] [39, 39] ++ [39] := by simp [showS, h]
    rw [e]
    have hl := (plain3 v h).1
    have hr := p_Replace (plainV v).s [39] [39, 39] (by omega) (by simp) (by simp; omega)
    have hn := replace_len (plainV v).s [39] [39, 39]
    simp only [List.length_cons, List.length_nil] at hn
    have q1 := small_str2 1 (Lib.replaceAll (plainV v).s [39] [39, 39]).length (by omega)
    have q2 := small_str2 (Lib.replaceAll (plainV v).s [39] [39, 39]).length 1 (by omega)
    have q3 := small_str2 ((Lib.replaceAll (plainV v).s [39] [39, 39]).length + 1) 1 (by omega)
    rw [call_13]
    simp -implicitDefEqProofs only [go_sem, simprocAttr, Tryz.f13, hp, h, hr, q1, q2, q3]
  · have e : showS v = [64] ++ dtextS (plainV v).n := by simp [showS, h]
    rw [e]
    have hb := plain_moment h
    have hd := c_dateText (plainV v).n hb.1 hb.2
    have hl := dtext_len hb.1 hb.2
    rw [call_13]
    simp -implicitDefEqProofs only [go_sem, simprocAttr, Tryz.f13, hp, h, hd, hl, small_str]
theorem r_Shown (k n : Int) (s : List UInt8) : R K (.call 14 [V k n s] []) = some (.str (showS ⟨k, n, s⟩), []) := by
  generalize hv : (⟨k, n, s⟩ : Val) = v
  have hp := r_right k n s
  rw [hv] at hp
  rcases plain_kinds v with h | h | h | h | h
  · have e : showS v = bNull := by simp [showS, h]
    rw [e]
    rw [call_14]
    simp -implicitDefEqProofs only [go_sem, simprocAttr, Tryz.f14, hp, h]
  · have e : showS v = Lib.formatBool ((plainV v).n == 1) := by simp [showS, h]
    rw [e]
    have hb := p_Bool ((plainV v).n == 1)
    rw [call_14]
    simp -implicitDefEqProofs only [go_sem, simprocAttr, Tryz.f14, hp, h, hb]
  · have e : showS v = Lib.itoa (plainV v).n := by simp [showS, h]
    rw [e]
    have hb := right_bounds v
    have hi := p_Itoa (plainV v).n (by have := hb.2.1; omega) (by have := hb.2.1; omega)
    rw [call_14]
    simp -implicitDefEqProofs only [go_sem, simprocAttr, Tryz.f14, hp, h, hi]
  · have e : showS v = [39] ++ Lib.replaceAll (plainV v).s [39] [39, 39] ++ [39] := by simp [showS, h]
    rw [e]
    have hl := (plain3 v h).1
    have hr := p_Replace (plainV v).s [39] [39, 39] (by omega) (by simp) (by simp; omega)
    have hn := replace_len (plainV v).s [39] [39, 39]
    simp only [List.length_cons, List.length_nil] at hn
    have q1 := small_str2 1 (Lib.replaceAll (plainV v).s [39] [39, 39]).length (by omega)
    have q2 := small_str2 (Lib.replaceAll (plainV v).s [39] [39, 39]).length 1 (by omega)
    have q3 := small_str2 ((Lib.replaceAll (plainV v).s [39] [39, 39]).length + 1) 1 (by omega)
    rw [call_14]
    simp -implicitDefEqProofs only [go_sem, simprocAttr, Tryz.f14, hp, h, hr, q1, q2, q3]
  · have e : showS v = [64] ++ dtextS (plainV v).n := by simp [showS, h]
    rw [e]
    have hb := plain_moment h
    have hd := r_MomentText (plainV v).n hb.1 hb.2
    have hl := dtext_len hb.1 hb.2
    rw [call_14]
    simp -implicitDefEqProofs only [go_sem, simprocAttr, Tryz.f14, hp, h, hd, hl, small_str]
theorem small_room (k : Nat) (h : k ≤ 1000) : (k ≤ roomMax) = True := by unfold roomMax; simp; omega
theorem p_Atoi_ok (s : List UInt8) (v : Int) (hl : s.length ≤ 281474976710656) (h : atoiN s = some v) : R K (.call 118 [.str s] []) = some (.tup [I v, .nili], []) :=
  R_prim (by
    show pAtoi [.str s] = _
    simp only [pAtoi]
    rw [if_pos (by simpa using hl)]
    unfold atoiN at h
    cases ha : Lib.atoiAll s with
    | ok u => rw [ha] at h; simp only [Option.some.injEq] at h; rw [h]
    | _ => rw [ha] at h; simp at h)
theorem p_Atoi_no (s : List UInt8) (hl : s.length ≤ 281474976710656) (h : atoiN s = none) : ∃ z : Int, R K (.call 118 [.str s] []) = some (.tup [I z, .iface 207 .any], []) := by
  unfold atoiN at h
  cases ha : Lib.atoiAll s with
  | ok u => rw [ha] at h; simp at h
  | range =>
    refine ⟨Lib.atoiSat s, R_prim ?_⟩
    show pAtoi [.str s] = _
    simp only [pAtoi, ha]
    rw [if_pos (by simpa using hl)]
  | _ =>
    refine ⟨0, R_prim ?_⟩
    show pAtoi [.str s] = _
    simp only [pAtoi, ha]
    rw [if_pos (by simpa using hl)]
theorem six_no {s : List UInt8} (h : atoiN (List.take 4 s) = none ∨ atoiN (List.take 2 (List.drop 5 s)) = none ∨ atoiN (List.take 2 (List.drop 8 s)) = none ∨ atoiN (List.take 2 (List.drop 11 s)) = none ∨ atoiN (List.take 2 (List.drop 14 s)) = none ∨ atoiN (List.take 2 (List.drop 17 s)) = none) : dreadS s = null := by
  have e : sixS s = none := by
    unfold sixS
    simp only [cut, List.drop_zero, Nat.reduceSub, Nat.sub_zero]
    rcases h with h | h | h | h | h | h <;> rw [h] <;> simp
  unfold dreadS
  split
  · rw [e]
  · rfl
theorem six_yes {s : List UInt8} {a b c d e f : Int} (h1 : atoiN (List.take 4 s) = some a) (h2 : atoiN (List.take 2 (List.drop 5 s)) = some b) (h3 : atoiN (List.take 2 (List.drop 8 s)) = some c) (h4 : atoiN (List.take 2 (List.drop 11 s)) = some d) (h5 : atoiN (List.take 2 (List.drop 14 s)) = some e) (h6 : atoiN (List.take 2 (List.drop 17 s)) = some f) : sixS s = some (a, b, c, d, e, f) := by
  unfold sixS
  simp only [cut, List.drop_zero, Nat.reduceSub, Nat.sub_zero, h1, h2, h3, h4, h5, h6]
theorem right_moment {v : Val} (hk : v.k = 4) (hr : rightS v = true) : 0 ≤ v.n ∧ v.n ≤ 253402300799 := by
  have := plain_moment (v := v) (by rw [plain_of_right hr]; exact hk)
  rwa [plain_of_right hr] at this
theorem c_dateRead (s : List UInt8) : R K (.call 117 [.str s] []) = some (enc (dreadS s), []) := by
  by_cases hs : s.length = 19
  rotate_left
  · have e : dreadS s = null := if_neg hs
    have hb : (((s.length : Nat) : Int) != 19) = true := by simpa using (fun h => hs (by omega) : ¬ ((s.length : Nat) : Int) = 19)
    rw [e]
    rw [call_117]
    simp -implicitDefEqProofs only [go_sem, simprocAttr, Tryz.f117, hb]
    rfl
  have hsI : ((s.length : Nat) : Int) = 19 := by omega
  have lt : ∀ (k : Nat) (l : List UInt8), (List.take k l).length ≤ 281474976710656 ∨ 281474976710656 < k := fun k l => by
    rcases Nat.lt_or_ge 281474976710656 k with h | h
    · exact .inr h
    · exact .inl (Nat.le_trans (List.length_take_le _ _) h)
  cases h0 : atoiN (List.take 4 s) with
  | none =>
    have e := six_no (s := s) (.inl h0)
    obtain ⟨z, a0⟩ := p_Atoi_no (List.take 4 s) ((lt _ _).resolve_right (by omega)) h0
    rw [e]
    rw [call_117]
    simp -implicitDefEqProofs only [go_sem, simprocAttr, Tryz.f117, hs, hsI]
    rw [RL_eq]
    simp -implicitDefEqProofs only [go_sem, simprocAttr, hs, hsI, at?, small_room, a0]
    rfl
  | some n0 =>
    have a0 := p_Atoi_ok (List.take 4 s) n0 ((lt _ _).resolve_right (by omega)) h0
    cases h1 : atoiN (List.take 2 (List.drop 5 s)) with
    | none =>
      have e := six_no (s := s) (.inr (.inl h1))
      obtain ⟨z, a1⟩ := p_Atoi_no (List.take 2 (List.drop 5 s)) ((lt _ _).resolve_right (by omega)) h1
      rw [e]
      rw [call_117]
      simp -implicitDefEqProofs only [go_sem, simprocAttr, Tryz.f117, hs, hsI]
      rw [RL_eq]
      simp -implicitDefEqProofs only [go_sem, simprocAttr, hs, hsI, at?, small_room, a0, a1]
      rw [RL_eq]
      simp -implicitDefEqProofs only [go_sem, simprocAttr, hs, hsI, at?, small_room, a0, a1]
      rfl
    | some n1 =>
      have a1 := p_Atoi_ok (List.take 2 (List.drop 5 s)) n1 ((lt _ _).resolve_right (by omega)) h1
      cases h2 : atoiN (List.take 2 (List.drop 8 s)) with
      | none =>
        have e := six_no (s := s) (.inr (.inr (.inl h2)))
        obtain ⟨z, a2⟩ := p_Atoi_no (List.take 2 (List.drop 8 s)) ((lt _ _).resolve_right (by omega)) h2
        rw [e]
        rw [call_117]
        simp -implicitDefEqProofs only [go_sem, simprocAttr, Tryz.f117, hs, hsI]
        rw [RL_eq]
        simp -implicitDefEqProofs only [go_sem, simprocAttr, hs, hsI, at?, small_room, a0, a1, a2]
        rw [RL_eq]
        simp -implicitDefEqProofs only [go_sem, simprocAttr, hs, hsI, at?, small_room, a0, a1, a2]
        rw [RL_eq]
        simp -implicitDefEqProofs only [go_sem, simprocAttr, hs, hsI, at?, small_room, a0, a1, a2]
        rfl
      | some n2 =>
        have a2 := p_Atoi_ok (List.take 2 (List.drop 8 s)) n2 ((lt _ _).resolve_right (by omega)) h2
        cases h3 : atoiN (List.take 2 (List.drop 11 s)) with
        | none =>
          have e := six_no (s := s) (.inr (.inr (.inr (.inl h3))))
          obtain ⟨z, a3⟩ := p_Atoi_no (List.take 2 (List.drop 11 s)) ((lt _ _).resolve_right (by omega)) h3
          rw [e]
          rw [call_117]
          simp -implicitDefEqProofs only [go_sem, simprocAttr, Tryz.f117, hs, hsI]
          rw [RL_eq]
          simp -implicitDefEqProofs only [go_sem, simprocAttr, hs, hsI, at?, small_room, a0, a1, a2, a3]
          rw [RL_eq]
          simp -implicitDefEqProofs only [go_sem, simprocAttr, hs, hsI, at?, small_room, a0, a1, a2, a3]
          rw [RL_eq]
          simp -implicitDefEqProofs only [go_sem, simprocAttr, hs, hsI, at?, small_room, a0, a1, a2, a3]
          rw [RL_eq]
          simp -implicitDefEqProofs only [go_sem, simprocAttr, hs, hsI, at?, small_room, a0, a1, a2, a3]
          rfl
        | some n3 =>
          have a3 := p_Atoi_ok (List.take 2 (List.drop 11 s)) n3 ((lt _ _).resolve_right (by omega)) h3
          cases h4 : atoiN (List.take 2 (List.drop 14 s)) with
          | none =>
            have e := six_no (s := s) (.inr (.inr (.inr (.inr (.inl h4)))))
            obtain ⟨z, a4⟩ := p_Atoi_no (List.take 2 (List.drop 14 s)) ((lt _ _).resolve_right (by omega)) h4
            rw [e]
            rw [call_117]
            simp -implicitDefEqProofs only [go_sem, simprocAttr, Tryz.f117, hs, hsI]
            rw [RL_eq]
            simp -implicitDefEqProofs only [go_sem, simprocAttr, hs, hsI, at?, small_room, a0, a1, a2, a3, a4]
            rw [RL_eq]
            simp -implicitDefEqProofs only [go_sem, simprocAttr, hs, hsI, at?, small_room, a0, a1, a2, a3, a4]
            rw [RL_eq]
            simp -implicitDefEqProofs only [go_sem, simprocAttr, hs, hsI, at?, small_room, a0, a1, a2, a3, a4]
            rw [RL_eq]
            simp -implicitDefEqProofs only [go_sem, simprocAttr, hs, hsI, at?, small_room, a0, a1, a2, a3, a4]
            rw [RL_eq]
            simp -implicitDefEqProofs only [go_sem, simprocAttr, hs, hsI, at?, small_room, a0, a1, a2, a3, a4]
            rfl
          | some n4 =>
            have a4 := p_Atoi_ok (List.take 2 (List.drop 14 s)) n4 ((lt _ _).resolve_right (by omega)) h4
            cases h5 : atoiN (List.take 2 (List.drop 17 s)) with
            | none =>
              have e := six_no (s := s) (.inr (.inr (.inr (.inr (.inr h5)))))
              obtain ⟨z, a5⟩ := p_Atoi_no (List.take 2 (List.drop 17 s)) ((lt _ _).resolve_right (by omega)) h5
              rw [e]
              rw [call_117]
              simp -implicitDefEqProofs only [go_sem, simprocAttr, Tryz.f117, hs, hsI]
              rw [RL_eq]
              simp -implicitDefEqProofs only [go_sem, simprocAttr, hs, hsI, at?, small_room, a0, a1, a2, a3, a4, a5]
              rw [RL_eq]
              simp -implicitDefEqProofs only [go_sem, simprocAttr, hs, hsI, at?, small_room, a0, a1, a2, a3, a4, a5]
              rw [RL_eq]
              simp -implicitDefEqProofs only [go_sem, simprocAttr, hs, hsI, at?, small_room, a0, a1, a2, a3, a4, a5]
              rw [RL_eq]
              simp -implicitDefEqProofs only [go_sem, simprocAttr, hs, hsI, at?, small_room, a0, a1, a2, a3, a4, a5]
              rw [RL_eq]
              simp -implicitDefEqProofs only [go_sem, simprocAttr, hs, hsI, at?, small_room, a0, a1, a2, a3, a4, a5]
              rw [RL_eq]
              simp -implicitDefEqProofs only [go_sem, simprocAttr, hs, hsI, at?, small_room, a0, a1, a2, a3, a4, a5]
              rfl
            | some n5 =>
              have a5 := p_Atoi_ok (List.take 2 (List.drop 17 s)) n5 ((lt _ _).resolve_right (by omega)) h5
              have hsix := six_yes h0 h1 h2 h3 h4 h5
              have hv : dreadS s = if (dateV n0 n1 n2 n3 n4 n5).k = 0 ∨ dtextS (dateV n0 n1 n2 n3 n4 n5).n ≠ s then null else dateV n0 n1 n2 n3 n4 n5 := by unfold dreadS; rw [if_pos hs, hsix]
              have hd := c_Date n0 n1 n2 n3 n4 n5
              rcases date_cases n0 n1 n2 n3 n4 n5 with hc | ⟨hk, hss, hr⟩
              · rw [hc] at hv hd
                have hv : dreadS s = null := by rw [hv]; rfl
                rw [hv]
                have kn : null.k = 0 := rfl
                rw [call_117]
                simp -implicitDefEqProofs only [go_sem, simprocAttr, Tryz.f117, hs, hsI]
                rw [RL_eq]
                simp -implicitDefEqProofs only [go_sem, simprocAttr, hs, hsI, at?, small_room, a0, a1, a2, a3, a4, a5]
                rw [RL_eq]
                simp -implicitDefEqProofs only [go_sem, simprocAttr, hs, hsI, at?, small_room, a0, a1, a2, a3, a4, a5]
                rw [RL_eq]
                simp -implicitDefEqProofs only [go_sem, simprocAttr, hs, hsI, at?, small_room, a0, a1, a2, a3, a4, a5]
                rw [RL_eq]
                simp -implicitDefEqProofs only [go_sem, simprocAttr, hs, hsI, at?, small_room, a0, a1, a2, a3, a4, a5]
                rw [RL_eq]
                simp -implicitDefEqProofs only [go_sem, simprocAttr, hs, hsI, at?, small_room, a0, a1, a2, a3, a4, a5]
                rw [RL_eq]
                simp -implicitDefEqProofs only [go_sem, simprocAttr, hs, hsI, at?, small_room, a0, a1, a2, a3, a4, a5]
                rw [RL_eq]
                simp -implicitDefEqProofs only [go_sem, simprocAttr, hs, hsI, at?, small_room, a0, a1, a2, a3, a4, a5, hd, kn]
                all_goals rfl
              · have hb := right_moment hk hr
                have ht := c_dateText (dateV n0 n1 n2 n3 n4 n5).n hb.1 hb.2
                by_cases hq : dtextS (dateV n0 n1 n2 n3 n4 n5).n = s
                · have hv : dreadS s = dateV n0 n1 n2 n3 n4 n5 := by rw [hv, if_neg (fun h => h.elim (fun h => by rw [hk] at h; simp at h) (fun h => h hq))]
                  have hq2 : (dtextS (dateV n0 n1 n2 n3 n4 n5).n == s) = true := by simp [hq]
                  rw [hv]
                  rw [call_117]
                  simp -implicitDefEqProofs only [go_sem, simprocAttr, Tryz.f117, hs, hsI]
                  rw [RL_eq]
                  simp -implicitDefEqProofs only [go_sem, simprocAttr, hs, hsI, at?, small_room, a0, a1, a2, a3, a4, a5]
                  rw [RL_eq]
                  simp -implicitDefEqProofs only [go_sem, simprocAttr, hs, hsI, at?, small_room, a0, a1, a2, a3, a4, a5]
                  rw [RL_eq]
                  simp -implicitDefEqProofs only [go_sem, simprocAttr, hs, hsI, at?, small_room, a0, a1, a2, a3, a4, a5]
                  rw [RL_eq]
                  simp -implicitDefEqProofs only [go_sem, simprocAttr, hs, hsI, at?, small_room, a0, a1, a2, a3, a4, a5]
                  rw [RL_eq]
                  simp -implicitDefEqProofs only [go_sem, simprocAttr, hs, hsI, at?, small_room, a0, a1, a2, a3, a4, a5]
                  rw [RL_eq]
                  simp -implicitDefEqProofs only [go_sem, simprocAttr, hs, hsI, at?, small_room, a0, a1, a2, a3, a4, a5]
                  rw [RL_eq]
                  simp -implicitDefEqProofs only [go_sem, simprocAttr, hs, hsI, at?, small_room, a0, a1, a2, a3, a4, a5, hd, hk, ht, hq2]
                · have hv : dreadS s = null := by rw [hv, if_pos (.inr hq)]
                  have hq2 : (dtextS (dateV n0 n1 n2 n3 n4 n5).n == s) = false := by simpa using hq
                  rw [hv]
                  rw [call_117]
                  simp -implicitDefEqProofs only [go_sem, simprocAttr, Tryz.f117, hs, hsI]
                  rw [RL_eq]
                  simp -implicitDefEqProofs only [go_sem, simprocAttr, hs, hsI, at?, small_room, a0, a1, a2, a3, a4, a5]
                  rw [RL_eq]
                  simp -implicitDefEqProofs only [go_sem, simprocAttr, hs, hsI, at?, small_room, a0, a1, a2, a3, a4, a5]
                  rw [RL_eq]
                  simp -implicitDefEqProofs only [go_sem, simprocAttr, hs, hsI, at?, small_room, a0, a1, a2, a3, a4, a5]
                  rw [RL_eq]
                  simp -implicitDefEqProofs only [go_sem, simprocAttr, hs, hsI, at?, small_room, a0, a1, a2, a3, a4, a5]
                  rw [RL_eq]
                  simp -implicitDefEqProofs only [go_sem, simprocAttr, hs, hsI, at?, small_room, a0, a1, a2, a3, a4, a5]
                  rw [RL_eq]
                  simp -implicitDefEqProofs only [go_sem, simprocAttr, hs, hsI, at?, small_room, a0, a1, a2, a3, a4, a5]
                  rw [RL_eq]
                  simp -implicitDefEqProofs only [go_sem, simprocAttr, hs, hsI, at?, small_room, a0, a1, a2, a3, a4, a5, hd, hk, ht, hq2]
                  rfl
end Go.Ab
