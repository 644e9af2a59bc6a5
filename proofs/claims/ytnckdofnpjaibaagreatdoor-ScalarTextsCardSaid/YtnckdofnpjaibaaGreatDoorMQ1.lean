/- What is proved: contracts of the program's and the reference's functions in the evaluator, and plain laws on them. Conditions: as each states. -/
import Derived.Test.YtnckdofnpjaibaaGreatDoorMC
import Derived.IntWalk
import Derived.KernelRfl
import Derived.Lib.ItoaMem
import Derived.Lib.AtoiAllCases
import Derived.Lib.ItoaLen
import Derived.Lib.CountLaws
import Derived.Lib.Replace
import Derived.Lib.CutLaws
import Derived.Lib.Strings
import Derived.Lib.IndexMore
import Derived.Lib.Join
set_option linter.unusedSimpArgs false
set_option linter.unusedVariables false
set_option maxRecDepth 100000
namespace Go.Ab
open Go Go.Proofs
structure Val where
  k : Int
  n : Int
  s : List UInt8
  deriving DecidableEq
@[go_sem] def enc (v : Val) : AV := .agg [.int .i64 v.k, .int .i64 v.n, .str v.s]
@[go_sem] theorem Val.eta (v : Val) : Val.mk v.k v.n v.s = v := rfl
def null : Val := ⟨0, 0, []⟩
def loopOf : Code → Nat → Option Code
  | .seq a b, i => match loopOf a i with
    | some c => some c
    | none => loopOf b i
  | .cond _ a b, i => match loopOf a i with
    | some c => some c
    | none => loopOf b i
  | .block j c, i => if j = i then (match c with
    | .loop b => some b
    | _ => none) else loopOf c i
  | .loop c, i => loopOf c i
  | _, _ => none
def Loop (f : Func) (i : Nat) (B : Code) : Prop := loopOf (f.body.getD .skip) i = some B
@[go_sem] theorem wrap_id {n : Int} (h1 : -9223372036854775808 ≤ n) (h2 : n ≤ 9223372036854775807) : wrapI .i64 n = n := by
  exact IntWalk.i64_in _ ⟨h1, h2⟩
theorem at_get {α : Type} {l : List α} {i : Nat} {x : α} (h : l[i]? = some x) : at? l (i : Int) = some x := by
  simp [at?, h]
theorem byte_get {s : List UInt8} {i : Nat} {b : UInt8} (h : s[i]? = some b) : at? s (i : Int) = some b := at_get h
theorem drop_get {α : Type} {l : List α} {i : Nat} {x : α} (h : l[i]? = some x) : l.drop i = x :: l.drop (i + 1) := by
  obtain ⟨h1, h2⟩ := List.getElem?_eq_some_iff.1 h
  rw [List.drop_eq_getElem_cons h1, h2]
abbrev V (k n : Int) (s : List UInt8) : AV := .agg [.int .i64 k, .int .i64 n, .str s]
def rowV (v : Val) : List AV := [.int .i64 v.k, .int .i64 v.n, .str v.s]
def within (n a b : Int) : Bool := decide (a ≤ n) && decide (n ≤ b)
theorem c_within (n a b : Int) : R K (.call 74 [.int .i64 n, .int .i64 a, .int .i64 b] []) = some (.bool (within n a b), []) := by
  rw [call_74]
  simp -implicitDefEqProofs only [go_sem, simprocAttr, Tryz.f74]
  repeat' ((first | apply split_cond | apply split_yes | apply split_no) <;> intro hc <;> simp -implicitDefEqProofs only [hc, go_sem, simprocAttr])
  all_goals simp [within, *]
theorem r_within (n a b : Int) : R K (.call 75 [.int .i64 n, .int .i64 a, .int .i64 b] []) = some (.bool (within n a b), []) := by
  rw [call_75]
  simp -implicitDefEqProofs only [go_sem, simprocAttr, Tryz.f75]
  repeat' ((first | apply split_cond | apply split_yes | apply split_no) <;> intro hc <;> simp -implicitDefEqProofs only [hc, go_sem, simprocAttr])
  all_goals simp [within, *]
def formS (v : Val) : Bool := if v.k = 0 then v.n == 0 && v.s == [] else if v.k = 3 then v.n == 0 else within v.k 1 4 && v.s == []
theorem c_form (k n : Int) (s : List UInt8) : R K (.call 119 [V k n s] []) = some (.bool (formS ⟨k, n, s⟩), []) := by
  rw [call_119]
  simp -implicitDefEqProofs only [go_sem, simprocAttr, Tryz.f119, c_within]
  repeat' ((first | apply split_cond | apply split_yes | apply split_no) <;> intro hc <;> simp -implicitDefEqProofs only [hc, go_sem, simprocAttr, c_within])
  all_goals simp_all [formS]
def ok7 (s : List UInt8) : Bool := s.all fun c => decide (32 ≤ c.toNat) && decide (c.toNat ≤ 126)
theorem ok7_cons (b : UInt8) (s : List UInt8) : ok7 (b :: s) = (decide (32 ≤ b.toNat) && decide (b.toNat ≤ 126) && ok7 s) := by simp [ok7]
theorem l_range (k n : Int) (s : List UInt8) (hs : s.length ≤ 100) (ks : List It) : ∀ (m i : Nat) (j : Int) (B : Code), Loop Tryz.f120 1 B → j = (i : Int) → s.length = i + m →
   RL K (.run 120 0 (.code B :: .lp B (some ([1, 23, 24], [])) 1 :: .blk 1 1 :: ks) [(1, .ptr 0 0), (23, .int .i64 s.length), (24, .int .i64 j)] [.cells [.int .i64 k, .int .i64 n, .str s]]) =
   if ok7 (s.drop i) = true then R K (.run 120 0 ks [] [.cells [.int .i64 k, .int .i64 n, .str s]]) else some (.bool false, [])
  | 0, i, j, B, hB, hj, hm => by
    subst hj
    have h1 : ¬ ((i : Int) < (s.length : Int)) := by omega
    unfold Loop at hB
    simp -implicitDefEqProofs only [go_sem, simprocAttr, Tryz.f120, loopOf] at hB
    subst hB
    rw [RL_eq]
    simp -implicitDefEqProofs only [go_sem, simprocAttr, h1]
    rw [List.drop_of_length_le (by omega)]
    rfl
  | m + 1, i, j, B, hB, hj, hm => by
    subst hj
    have h1 : ((i : Int) < (s.length : Int)) := by omega
    have hB' := hB
    obtain ⟨b, hb⟩ : ∃ b, s[i]? = some b := ⟨s[i]'(by omega), List.getElem?_eq_getElem _⟩
    have hg := byte_get hb
    have hw : wrapI .i64 ((i : Int) + 1) = ((i + 1 : Nat) : Int) := by rw [wrap_id (by omega) (by omega)]; rfl
    unfold Loop at hB
    simp -implicitDefEqProofs only [go_sem, simprocAttr, Tryz.f120, loopOf] at hB
    subst hB
    rw [RL_eq]
    rw [drop_get hb]
    have ih := l_range k n s hs ks m (i + 1) _ _ hB' rfl (by omega)
    simp -implicitDefEqProofs only [go_sem, simprocAttr, h1, hg, hw]
    repeat' ((first | apply split_cond | apply split_yes | apply split_no) <;> intro hc <;> simp -implicitDefEqProofs only [hc, go_sem, simprocAttr, h1, hg, hw])
    all_goals simp only [decide_eq_true_eq, decide_eq_false_iff_not] at *
    · have : ok7 (b :: s.drop (i + 1)) = false := by simp [ok7_cons]; omega
      simp [this]
    · have : ok7 (b :: s.drop (i + 1)) = false := by simp [ok7_cons]; omega
      simp [this]
    · have : ok7 (b :: s.drop (i + 1)) = ok7 (s.drop (i + 1)) := by
        have : 32 ≤ b.toNat ∧ b.toNat ≤ 126 := by omega
        simp [ok7_cons, this]
      rw [this, ih]
def rangeS (v : Val) : Bool := if v.k = 1 then within v.n 0 1 else if v.k = 2 then within v.n (-999999999999999) 999999999999999 else if v.k = 4 then within v.n 0 253402300799 else ok7 v.s
theorem c_range (k n : Int) (s : List UInt8) (hs : s.length ≤ 100) : R K (.call 120 [V k n s] []) = some (.bool (rangeS ⟨k, n, s⟩), []) := by
  rw [call_120]
  simp -implicitDefEqProofs only [go_sem, simprocAttr, Tryz.f120, c_within]
  repeat' ((first | apply split_cond | apply split_yes | apply split_no) <;> intro hc <;> simp -implicitDefEqProofs only [hc, go_sem, simprocAttr, c_within])
  · simp_all [rangeS]
  · simp_all [rangeS]
  · simp_all [rangeS]
  · rw [l_range k n s hs _ s.length 0 0 _ ?_ rfl (by omega), List.drop_zero]
    · split
      · simp -implicitDefEqProofs only [go_sem, simprocAttr]
        simp_all [rangeS]
      · simp_all [rangeS]
    · rfl
def rightS (v : Val) : Bool := formS v && (decide (v.s.length ≤ 100) && rangeS v)
theorem c_right (k n : Int) (s : List UInt8) : R K (.call 55 [V k n s] []) = some (.bool (rightS ⟨k, n, s⟩), []) := by
  by_cases hs : s.length ≤ 100
  · have hs' : (s.length : Int) ≤ 100 := by omega
    rw [call_55]
    simp -implicitDefEqProofs only [go_sem, simprocAttr, Tryz.f55, c_form, c_range k n s hs, hs']
    repeat' ((first | apply split_cond | apply split_yes | apply split_no) <;> intro hc <;> simp -implicitDefEqProofs only [hc, go_sem, simprocAttr, c_form, c_range k n s hs, hs'])
    all_goals simp_all [rightS] <;> omega
  · have hs' : ¬ (s.length : Int) ≤ 100 := by omega
    rw [call_55]
    simp -implicitDefEqProofs only [go_sem, simprocAttr, Tryz.f55, c_form, hs']
    repeat' ((first | apply split_cond | apply split_yes | apply split_no) <;> intro hc <;> simp -implicitDefEqProofs only [hc, go_sem, simprocAttr, c_form, hs'])
    all_goals simp_all [rightS] <;> omega
def plainV (v : Val) : Val := if rightS v = true then v else null
theorem c_plain (k n : Int) (s : List UInt8) : R K (.call 57 [V k n s] []) = some (enc (plainV ⟨k, n, s⟩), []) := by
  rw [call_57]
  simp -implicitDefEqProofs only [go_sem, simprocAttr, Tryz.f57, c_right]
  repeat' ((first | apply split_cond | apply split_yes | apply split_no) <;> intro hc <;> simp -implicitDefEqProofs only [hc, go_sem, simprocAttr, c_right])
  all_goals simp_all [plainV, null]
def boolV (b : Bool) : Val := ⟨1, if b = true then 1 else 0, []⟩
theorem c_boolean (b : Bool) : R K (.call 68 [.bool b] []) = some (enc (boolV b), []) := by
  rw [call_68]
  simp -implicitDefEqProofs only [go_sem, simprocAttr, Tryz.f68]
  repeat' ((first | apply split_cond | apply split_yes | apply split_no) <;> intro hc <;> simp -implicitDefEqProofs only [hc, go_sem, simprocAttr])
  all_goals simp_all [boolV]
theorem r_Truth (b : Bool) : R K (.call 71 [.bool b] []) = some (enc (boolV b), []) := by
  rw [call_71]
  simp -implicitDefEqProofs only [go_sem, simprocAttr, Tryz.f71]
  repeat' ((first | apply split_cond | apply split_yes | apply split_no) <;> intro hc <;> simp -implicitDefEqProofs only [hc, go_sem, simprocAttr])
  all_goals simp_all [boolV]
def numberS (k n : Int) : Val := plainV ⟨k, n, []⟩
theorem c_number (k n : Int) : R K (.call 69 [.int .i64 k, .int .i64 n] []) = some (enc (numberS k n), []) := by
  rw [call_69]
  simp -implicitDefEqProofs only [go_sem, simprocAttr, Tryz.f69, c_plain]
  all_goals simp_all [numberS]
def textS (s : List UInt8) : Val := plainV ⟨3, 0, s⟩
theorem row_get {l : List Val} {i : Nat} {v : Val} (h : l[i]? = some v) : at? (l.map rowV) (i : Int) = some (rowV v) := at_get (by simp [h])
theorem next_id {i n : Nat} (h : i < n) (hn : n ≤ 9223372036854775807) : wrapI .i64 ((i : Int) + 1) = ((i + 1 : Nat) : Int) := by rw [wrap_id (by omega) (by omega)]; rfl
theorem some_at {α : Type} {l : List α} {i : Nat} (h : i < l.length) : ∃ x, l[i]? = some x := ⟨l[i], List.getElem?_eq_getElem h⟩
theorem plain_len (v : Val) (h : (plainV v).k = 3) : (plainV v) = v ∧ v.s.length ≤ 100 ∧ ok7 v.s = true := by
  unfold plainV at h ⊢
  split at h
  · rename_i hr
    have hk : v.k = 3 := by simpa [hr] using h
    simp only [rightS, Bool.and_eq_true, decide_eq_true_eq] at hr
    obtain ⟨h1, h2, h3⟩ := hr
    refine ⟨by simp [rightS, h1, h2, h3], h2, ?_⟩
    simpa [rangeS, hk] using h3
  · simp [null] at h
theorem byteRows_row : ∀ (s : List UInt8) (i : Nat) (b : UInt8), s[i]? = some b → (byteRows s)[i]? = some [.int .u8 (b.toNat : Int)]
  | [], i, b, h => by simp at h
  | c :: r, 0, b, h => by simp at h; subst h; rfl
  | c :: r, i + 1, b, h => by simpa [byteRows] using byteRows_row r i b (by simpa using h)
theorem l_rplain (s : List UInt8) (hs : s.length ≤ 100) (ks : List It) : ∀ (m i : Nat) (j : Int) (B : Code), Loop Tryz.f259 0 B → j = (i : Int) → s.length = i + m →
   RL K (.run 259 0 (.code B :: .lp B (some ([6, 7, 8], [])) 0 :: .blk 0 0 :: ks) [(6, .rows (byteRows s)), (7, .int .i64 s.length), (8, .int .i64 j)] []) =
   if ok7 (s.drop i) = true then R K (.run 259 0 ks [] []) else some (.bool false, [])
  | 0, i, j, B, hB, hj, hm => by
    subst hj
    have h1 : ¬ ((i : Int) < (s.length : Int)) := by omega
    unfold Loop at hB
    simp -implicitDefEqProofs only [go_sem, simprocAttr, Tryz.f259, loopOf] at hB
    subst hB
    rw [RL_eq]
    simp -implicitDefEqProofs only [go_sem, simprocAttr, h1]
    rw [List.drop_of_length_le (by omega)]
    rfl
  | m + 1, i, j, B, hB, hj, hm => by
    subst hj
    have h1 : ((i : Int) < (s.length : Int)) := by omega
    have hB' := hB
    obtain ⟨b, hb⟩ := some_at (l := s) (i := i) (by omega)
    have hg := at_get (byteRows_row s i b hb)
    have hw := next_id (i := i) (n := s.length) (by omega) (by omega)
    unfold Loop at hB
    simp -implicitDefEqProofs only [go_sem, simprocAttr, Tryz.f259, loopOf] at hB
    subst hB
    rw [RL_eq]
    rw [drop_get hb]
    have ih := l_rplain s hs ks m (i + 1) _ _ hB' rfl (by omega)
    simp -implicitDefEqProofs only [go_sem, simprocAttr, h1, hg, hw]
    repeat' ((first | apply split_cond | apply split_yes | apply split_no) <;> intro hc <;> simp -implicitDefEqProofs only [hc, go_sem, simprocAttr, h1, hg, hw])
    all_goals simp only [decide_eq_true_eq, decide_eq_false_iff_not] at *
    · have : ok7 (b :: s.drop (i + 1)) = false := by simp [ok7_cons]; omega
      simp [this]
    · have : ok7 (b :: s.drop (i + 1)) = false := by simp [ok7_cons]; omega
      simp [this]
    · have : ok7 (b :: s.drop (i + 1)) = ok7 (s.drop (i + 1)) := by
        have : 32 ≤ b.toNat ∧ b.toNat ≤ 126 := by omega
        simp [ok7_cons, this]
      rw [this, ih]
theorem r_plain (s : List UInt8) (hs : s.length ≤ 100) : R K (.call 259 [.str s] []) = some (.bool (ok7 s), []) := by
  rw [call_259]
  simp -implicitDefEqProofs only [go_sem, simprocAttr, Tryz.f259, byteRows_len]
  rw [l_rplain s hs _ s.length 0 0 _ ?_ rfl (by omega), List.drop_zero]
  · split
    · simp -implicitDefEqProofs only [go_sem, simprocAttr]
      simp_all
    · simp_all
  · rfl
def faultS (v : Val) : Int :=
  if !(within v.k 0 4) || (v.k != 3 && v.s != []) || ((v.k == 3 || v.k == 0) && v.n != 0) then 3
  else if 100 < v.s.length then 2
  else if !(ok7 v.s) || (v.k == 1 && !(within v.n 0 1)) || (v.k == 2 && !(within v.n (-999999999999999) 999999999999999)) || (v.k == 4 && !(within v.n 0 253402300799)) then 1
  else 0
theorem r_fault (k n : Int) (s : List UInt8) : R K (.call 193 [.int .i64 0, V k n s] []) = some (.int .i64 (faultS ⟨k, n, s⟩), []) := by
  by_cases hs : s.length ≤ 100
  · have hs' : ¬ (100 < (s.length : Int)) := by omega
    have hs2 : ¬ (100 < s.length) := by omega
    rw [call_193]
    simp -implicitDefEqProofs only [go_sem, simprocAttr, Tryz.f193, r_within, r_plain s hs, hs']
    repeat' ((first | apply split_cond | apply split_yes | apply split_no) <;> intro hc <;> simp -implicitDefEqProofs only [hc, go_sem, simprocAttr, r_within, r_plain s hs, hs'])
    all_goals simp_all [faultS]
  · have hs' : (100 < (s.length : Int)) := by omega
    have hs2 : (100 < s.length) := by omega
    rw [call_193]
    simp -implicitDefEqProofs only [go_sem, simprocAttr, Tryz.f193, r_within, hs']
    repeat' ((first | apply split_cond | apply split_yes | apply split_no) <;> intro hc <;> simp -implicitDefEqProofs only [hc, go_sem, simprocAttr, r_within, hs'])
    all_goals simp_all [faultS]
theorem fault_right (v : Val) : (faultS v = 0) ↔ rightS v = true := by
  obtain ⟨k, n, s⟩ := v
  by_cases h0 : k = 0
  · subst h0
    by_cases h1 : n = 0 <;> by_cases h2 : s = [] <;> simp [faultS, rightS, formS, rangeS, within, ok7, h1, h2]
  · by_cases h3 : k = 3
    · subst h3
      by_cases h1 : n = 0 <;> by_cases h2 : s.length ≤ 100 <;> simp [faultS, rightS, formS, rangeS, within, h1, h2, Nat.not_lt.2, Nat.not_le.1] <;> (try omega) <;> (cases ok7 s <;> simp <;> omega)
    · by_cases h4 : within k 0 4 = true
      · have h5 : within k 1 4 = true := by simp [within] at h4 ⊢; omega
        by_cases h2 : s = []
        · subst h2
          by_cases k1 : k = 1
          · subst k1; simp [faultS, rightS, formS, rangeS, h4, h5, ok7]
          · by_cases k2 : k = 2
            · subst k2; simp [faultS, rightS, formS, rangeS, h4, h5, ok7]
            · by_cases k4 : k = 4
              · subst k4; simp [faultS, rightS, formS, rangeS, h4, h5, ok7]
              · simp [within] at h4; omega
        · simp [faultS, rightS, formS, h0, h3, h2]
      · have h5 : within k 1 4 = false := by simp [within] at h4 ⊢; omega
        simp [faultS, rightS, formS, h0, h3, h4, h5]
theorem r_AnyFault (k n : Int) (s : List UInt8) : R K (.call 129 [V k n s] []) = some (.int .i64 (faultS ⟨k, n, s⟩), []) := by
  rw [call_129]
  simp -implicitDefEqProofs only [go_sem, simprocAttr, Tryz.f129, r_fault]
theorem r_right (k n : Int) (s : List UInt8) : R K (.call 62 [V k n s] []) = some (enc (plainV ⟨k, n, s⟩), []) := by
  have h := fault_right ⟨k, n, s⟩
  rw [call_62]
  simp -implicitDefEqProofs only [go_sem, simprocAttr, Tryz.f62, r_AnyFault]
  repeat' ((first | apply split_cond | apply split_yes | apply split_no) <;> intro hc <;> simp -implicitDefEqProofs only [hc, go_sem, simprocAttr, r_AnyFault])
  all_goals simp_all [plainV, null]
theorem within_iff (n a b : Int) : within n a b = true ↔ a ≤ n ∧ n ≤ b := by simp [within]
theorem right_bounds (v : Val) : let p := plainV v; (0 ≤ p.k ∧ p.k ≤ 4) ∧ (-999999999999999 ≤ p.n ∧ p.n ≤ 999999999999999) ∧ p.s.length ≤ 100 ∧ (p.k ≠ 3 → p.s = []) ∧ (p.k = 1 → p.n = 0 ∨ p.n = 1) ∧ (p.k = 0 → p.n = 0) ∧ (p.k = 3 → p.n = 0) ∧ ok7 p.s = true ∧ (p.k = 4 → 0 ≤ p.n ∧ p.n ≤ 253402300799) := by
  intro p
  by_cases hr : rightS v = true
  · have hp : p = v := by simp [p, plainV, hr]
    rw [hp]
    have hf := (fault_right v).2 hr
    unfold faultS at hf
    simp only [rightS, Bool.and_eq_true, decide_eq_true_eq] at hr
    obtain ⟨h1, h2, h3⟩ := hr
    unfold rangeS at h3
    unfold formS at h1
    by_cases k0 : v.k = 0
    · simp [k0] at h1 h3
      refine ⟨by omega, by omega, by simp [h1.2], by simp [h1.2], by omega, by omega, by omega, by simpa using h3, by omega⟩
    · by_cases k3 : v.k = 3
      · simp [k3] at h1 h3
        exact ⟨by omega, by omega, h2, by simp [k3], by omega, by omega, by omega, h3, by omega⟩
      · simp [k0, k3] at h1
        obtain ⟨h4, h5⟩ := h1
        rw [within_iff] at h4
        have hk : v.k = 1 ∨ v.k = 2 ∨ v.k = 4 := by omega
        rw [h5] at h3 ⊢
        rcases hk with hk | hk | hk <;> simp [hk, within_iff] at h3 <;> (refine ⟨by omega, by omega, by simp, by simp, by omega, by omega, by omega, rfl, by omega⟩)
  · have hp : p = null := by simp [p, plainV, hr]
    rw [hp]
    simp [null, ok7]
theorem r_values : R K (.call 15 [] []) = some (.bool true, []) := R_of_runN (n := 30000) (by kernel_rfl)
theorem r_Number (n : Int) : R K (.call 73 [.int .i64 n] []) = some (enc (numberS 2 n), []) := by
  rw [call_73]
  simp -implicitDefEqProofs only [go_sem, simprocAttr, Tryz.f73, r_right]
  all_goals simp [numberS]
theorem r_moment (n : Int) : R K (.call 72 [.int .i64 n] []) = some (enc (numberS 4 n), []) := by
  rw [call_72]
  simp -implicitDefEqProofs only [go_sem, simprocAttr, Tryz.f72, r_right]
  all_goals simp [numberS]
theorem ascii_ok7 {s : List UInt8} (h : ok7 s = true) : ascii s = true := by
  simp only [ascii, ok7, List.all_eq_true, Bool.and_eq_true, decide_eq_true_eq] at h ⊢
  intro x hx
  have := (h x hx).2
  omega
theorem r_word (s : List UInt8) : R K (.call 121 [.str s] []) = some (enc (textS s), []) := by
  rw [call_121]
  simp -implicitDefEqProofs only [go_sem, simprocAttr, Tryz.f121, r_right]
  all_goals simp [textS]
theorem plain3 (v : Val) (h : (plainV v).k = 3) : (plainV v).s.length ≤ 100 ∧ ascii (plainV v).s = true := by
  obtain ⟨h1, h2, h3⟩ := plain_len v h
  rw [h1]
  exact ⟨h2, ascii_ok7 h3⟩
structure Pc where
  c : UInt8
  any : Bool
  one : Bool
def fitAt (s : List UInt8) (p : Pc) (i : Nat) : Bool := match s[i]? with
  | some b => p.one || p.c == b
  | none => false
def runOr (f : Nat → Bool) : Nat → Bool
  | 0 => f 0
  | i + 1 => f (i + 1) || runOr f i
def shiftAnd (s : List UInt8) (p : Pc) (f : Nat → Bool) : Nat → Bool
  | 0 => false
  | i + 1 => f i && fitAt s p i
theorem at_zero {α : Type} (x : α) (l : List α) : at? (x :: l) (0 : Int) = some x := rfl
def col (s : List UInt8) : List Pc → (Nat → Bool) → Nat → Bool
  | [], g => g
  | p :: r, g => col s r (if p.any = true then runOr g else shiftAnd s p g)
theorem u8_lit (c : UInt8) (k : Nat) (hk : k < 256) : (((c.toNat : Nat) : Int) == (k : Int)) = (c == UInt8.ofNat k) := by
  rw [Bool.eq_iff_iff]
  simp only [beq_iff_eq]
  constructor
  · intro h
    refine UInt8.toNat.inj ?_
    rw [UInt8.toNat_ofNat']
    omega
  · rintro rfl
    rw [UInt8.toNat_ofNat']
    omega
attribute [go_sem] callIn conv convL reach posOf sub renB renL ren back afterIn outer List.contains_cons List.contains_nil List.map_cons List.map_nil
@[go_sem] theorem size_none {α : Type} : (#[] : Array α).size = 0 := rfl
theorem tm (a b : Int) (h : 0 ≤ a) : a.tmod b = a % b := Int.tmod_eq_emod_of_nonneg h
theorem td (a b : Int) (h : 0 ≤ a) : a.tdiv b = a / b := Int.tdiv_eq_ediv_of_nonneg h
def belowS (x n : Int) : Int := if n < 1 then 0 else if x.tmod n < 0 then wrapI .i64 (x.tmod n + n) else x.tmod n
theorem r_Below (x n : Int) : R K (.call 92 [.int .i64 x, .int .i64 n] []) = some (.int .i64 (belowS x n), []) := by
  by_cases hn : n < 1
  · have h1 : decide (n < 1) = true := by simp [hn]
    rw [call_92]
    simp -implicitDefEqProofs only [go_sem, simprocAttr, Tryz.f92, h1]
    simp [belowS, hn]
  · have h1 : decide (n < 1) = false := by simpa using hn
    have h2 : n ≠ 0 := by omega
    have e : belowS x n = if x.tmod n < 0 then wrapI .i64 (x.tmod n + n) else x.tmod n := if_neg hn
    rw [e]
    rw [call_92]
    simp -implicitDefEqProofs only [go_sem, simprocAttr, Tryz.f92, h1, h2]
    repeat' ((first | apply split_cond | apply split_yes | apply split_no) <;> intro hc <;> simp -implicitDefEqProofs only [hc, go_sem, simprocAttr, h1, h2])
    all_goals simp_all
    intro; omega
theorem below_bounds (x n : Int) (h1 : 1 ≤ n) (h2 : n ≤ 4611686018427387904) : 0 ≤ belowS x n ∧ belowS x n < n := by
  unfold belowS
  rw [if_neg (by omega)]
  have a := Int.tmod_lt_of_pos x (show 0 < n by omega)
  have b : -n < x.tmod n := by
    have := Int.tmod_lt_of_pos (-x) (show 0 < n by omega)
    rw [Int.neg_tmod] at this
    omega
  split
  · rw [wrap_id (by omega) (by omega)]; omega
  · omega
def nextS (L : List Int) (a n : Int) : Int :=
  if L.length = 0 then belowS (wrapI .i64 ((a + 1) * 7919)) n
  else belowS (wrapI .i64 (belowS (L.getD (a % L.length).toNat 0) 1073741824 + wrapI .i64 (a / L.length * (7919 + a % L.length)))) n
abbrev LR (L : List Int) : AV := .rows (L.map fun x => [.int .i64 x])
theorem r_Next (L : List Int) (a n : Int) (ha : 0 ≤ a) (ha2 : a ≤ 4611686018427387904) (hL : L.length ≤ 9223372036854775807) : R K (.call 38 [.ptr 0 0, .int .i64 n] [.cells [LR L, .int .i64 a]]) = some (.int .i64 (nextS L a n), [.cells [LR L, .int .i64 (a + 1)]]) := by
  have e1 : wrapI .i64 (a + 1) = a + 1 := wrap_id (by omega) (by omega)
  have e2 : wrapI .i64 (a + 1 - 1) = a := by rw [wrap_id (by omega) (by omega)]; omega
  have el : (L.map fun x => [AV.int .i64 x]).length = L.length := List.length_map _
  by_cases h : L.length = 0
  · have h0 : decide (((L.length : Nat) : Int) = 0) = true := by simp [h]
    have hb : (((L.length : Nat) : Int) == 0) = true := by simp [h]
    have e : nextS L a n = belowS (wrapI .i64 ((a + 1) * 7919)) n := if_pos h
    rw [e]
    rw [call_38]
    simp -implicitDefEqProofs only [go_sem, simprocAttr, Tryz.f38, e1, hb, el, r_Below]
  · have hb : (((L.length : Nat) : Int) == 0) = false := by simpa using h
    have hl1 : (1 : Int) ≤ L.length := by omega
    have e3 : a.tmod (L.length : Int) = a % L.length := tm _ _ ha
    have e4 : wrapI .i64 (a.tdiv (L.length : Int)) = a / L.length := by
      rw [td _ _ ha]
      have := Int.ediv_le_self (L.length : Int) ha
      have := Int.ediv_nonneg ha (show (0 : Int) ≤ L.length by omega)
      exact wrap_id (by omega) (by omega)
    have m1 := Int.emod_nonneg a (show (L.length : Int) ≠ 0 by omega)
    have m2 := Int.emod_lt_of_pos a (show (0 : Int) < L.length by omega)
    have m3 : a % (L.length : Int) ≤ a := by
      rw [Int.emod_def]
      exact Int.sub_le_self a (Int.mul_nonneg (by omega) (Int.ediv_nonneg ha (by omega)))
    obtain ⟨x, hx⟩ := some_at (l := L) (i := (a % L.length).toNat) (by omega)
    have e5 : at? (L.map fun x => [AV.int .i64 x]) (a % L.length) = some [.int .i64 x] := by
      unfold at?
      rw [if_pos m1]
      simp [hx]
    have e6 : wrapI .i64 (7919 + a % L.length) = 7919 + a % L.length := wrap_id (by omega) (by omega)
    have hd : L.getD (a % L.length).toNat 0 = x := by simp [List.getD, hx]
    have hne : ((L.length : Nat) : Int) ≠ 0 := by omega
    have e : nextS L a n = belowS (wrapI .i64 (belowS x 1073741824 + wrapI .i64 (a / L.length * (7919 + a % L.length)))) n := by
      unfold nextS
      rw [if_neg h, hd]
    rw [e]
    rw [call_38]
    simp -implicitDefEqProofs only [go_sem, simprocAttr, Tryz.f38, e1, e2, e3, e4, e5, e6, hb, hne, h, el, r_Below]
theorem next_bounds (L : List Int) (a n : Int) (h1 : 1 ≤ n) (h2 : n ≤ 4611686018427387904) : 0 ≤ nextS L a n ∧ nextS L a n < n := by
  unfold nextS
  split <;> exact below_bounds _ _ h1 h2
def leapS (y : Int) : Bool := (y % 4 == 0 && !(y % 100 == 0)) || y % 400 == 0
def mdS (y m : Int) : Int := if m = 2 then (if leapS y = true then 29 else 28) else if m = 4 ∨ m = 6 ∨ m = 9 ∨ m = 11 then 30 else 31
def ydS (y : Int) : Int := 365 * (y - 1970) + (y - 1) / 4 - (y - 1) / 100 + (y - 1) / 400 - 477
def lenS (y : Int) : Int := if leapS y = true then 366 else 365
theorem leap_iff (y : Int) : leapS y = true ↔ (y % 4 = 0 ∧ y % 100 ≠ 0) ∨ y % 400 = 0 := by simp [leapS]
theorem yd_next (y : Int) : ydS (y + 1) = ydS y + lenS y := by
  unfold ydS lenS
  by_cases h : leapS y = true
  · rw [if_pos h]
    rw [leap_iff] at h
    omega
  · rw [if_neg h]
    rw [leap_iff] at h
    omega
theorem len_pos (y : Int) : 365 ≤ lenS y ∧ lenS y ≤ 366 := by unfold lenS; split <;> omega
theorem md_pos (y m : Int) : 28 ≤ mdS y m ∧ mdS y m ≤ 31 := by unfold mdS; repeat' split <;> omega
theorem yd_mono_nat (y : Int) : ∀ k : Nat, ydS y + k * 365 ≤ ydS (y + k)
  | 0 => by simp
  | k + 1 => by
    have ih := yd_mono_nat y k
    have e := yd_next (y + k)
    have l := len_pos (y + k)
    have : y + ((k + 1 : Nat) : Int) = y + k + 1 := by omega
    rw [this]
    omega
theorem yd_mono {y z : Int} (h : y ≤ z) : ydS y + (z - y) * 365 ≤ ydS z := by
  obtain ⟨k, rfl⟩ : ∃ k : Nat, z = y + k := ⟨(z - y).toNat, by omega⟩
  have := yd_mono_nat y k
  have e : y + (k : Int) - y = k := by omega
  rw [e]
  exact this
theorem yd0 : ydS 1970 = 0 := by decide
theorem year_ex : ∀ d : Nat, ∃ z : Int, 1970 ≤ z ∧ ydS z ≤ d ∧ (d : Int) < ydS (z + 1)
  | 0 => ⟨1970, by omega, by rw [yd0]; simp, by rw [yd_next, yd0]; have := len_pos 1970; omega⟩
  | d + 1 => by
    obtain ⟨z, h1, h2, h3⟩ := year_ex d
    by_cases h : ((d + 1 : Nat) : Int) < ydS (z + 1)
    · exact ⟨z, h1, by omega, h⟩
    · refine ⟨z + 1, by omega, by omega, ?_⟩
      have := yd_next (z + 1)
      have := len_pos (z + 1)
      omega
noncomputable def yearS (d : Int) : Int := Classical.choose (year_ex d.toNat)
theorem year_spec {d : Int} (h : 0 ≤ d) : 1970 ≤ yearS d ∧ ydS (yearS d) ≤ d ∧ d < ydS (yearS d + 1) := by
  have hc := Classical.choose_spec (year_ex d.toNat)
  obtain ⟨h1, h2, h3⟩ := hc
  unfold yearS
  refine ⟨h1, ?_, ?_⟩
  · omega
  · omega
theorem year_le {d y : Int} (h : 0 ≤ d) (hy : d < ydS (y + 1)) : yearS d ≤ y := by
  rcases Int.lt_or_le y (yearS d) with hl | hl
  · have := (year_spec h).2.1
    have := yd_mono (y := y + 1) (z := yearS d) (by omega)
    omega
  · exact hl
theorem year_ge {d y : Int} (h : 0 ≤ d) (hy : ydS y ≤ d) : y ≤ yearS d := by
  rcases Int.lt_or_le (yearS d) y with hl | hl
  · have := (year_spec h).2.2
    have := yd_mono (y := yearS d + 1) (z := y) (by omega)
    omega
  · exact hl
theorem yd_top : ydS (9999 + 1) = 2932897 := by decide
theorem year_max {d : Int} (h : 0 ≤ d) (hd : d ≤ 2932896) : yearS d ≤ 9999 := year_le h (by rw [yd_top]; omega)
theorem yd_up : ∀ k : Nat, ydS (1970 + k) ≤ k * 366
  | 0 => by rw [show (1970 : Int) + ((0 : Nat) : Int) = 1970 from rfl, yd0]; simp
  | k + 1 => by
    have ih := yd_up k
    have e := yd_next (1970 + k)
    have l := len_pos (1970 + k)
    have : (1970 : Int) + ((k + 1 : Nat) : Int) = 1970 + k + 1 := by omega
    rw [this]
    omega
theorem year_low {d : Int} (h : 0 ≤ d) : 1970 + d / 366 ≤ yearS d := by
  refine year_ge h ?_
  have := yd_up (d / 366).toNat
  have e : (((d / 366).toNat : Nat) : Int) = d / 366 := by omega
  rw [e] at this
  omega
def monthUp : Nat → Int → Int → Int → Int × Int
  | 0, _, m, r => (m, r)
  | f + 1, y, m, r => if mdS y m ≤ r then monthUp f y (m + 1) (r - mdS y m) else (m, r)
def restS : Nat → Int → Int → Int
  | 0, _, _ => 0
  | f + 1, y, m => mdS y m + restS f y (m + 1)
theorem rest_len (y : Int) : restS 12 y 1 = lenS y := by
  cases h : leapS y <;> simp [restS, mdS, lenS, h]
theorem month_bounds (y : Int) : ∀ (f : Nat) (m r : Int), 0 ≤ r → r < restS f y m → m ≤ (monthUp f y m r).1 ∧ (monthUp f y m r).1 < m + f ∧ 0 ≤ (monthUp f y m r).2 ∧ (monthUp f y m r).2 < mdS y (monthUp f y m r).1
  | 0, m, r, h0, h1 => by simp only [restS] at h1; omega
  | f + 1, m, r, h0, h1 => by
    simp only [restS] at h1
    simp only [monthUp]
    split
    · rename_i h
      have ih := month_bounds y f (m + 1) (r - mdS y m) (by omega) (by omega)
      refine ⟨by omega, by omega, ih.2.2.1, ih.2.2.2⟩
    · rename_i h
      refine ⟨Int.le_refl _, by simp only; omega, h0, ?_⟩
      simp only
      omega
def aheadS : Nat → Int → Int
  | 0, _ => 0
  | k + 1, y => aheadS k y + mdS y (k + 1 : Nat)
noncomputable def ymS (n : Int) : Int × Int := monthUp 12 (yearS (n / 86400)) 1 (n / 86400 - ydS (yearS (n / 86400)))
noncomputable def dateS (n : Int) : List Int := [yearS (n / 86400), (ymS n).1, (ymS n).2 + 1, n % 86400 / 3600, n % 86400 % 3600 / 60, n % 86400 % 60]
theorem date_bounds {n : Int} (h0 : 0 ≤ n) (h1 : n ≤ 253402300799) : 1970 ≤ yearS (n / 86400) ∧ yearS (n / 86400) ≤ 9999 ∧ 1 ≤ (ymS n).1 ∧ (ymS n).1 ≤ 12 ∧ 0 ≤ (ymS n).2 ∧ (ymS n).2 < mdS (yearS (n / 86400)) (ymS n).1 := by
  have hd : 0 ≤ n / 86400 := by omega
  have hs := year_spec hd
  have hm := year_max hd (by omega)
  have hn := yd_next (yearS (n / 86400))
  have hb := month_bounds (yearS (n / 86400)) 12 1 (n / 86400 - ydS (yearS (n / 86400))) (by omega) (by rw [rest_len]; omega)
  refine ⟨hs.1, hm, hb.1, ?_, hb.2.2.1, hb.2.2.2⟩
  have := hb.2.1
  unfold ymS
  omega
theorem dec_first (u : Nat) : ∃ c r, Lib.decDigits u = c :: r ∧ 48 ≤ c.toNat ∧ c.toNat ≤ 57 := by
  induction u using Nat.strongRecOn with
  | _ u ih =>
    by_cases h : u < 10
    · refine ⟨UInt8.ofNat (48 + u), [], ?_, ?_, ?_⟩
      · rw [Lib.decDigits, dif_pos h]
      · have : (UInt8.ofNat (48 + u)).toNat = 48 + u := by simp [UInt8.toNat_ofNat']; omega
        omega
      · have : (UInt8.ofNat (48 + u)).toNat = 48 + u := by simp [UInt8.toNat_ofNat']; omega
        omega
    · obtain ⟨c, r, e, h1, h2⟩ := ih (u / 10) (by omega)
      exact ⟨c, r ++ [UInt8.ofNat (48 + u % 10)], by rw [Lib.decDigits, dif_neg h, e]; rfl, h1, h2⟩
theorem itoa_first (n : Int) : ∃ c r, Lib.itoa n = c :: r ∧ (c = 45 ∨ (48 ≤ c.toNat ∧ c.toNat ≤ 57)) := by
  unfold Lib.itoa
  split
  · exact ⟨45, _, rfl, .inl rfl⟩
  · obtain ⟨c, r, e, h⟩ := dec_first n.toNat
    exact ⟨c, r, e, .inr h⟩
abbrev bNull : List UInt8 := [110, 117, 108, 108]
abbrev bTrue : List UInt8 := [116, 114, 117, 101]
abbrev bFalse : List UInt8 := [102, 97, 108, 115, 101]
theorem fmt_bool (b : Bool) : Lib.formatBool b = if b = true then bTrue else bFalse := by cases b <;> decide +kernel
def padS (n : Int) (d : Nat) : List UInt8 := Lib.repeatL [48] (d - (Lib.itoa n).length) ++ Lib.itoa n
noncomputable def dtextS (n : Int) : List UInt8 := padS (yearS (n / 86400)) 4 ++ [45] ++ padS (ymS n).1 2 ++ [45] ++ padS ((ymS n).2 + 1) 2 ++ [84] ++ padS (n % 86400 / 3600) 2 ++ [58] ++ padS (n % 86400 % 3600 / 60) 2 ++ [58] ++ padS (n % 86400 % 60) 2
noncomputable def showS (v : Val) : List UInt8 :=
  if (plainV v).k = 1 then Lib.formatBool ((plainV v).n == 1) else if (plainV v).k = 2 then Lib.itoa (plainV v).n else if (plainV v).k = 3 then [39] ++ Lib.replaceAll (plainV v).s [39] [39, 39] ++ [39]
  else if (plainV v).k = 4 then [64] ++ dtextS (plainV v).n else bNull
def atoiN (s : List UInt8) : Option Int := match Lib.atoiAll s with
  | .ok v => some v
  | _ => none
def daysS (y m d : Int) : Int := ydS y + aheadS (m - 1).toNat y + d - 1
def dateV (y m d h mi s : Int) : Val := if 1970 ≤ y ∧ y ≤ 9999 ∧ 1 ≤ m ∧ m ≤ 12 ∧ 1 ≤ d ∧ d ≤ mdS y m ∧ 0 ≤ h ∧ h ≤ 23 ∧ 0 ≤ mi ∧ mi ≤ 59 ∧ 0 ≤ s ∧ s ≤ 59 then numberS 4 (daysS y m d * 86400 + h * 3600 + mi * 60 + s) else null
def sixS (s : List UInt8) : Option (Int × Int × Int × Int × Int × Int) :=
  match atoiN (cut s 0 4), atoiN (cut s 5 7), atoiN (cut s 8 10), atoiN (cut s 11 13), atoiN (cut s 14 16), atoiN (cut s 17 19) with
  | some a, some b, some c, some d, some e, some f => some (a, b, c, d, e, f)
  | _, _, _, _, _, _ => none
noncomputable def dreadS (s : List UInt8) : Val :=
  if s.length = 19 then match sixS s with
    | some (a, b, c, d, e, f) => if (dateV a b c d e f).k = 0 ∨ dtextS (dateV a b c d e f).n ≠ s then null else dateV a b c d e f
    | none => null
  else null
noncomputable def candS (s : List UInt8) : Val :=
  if s = bTrue ∨ s = bFalse then boolV (decide (s = bTrue))
  else if 2 ≤ s.length ∧ s[0]? = some 39 ∧ s[s.length - 1]? = some 39 then ⟨3, 0, Lib.replaceAll (cut s 1 (s.length - 1)) [39, 39] [39]⟩
  else if Lib.hasPrefix s [64] = true then dreadS (s.drop 1)
  else match atoiN s with
    | some n => ⟨2, n, []⟩
    | none => null
noncomputable def readS (s : List UInt8) : Val × Int := if rightS (candS s) = true ∧ showS (candS s) = s then (candS s, 0) else (null, 14)
noncomputable def candsS (s : List UInt8) : List Val :=
  [null, boolV true, boolV false] ++ (match atoiN s with
    | some n => [numberS 2 n]
    | none => []) ++ (if 1 < s.length ∧ s[0]? = some 39 then [textS (Lib.replaceAll (cut s 1 (s.length - 1)) [39, 39] [39])] else []) ++
  (if (dreadS (Lib.trimPrefix s [64])).k = 4 then [dreadS (Lib.trimPrefix s [64])] else [])
noncomputable def readRS (s : List UInt8) : Val × Int := match (candsS s).find? fun v => showS v == s with
  | some v => (v, 0)
  | none => (null, 14)
theorem plain_of_right {v : Val} (h : rightS v = true) : plainV v = v := by unfold plainV; exact if_pos h
theorem plain_null : plainV null = null := by decide
theorem show_null : showS null = bNull := by simp only [showS, plain_null]; simp [null]
theorem right_bool (b : Bool) : rightS (boolV b) = true := by cases b <;> decide
theorem right_null : rightS null = true := by decide
theorem show_bool (b : Bool) : showS (boolV b) = if b = true then bTrue else bFalse := by
  have := plain_of_right (right_bool b)
  cases b
  · simp only [showS, this]; simp [boolV, fmt_bool]
  · simp only [showS, this]; simp [boolV, fmt_bool]
theorem number_cases (k n : Int) : numberS k n = null ∨ (numberS k n = ⟨k, n, []⟩ ∧ rightS ⟨k, n, []⟩ = true) := by
  unfold numberS plainV
  split
  · rename_i h; exact .inr ⟨rfl, h⟩
  · exact .inl rfl
theorem text_cases (s : List UInt8) : textS s = null ∨ (textS s = ⟨3, 0, s⟩ ∧ rightS ⟨3, 0, s⟩ = true) := by
  unfold textS plainV
  split
  · rename_i h; exact .inr ⟨rfl, h⟩
  · exact .inl rfl
theorem show_int {n : Int} (h : rightS ⟨2, n, []⟩ = true) : showS ⟨2, n, []⟩ = Lib.itoa n := by simp [showS, plain_of_right h]
theorem show_text {s : List UInt8} (h : rightS ⟨3, 0, s⟩ = true) : showS ⟨3, 0, s⟩ = [39] ++ Lib.replaceAll s [39] [39, 39] ++ [39] := by simp [showS, plain_of_right h]
theorem date_cases (a b c d e f : Int) : dateV a b c d e f = null ∨ ((dateV a b c d e f).k = 4 ∧ (dateV a b c d e f).s = [] ∧ rightS (dateV a b c d e f) = true) := by
  unfold dateV
  split
  · rcases number_cases 4 (daysS a b c * 86400 + d * 3600 + e * 60 + f) with h | ⟨h, h2⟩
    · exact .inl h
    · rw [h]; exact .inr ⟨rfl, rfl, h2⟩
  · exact .inl rfl
theorem dread_cases (s : List UInt8) : dreadS s = null ∨ ((dreadS s).k = 4 ∧ rightS (dreadS s) = true ∧ dtextS (dreadS s).n = s) := by
  unfold dreadS
  split
  · split
    · rename_i a b c d e f _
      split
      · exact .inl rfl
      · rename_i h
        rcases date_cases a b c d e f with h2 | h2
        · rw [h2] at h; simp [null] at h
        · exact .inr ⟨h2.1, h2.2.2, by simpa using (not_or.1 h).2⟩
    · exact .inl rfl
  · exact .inl rfl
theorem show_moment {v : Val} (hk : v.k = 4) (hr : rightS v = true) : showS v = 64 :: dtextS v.n := by
  simp [showS, plain_of_right hr, hk]
theorem atoi_null : atoiN bNull = none := by decide +kernel
theorem cand_null : candS bNull = null := by
  unfold candS
  rw [if_neg (by decide), if_neg (by decide), if_neg (by decide), atoi_null]
theorem pre_at (r : List UInt8) : Lib.hasPrefix (64 :: r) [64] = true := by simp [Lib.hasPrefix]
theorem pre_no (c : UInt8) (r : List UInt8) (h : c ≠ 64) : Lib.hasPrefix (c :: r) [64] = false := by
  have : (64 == c) = false := by simpa using Ne.symm h
  simp [Lib.hasPrefix, List.isPrefixOf, this]
theorem cands_cand {s : List UInt8} {v : Val} (hv : v ∈ candsS s) (hs : showS v = s) : v = candS s ∧ rightS (candS s) = true := by
  unfold candsS at hv
  simp only [List.mem_append, List.mem_cons, List.not_mem_nil, or_false] at hv
  have hn : v = null → v = candS s ∧ rightS (candS s) = true := by
    rintro rfl
    rw [show_null] at hs
    rw [← hs, cand_null]
    exact ⟨rfl, right_null⟩
  rcases hv with (((rfl | rfl | rfl) | hv) | hv) | hv
  · exact hn rfl
  · rw [show_bool] at hs
    have hs : bTrue = s := by simpa using hs
    have : candS s = boolV true := by rw [← hs]; unfold candS; rw [if_pos (by decide)]; rfl
    rw [this]; exact ⟨rfl, right_bool _⟩
  · rw [show_bool] at hs
    have hs : bFalse = s := by simpa using hs
    have : candS s = boolV false := by rw [← hs]; unfold candS; rw [if_pos (by decide)]; rfl
    rw [this]; exact ⟨rfl, right_bool _⟩
  · cases ha : atoiN s with
    | none => rw [ha] at hv; simp at hv
    | some n =>
      rw [ha] at hv
      simp only [List.mem_cons, List.not_mem_nil, or_false] at hv
      subst hv
      rcases number_cases 2 n with h | ⟨h, hr⟩
      · exact hn h
      · rw [h] at hs ⊢
        rw [show_int hr] at hs
        obtain ⟨c, r, e, hc⟩ := itoa_first n
        rw [hs] at e
        have h45 : (45 : UInt8).toNat = 45 := rfl
        have hc39 : c ≠ 39 := by rintro rfl; rcases hc with hc | hc; · simp at hc
                                 · simp at hc
        have hc64 : c ≠ 64 := by rintro rfl; rcases hc with hc | hc; · simp at hc
                                 · simp at hc
        have hct : c ≠ 116 := by rintro rfl; rcases hc with hc | hc; · simp at hc
                                 · simp at hc
        have hcf : c ≠ 102 := by rintro rfl; rcases hc with hc | hc; · simp at hc
                                 · simp at hc
        have : candS s = ⟨2, n, []⟩ := by
          unfold candS
          rw [ha, if_neg (by rw [e]; simp [hct, hcf]), if_neg (by rw [e]; simp [hc39]), if_neg (by rw [e, pre_no c r hc64]; simp)]
        rw [this]; exact ⟨rfl, hr⟩
  · by_cases hq : 1 < s.length ∧ s[0]? = some 39
    · rw [if_pos hq] at hv
      simp only [List.mem_cons, List.not_mem_nil, or_false] at hv
      subst hv
      rcases text_cases (Lib.replaceAll (cut s 1 (s.length - 1)) [39, 39] [39]) with h | ⟨h, hr⟩
      · exact hn h
      · rw [h] at hs ⊢
        rw [show_text hr] at hs
        have hlast : s[s.length - 1]? = some 39 := by
          rw [← hs]
          simp
        have hne : s[0]? = some 39 := hq.2
        have : candS s = ⟨3, 0, Lib.replaceAll (cut s 1 (s.length - 1)) [39, 39] [39]⟩ := by
          unfold candS
          rw [if_neg (by rintro (rfl | rfl) <;> simp at hne), if_pos ⟨hq.1, hne, hlast⟩]
        rw [this]; exact ⟨rfl, hr⟩
    · rw [if_neg hq] at hv; simp at hv
  · by_cases hm : (dreadS (Lib.trimPrefix s [64])).k = 4
    · rw [if_pos hm] at hv
      simp only [List.mem_cons, List.not_mem_nil, or_false] at hv
      rcases dread_cases (Lib.trimPrefix s [64]) with h | ⟨h1, h2, h3⟩
      · rw [h] at hm; simp [null] at hm
      · rw [← hv] at h1 h2 h3
        rw [show_moment h1 h2] at hs
        have e : Lib.trimPrefix s [64] = dtextS v.n := h3.symm
        have : candS s = v := by
          unfold candS
          rw [if_neg (by rw [← hs]; simp), if_neg (by rw [← hs]; simp), if_pos (by rw [← hs]; exact pre_at _), hv, e, ← hs]
          rfl
        rw [this]; exact ⟨rfl, h2⟩
    · rw [if_neg hm] at hv; simp at hv
theorem cand_cands {s : List UInt8} (hr : rightS (candS s) = true) : candS s ∈ candsS s := by
  by_cases h1 : s = bTrue ∨ s = bFalse
  · have e : candS s = boolV (decide (s = bTrue)) := by unfold candS; rw [if_pos h1]
    rw [e]
    unfold candsS
    cases decide (s = bTrue) <;> simp
  · by_cases h2 : 2 ≤ s.length ∧ s[0]? = some 39 ∧ s[s.length - 1]? = some 39
    · have e : candS s = ⟨3, 0, Lib.replaceAll (cut s 1 (s.length - 1)) [39, 39] [39]⟩ := by unfold candS; rw [if_neg h1, if_pos h2]
      rw [e] at hr ⊢
      have : textS (Lib.replaceAll (cut s 1 (s.length - 1)) [39, 39] [39]) = ⟨3, 0, Lib.replaceAll (cut s 1 (s.length - 1)) [39, 39] [39]⟩ := plain_of_right hr
      unfold candsS
      rw [if_pos (show 1 < s.length ∧ s[0]? = some 39 from ⟨h2.1, h2.2.1⟩), this]
      simp
    · by_cases h3 : Lib.hasPrefix s [64] = true
      · have e : candS s = dreadS (s.drop 1) := by unfold candS; rw [if_neg h1, if_neg h2, if_pos h3]
        have et : Lib.trimPrefix s [64] = s.drop 1 := by unfold Lib.trimPrefix; rw [if_pos h3]; rfl
        rw [e]
        rcases dread_cases (s.drop 1) with h | ⟨h4, _, _⟩
        · rw [h]; unfold candsS; simp
        · unfold candsS
          rw [et, if_pos h4]; simp
      · cases ha : atoiN s with
        | none =>
          have e : candS s = null := by unfold candS; rw [if_neg h1, if_neg h2, if_neg h3, ha]
          rw [e]; unfold candsS; simp
        | some n =>
          have e : candS s = ⟨2, n, []⟩ := by unfold candS; rw [if_neg h1, if_neg h2, if_neg h3, ha]
          rw [e] at hr ⊢
          have : numberS 2 n = ⟨2, n, []⟩ := plain_of_right hr
          unfold candsS
          rw [ha]
          simp only [this]; simp
theorem read_law (s : List UInt8) : readRS s = readS s := by
  unfold readRS
  cases hf : (candsS s).find? fun v => showS v == s with
  | some v =>
    have h1 := List.mem_of_find?_eq_some hf
    have h2 := List.find?_some hf
    simp only [beq_iff_eq] at h2
    obtain ⟨rfl, hr⟩ := cands_cand h1 h2
    unfold readS
    rw [if_pos ⟨hr, h2⟩]
  | none =>
    unfold readS
    rw [if_neg]
    rintro ⟨hr, hs⟩
    have := List.find?_eq_none.1 hf _ (cand_cands hr)
    simp [hs] at this
def canS (a b : Int) : Bool := within a 1 4 && within b 1 4 && !((a == 1 && b == 4) || (a == 4 && b == 1))
theorem cand_true : candS bTrue = boolV true := by unfold candS; rw [if_pos (by decide)]; rfl
theorem cand_false : candS bFalse = boolV false := by unfold candS; rw [if_pos (by decide)]; rfl
theorem plain_right (v : Val) : rightS (plainV v) = true := by
  unfold plainV
  split
  · assumption
  · exact right_null
theorem c_leap (y : Int) (h : 0 ≤ y) : R K (.call 258 [.int .i64 y] []) = some (.bool (leapS y), []) := by
  rw [call_258]
  simp -implicitDefEqProofs only [go_sem, simprocAttr, Tryz.f258, tm y _ h]
  repeat' ((first | apply split_cond | apply split_yes | apply split_no) <;> intro hc <;> simp -implicitDefEqProofs only [hc, go_sem, simprocAttr, tm y _ h])
  all_goals simp_all [leapS]
theorem r_leap (y : Int) (h : 0 ≤ y) : R K (.call 260 [.int .i64 y] []) = some (.bool (leapS y), []) := by
  rw [call_260]
  simp -implicitDefEqProofs only [go_sem, simprocAttr, Tryz.f260, tm y _ h]
  repeat' ((first | apply split_cond | apply split_yes | apply split_no) <;> intro hc <;> simp -implicitDefEqProofs only [hc, go_sem, simprocAttr, tm y _ h])
  all_goals simp_all [leapS]
theorem c_md (y m : Int) (h : 0 ≤ y) : R K (.call 192 [.int .i64 y, .int .i64 m] []) = some (.int .i64 (mdS y m), []) := by
  rw [call_192]
  simp -implicitDefEqProofs only [go_sem, simprocAttr, Tryz.f192, c_leap y h]
  repeat' ((first | apply split_cond | apply split_yes | apply split_no) <;> intro hc <;> simp -implicitDefEqProofs only [hc, go_sem, simprocAttr, c_leap y h])
  all_goals simp_all [mdS]
theorem r_md (y m : Int) (h : 0 ≤ y) : R K (.call 195 [.int .i64 y, .int .i64 m] []) = some (.int .i64 (mdS y m), []) := by
  rw [call_195]
  simp -implicitDefEqProofs only [go_sem, simprocAttr, Tryz.f195, r_leap y h]
  repeat' ((first | apply split_cond | apply split_yes | apply split_no) <;> intro hc <;> simp -implicitDefEqProofs only [hc, go_sem, simprocAttr, r_leap y h])
  all_goals simp_all [mdS]
theorem r_yearDays (y : Int) (h : 0 ≤ y) : R K (.call 194 [.int .i64 y] []) = some (.int .i64 (lenS y), []) := by
  rw [call_194]
  simp -implicitDefEqProofs only [go_sem, simprocAttr, Tryz.f194, r_leap y h]
  repeat' ((first | apply split_cond | apply split_yes | apply split_no) <;> intro hc <;> simp -implicitDefEqProofs only [hc, go_sem, simprocAttr, r_leap y h])
  all_goals simp_all [lenS]
theorem c_yd (y : Int) (h : 1 ≤ y) (h2 : y ≤ 100000) : R K (.call 191 [.int .i64 y] []) = some (.int .i64 (ydS y), []) := by
  have e1 : wrapI .i64 (y - 1) = y - 1 := wrap_id (by omega) (by omega)
  have e2 : wrapI .i64 (y - 1970) = y - 1970 := wrap_id (by omega) (by omega)
  have e3 : wrapI .i64 (365 * (y - 1970)) = 365 * (y - 1970) := wrap_id (by omega) (by omega)
  have e4 : wrapI .i64 ((y - 1).tdiv 4) = (y - 1) / 4 := by rw [td _ _ (by omega)]; exact wrap_id (by omega) (by omega)
  have e5 : wrapI .i64 (365 * (y - 1970) + (y - 1) / 4) = 365 * (y - 1970) + (y - 1) / 4 := wrap_id (by omega) (by omega)
  have e6 : wrapI .i64 ((y - 1).tdiv 100) = (y - 1) / 100 := by rw [td _ _ (by omega)]; exact wrap_id (by omega) (by omega)
  have e7 : wrapI .i64 (365 * (y - 1970) + (y - 1) / 4 - (y - 1) / 100) = 365 * (y - 1970) + (y - 1) / 4 - (y - 1) / 100 := wrap_id (by omega) (by omega)
  have e8 : wrapI .i64 ((y - 1).tdiv 400) = (y - 1) / 400 := by rw [td _ _ (by omega)]; exact wrap_id (by omega) (by omega)
  have e9 : wrapI .i64 (365 * (y - 1970) + (y - 1) / 4 - (y - 1) / 100 + (y - 1) / 400) = 365 * (y - 1970) + (y - 1) / 4 - (y - 1) / 100 + (y - 1) / 400 := wrap_id (by omega) (by omega)
  have e10 : wrapI .i64 (365 * (y - 1970) + (y - 1) / 4 - (y - 1) / 100 + (y - 1) / 400 - 477) = ydS y := by unfold ydS; exact wrap_id (by omega) (by omega)
  rw [call_191]
  simp -implicitDefEqProofs only [go_sem, simprocAttr, Tryz.f191, e1, e2, e3, e4, e5, e6, e7, e8, e9, e10]
abbrev I (n : Int) : AV := .int .i64 n
theorem yd_lt {y : Int} (h : y ≤ 9999) : ydS (y + 1) ≤ 2932897 := by
  have := yd_mono (y := y + 1) (z := 9999 + 1) (by omega)
  rw [yd_top] at this
  omega
theorem l_dateOf0 (d rest z : Int) (h1 : ydS z ≤ d) (h2 : d < ydS (z + 1)) (hz : z ≤ 9999) (ks : List It) : ∀ (m : Nat) (y : Int) (B : Code), Loop Tryz.f127 0 B → y + m = z → 1970 ≤ y →
   RL K (.run 127 0 (.code B :: .lp B (some ([2, 3, 4, 5], [])) 1 :: .blk 0 1 :: ks) [(2, .ptr 0 0), (3, I d), (4, I rest), (5, I y)] [.cells [I 0, I 0, I 0, I 0, I 0, I 0]]) =
   R K (.run 127 0 ks [(2, .ptr 0 0), (3, I d), (4, I rest), (5, I z)] [.cells [I 0, I 0, I 0, I 0, I 0, I 0]])
  | 0, y, B, hB, hm, hy => by
    have hzy : y = z := by omega
    subst hzy
    have e1 : wrapI .i64 (y + 1) = y + 1 := wrap_id (by omega) (by omega)
    have e2 := c_yd (y + 1) (by omega) (by omega)
    have e3 : decide (ydS (y + 1) ≤ d) = false := by simp; omega
    unfold Loop at hB
    simp -implicitDefEqProofs only [go_sem, simprocAttr, Tryz.f127, loopOf] at hB
    subst hB
    rw [RL_eq]
    simp -implicitDefEqProofs only [go_sem, simprocAttr, e1, e2, e3]
  | m + 1, y, B, hB, hm, hy => by
    have hB' := hB
    have e1 : wrapI .i64 (y + 1) = y + 1 := wrap_id (by omega) (by omega)
    have e2 := c_yd (y + 1) (by omega) (by omega)
    have e3 : decide (ydS (y + 1) ≤ d) = true := by
      have := yd_mono (y := y + 1) (z := z) (by omega)
      simp; omega
    have ih := l_dateOf0 d rest z h1 h2 hz ks m (y + 1) B hB' (by omega) (by omega)
    unfold Loop at hB
    simp -implicitDefEqProofs only [go_sem, simprocAttr, Tryz.f127, loopOf] at hB
    subst hB
    rw [RL_eq]
    simp -implicitDefEqProofs only [go_sem, simprocAttr, e1, e2, e3, ih]
theorem md_wrap (y m r : Int) (h0 : 0 ≤ r) (h1 : r ≤ 400) : wrapI .i64 (r - mdS y m) = r - mdS y m := by
  have := md_pos y m
  exact wrap_id (by omega) (by omega)
theorem l_dateOf2 (y rest : Int) (h0 : 0 ≤ y) (ks : List It) : ∀ (f : Nat) (m r : Int) (B : Code), Loop Tryz.f127 2 B → 0 ≤ r → r < restS f y m → r ≤ 400 → 0 ≤ m → m + f ≤ 100 →
   RL K (.run 127 0 (.code B :: .lp B (some ([2, 3, 4, 5, 6], [])) 1 :: .blk 2 1 :: ks) [(2, .ptr 0 0), (3, I r), (4, I rest), (5, I y), (6, I m)] [.cells [I 0, I 0, I 0, I 0, I 0, I 0]]) =
   R K (.run 127 0 ks [(2, .ptr 0 0), (3, I (monthUp f y m r).2), (4, I rest), (5, I y), (6, I (monthUp f y m r).1)] [.cells [I 0, I 0, I 0, I 0, I 0, I 0]])
  | 0, m, r, B, hB, hr, hl, _, _, _ => by simp only [restS] at hl; omega
  | f + 1, m, r, B, hB, hr, hl, hr4, hm0, hm => by
    have hB' := hB
    simp only [restS] at hl
    have e1 := c_md y m h0
    have e2 := md_wrap y m r hr hr4
    have e3 : wrapI .i64 (m + 1) = m + 1 := wrap_id (by omega) (by omega)
    have hp := md_pos y m
    by_cases h : mdS y m ≤ r
    · have e4 : decide (mdS y m ≤ r) = true := by simp [h]
      have ih := l_dateOf2 y rest h0 ks f (m + 1) (r - mdS y m) B hB' (by omega) (by omega) (by omega) (by omega) (by omega)
      have e5 : monthUp (f + 1) y m r = monthUp f y (m + 1) (r - mdS y m) := by simp only [monthUp]; rw [if_pos h]
      rw [e5]
      unfold Loop at hB
      simp -implicitDefEqProofs only [go_sem, simprocAttr, Tryz.f127, loopOf] at hB
      subst hB
      rw [RL_eq]
      simp -implicitDefEqProofs only [go_sem, simprocAttr, e1, e2, e3, e4, ih]
    · have e4 : decide (mdS y m ≤ r) = false := by simpa using h
      have e5 : monthUp (f + 1) y m r = (m, r) := by simp only [monthUp]; rw [if_neg h]
      rw [e5]
      unfold Loop at hB
      simp -implicitDefEqProofs only [go_sem, simprocAttr, Tryz.f127, loopOf] at hB
      subst hB
      rw [RL_eq]
      simp -implicitDefEqProofs only [go_sem, simprocAttr, e1, e4]
theorem c_dateOf (n : Int) (h0 : 0 ≤ n) (h1 : n ≤ 253402300799) : R K (.call 127 [I n] []) = some (.agg ((dateS n).map I), []) := by
  have hb := date_bounds h0 h1
  have hs := year_spec (d := n / 86400) (by omega)
  have hlow := year_low (d := n / 86400) (by omega)
  have hlen := yd_next (yearS (n / 86400))
  have hlp := len_pos (yearS (n / 86400))
  have e1 : wrapI .i64 (n.tdiv 86400) = n / 86400 := by rw [td _ _ h0]; exact wrap_id (by omega) (by omega)
  have e2 : n.tmod 86400 = n % 86400 := tm _ _ h0
  have e3 : wrapI .i64 ((n / 86400).tdiv 366) = n / 86400 / 366 := by rw [td _ _ (by omega)]; exact wrap_id (by omega) (by omega)
  have e4 : wrapI .i64 (1970 + n / 86400 / 366) = 1970 + n / 86400 / 366 := wrap_id (by omega) (by omega)
  have e5 := c_yd (yearS (n / 86400)) (by omega) (by omega)
  have e6 : wrapI .i64 (n / 86400 - ydS (yearS (n / 86400))) = n / 86400 - ydS (yearS (n / 86400)) := wrap_id (by omega) (by omega)
  have e7 : wrapI .i64 ((ymS n).2 + 1) = (ymS n).2 + 1 := by have := md_pos (yearS (n / 86400)) (ymS n).1; exact wrap_id (by omega) (by omega)
  have e8 : wrapI .i64 ((n % 86400).tdiv 3600) = n % 86400 / 3600 := by rw [td _ _ (by omega)]; exact wrap_id (by omega) (by omega)
  have e9 : (n % 86400).tmod 3600 = n % 86400 % 3600 := tm _ _ (by omega)
  have e10 : wrapI .i64 ((n % 86400 % 3600).tdiv 60) = n % 86400 % 3600 / 60 := by rw [td _ _ (by omega)]; exact wrap_id (by omega) (by omega)
  have e11 : (n % 86400).tmod 60 = n % 86400 % 60 := tm _ _ (by omega)
  have hm : monthUp 12 (yearS (n / 86400)) 1 (n / 86400 - ydS (yearS (n / 86400))) = ymS n := rfl
  rw [call_127]
  simp -implicitDefEqProofs only [go_sem, simprocAttr, Tryz.f127, e1, e2, e3, e4]
  rw [l_dateOf0 (n / 86400) (n % 86400) (yearS (n / 86400)) hs.2.1 hs.2.2 hb.2.1 _ (yearS (n / 86400) - (1970 + n / 86400 / 366)).toNat _ _ ?_ (by omega) (by omega)]
  · simp -implicitDefEqProofs only [go_sem, simprocAttr, e5, e6]
    rw [l_dateOf2 (yearS (n / 86400)) (n % 86400) (by omega) _ 12 1 _ _ ?_ (by omega) (by rw [rest_len]; omega) (by omega) (by omega) (by omega), hm]
    · simp -implicitDefEqProofs only [go_sem, simprocAttr, e7, e8, e9, e10, e11]
      rfl
    · rfl
  · rfl
theorem l_parts0 (d n z : Int) (h1 : ydS z ≤ d) (h2 : d < ydS (z + 1)) (hz : z ≤ 9999) (hd : 0 ≤ d ∧ d ≤ 3000000) (ks : List It) : ∀ (m : Nat) (y : Int) (B : Code), Loop Tryz.f130 0 B → y + m = z → 1970 ≤ y →
   RL K (.run 130 0 (.code B :: .lp B (some ([0, 2, 3, 4, 5], [])) 1 :: .blk 0 1 :: ks) [(0, I n), (2, .ptr 0 0), (3, I (d - ydS y)), (4, I y), (5, I 1)] [.cells [I 0, I 0, I 0, I 0, I 0, I 0]]) =
   R K (.run 130 0 ks [(0, I n), (2, .ptr 0 0), (3, I (d - ydS z)), (4, I z), (5, I 1)] [.cells [I 0, I 0, I 0, I 0, I 0, I 0]])
  | 0, y, B, hB, hm, hy => by
    have hzy : y = z := by omega
    subst hzy
    have e2 := r_yearDays y (by omega)
    have e3 : decide (lenS y ≤ d - ydS y) = false := by have := yd_next y; simp; omega
    unfold Loop at hB
    simp -implicitDefEqProofs only [go_sem, simprocAttr, Tryz.f130, loopOf] at hB
    subst hB
    rw [RL_eq]
    simp -implicitDefEqProofs only [go_sem, simprocAttr, e2, e3]
  | m + 1, y, B, hB, hm, hy => by
    have hB' := hB
    have e1 : wrapI .i64 (y + 1) = y + 1 := wrap_id (by omega) (by omega)
    have e2 := r_yearDays y (by omega)
    have en := yd_next y
    have el := len_pos y
    have em := yd_mono (y := y + 1) (z := z) (by omega)
    have e3 : decide (lenS y ≤ d - ydS y) = true := by rw [decide_eq_true_eq]; omega
    have e0 := yd_mono (y := 1970) (z := y) hy
    rw [yd0] at e0
    have e4 : wrapI .i64 (d - ydS y - lenS y) = d - ydS (y + 1) := by rw [wrap_id (by omega) (by omega)]; omega
    have ih := l_parts0 d n z h1 h2 hz hd ks m (y + 1) B hB' (by omega) (by omega)
    unfold Loop at hB
    simp -implicitDefEqProofs only [go_sem, simprocAttr, Tryz.f130, loopOf] at hB
    subst hB
    rw [RL_eq]
    simp -implicitDefEqProofs only [go_sem, simprocAttr, e1, e2, e3, e4, ih]
theorem l_parts2 (y n : Int) (h0 : 0 ≤ y) (ks : List It) : ∀ (f : Nat) (m r : Int) (B : Code), Loop Tryz.f130 2 B → 0 ≤ r → r < restS f y m → r ≤ 400 → 0 ≤ m → m + f ≤ 100 →
   RL K (.run 130 0 (.code B :: .lp B (some ([0, 2, 3, 4, 5], [])) 1 :: .blk 2 1 :: ks) [(0, I n), (2, .ptr 0 0), (3, I r), (4, I y), (5, I m)] [.cells [I 0, I 0, I 0, I 0, I 0, I 0]]) =
   R K (.run 130 0 ks [(0, I n), (2, .ptr 0 0), (3, I (monthUp f y m r).2), (4, I y), (5, I (monthUp f y m r).1)] [.cells [I 0, I 0, I 0, I 0, I 0, I 0]])
  | 0, m, r, B, hB, hr, hl, _, _, _ => by simp only [restS] at hl; omega
  | f + 1, m, r, B, hB, hr, hl, hr4, hm0, hm => by
    have hB' := hB
    simp only [restS] at hl
    have e1 := r_md y m h0
    have e2 := md_wrap y m r hr hr4
    have e3 : wrapI .i64 (m + 1) = m + 1 := wrap_id (by omega) (by omega)
    have hp := md_pos y m
    by_cases h : mdS y m ≤ r
    · have e4 : decide (mdS y m ≤ r) = true := by simp [h]
      have ih := l_parts2 y n h0 ks f (m + 1) (r - mdS y m) B hB' (by omega) (by omega) (by omega) (by omega) (by omega)
      have e5 : monthUp (f + 1) y m r = monthUp f y (m + 1) (r - mdS y m) := by simp only [monthUp]; rw [if_pos h]
      rw [e5]
      unfold Loop at hB
      simp -implicitDefEqProofs only [go_sem, simprocAttr, Tryz.f130, loopOf] at hB
      subst hB
      rw [RL_eq]
      simp -implicitDefEqProofs only [go_sem, simprocAttr, e1, e2, e3, e4, ih]
    · have e4 : decide (mdS y m ≤ r) = false := by simpa using h
      have e5 : monthUp (f + 1) y m r = (m, r) := by simp only [monthUp]; rw [if_neg h]
      rw [e5]
      unfold Loop at hB
      simp -implicitDefEqProofs only [go_sem, simprocAttr, Tryz.f130, loopOf] at hB
      subst hB
      rw [RL_eq]
      simp -implicitDefEqProofs only [go_sem, simprocAttr, e1, e4]
theorem r_parts (n : Int) (h0 : 0 ≤ n) (h1 : n ≤ 253402300799) : R K (.call 130 [I n] []) = some (.agg ((dateS n).reverse.map I), []) := by
  have hb := date_bounds h0 h1
  have hs := year_spec (d := n / 86400) (by omega)
  have hlen := yd_next (yearS (n / 86400))
  have hlp := len_pos (yearS (n / 86400))
  have e1 : wrapI .i64 (n.tdiv 86400) = n / 86400 := by rw [td _ _ h0]; exact wrap_id (by omega) (by omega)
  have e7 : wrapI .i64 ((ymS n).2 + 1) = (ymS n).2 + 1 := by have := md_pos (yearS (n / 86400)) (ymS n).1; exact wrap_id (by omega) (by omega)
  have e8 : n.tmod 60 = n % 86400 % 60 := by rw [tm _ _ h0]; omega
  have e9 : wrapI .i64 (n.tdiv 60) = n / 60 := by rw [td _ _ h0]; exact wrap_id (by omega) (by omega)
  have e10 : (n / 60).tmod 60 = n % 86400 % 3600 / 60 := by rw [tm _ _ (by omega)]; omega
  have e11 : wrapI .i64 (n.tdiv 3600) = n / 3600 := by rw [td _ _ h0]; exact wrap_id (by omega) (by omega)
  have e12 : (n / 3600).tmod 24 = n % 86400 / 3600 := by rw [tm _ _ (by omega)]; omega
  have hm : monthUp 12 (yearS (n / 86400)) 1 (n / 86400 - ydS (yearS (n / 86400))) = ymS n := rfl
  have e13 : n / 86400 = n / 86400 - ydS 1970 := by rw [yd0]; omega
  rw [call_130]
  simp -implicitDefEqProofs only [go_sem, simprocAttr, Tryz.f130, e1]
  have l0 := l_parts0 (n / 86400) n (yearS (n / 86400)) hs.2.1 hs.2.2 hb.2.1 ⟨by omega, by omega⟩
  rw [show ((.int .i64 (n / 86400)) : AV) = I (n / 86400 - ydS 1970) from congrArg I e13]
  rw [l0 _ (yearS (n / 86400) - 1970).toNat 1970 _ ?_ (by omega) (by omega)]
  · simp -implicitDefEqProofs only [go_sem, simprocAttr]
    rw [l_parts2 (yearS (n / 86400)) n (by omega) _ 12 1 _ _ ?_ (by omega) (by rw [rest_len]; omega) (by omega) (by omega) (by omega), hm]
    · simp -implicitDefEqProofs only [go_sem, simprocAttr, e7, e8, e9, e10, e11, e12]
      rfl
    · rfl
  · rfl
theorem ahead_bounds (y : Int) : ∀ k : Nat, 0 ≤ aheadS k y ∧ aheadS k y ≤ 31 * k
  | 0 => by simp [aheadS]
  | k + 1 => by
    have ih := ahead_bounds y k
    have := md_pos y ((k + 1 : Nat) : Int)
    simp only [aheadS]
    omega
theorem l_Date (y m h mi s base : Int) (h0 : 0 ≤ y) (hm1 : 1 ≤ m) (hm2 : m ≤ 12) (hb : 0 ≤ base ∧ base ≤ 3000000) (ks : List It) : ∀ (j k : Nat) (B : Code), Loop Tryz.f183 0 B → ((k + j + 1 : Nat) : Int) = m →
   RL K (.run 183 0 (.code B :: .lp B (some ([0, 1, 3, 4, 5, 12, 13, 14], [])) 1 :: .blk 0 1 :: ks) [(0, I y), (1, I m), (3, I h), (4, I mi), (5, I s), (12, .ptr 0 0), (13, I (base + aheadS k y)), (14, I ((k + 1 : Nat) : Int))] [.cells [I 0, I 0, .str []]]) =
   R K (.run 183 0 ks [(3, I h), (4, I mi), (5, I s), (12, .ptr 0 0), (13, I (base + aheadS (m - 1).toNat y))] [.cells [I 0, I 0, .str []]])
  | 0, k, B, hB, hj => by
    have e1 : decide (((k + 1 : Nat) : Int) < m) = false := by simp; omega
    have e2 : (m - 1).toNat = k := by omega
    rw [e2]
    unfold Loop at hB
    simp -implicitDefEqProofs only [go_sem, simprocAttr, Tryz.f183, loopOf] at hB
    subst hB
    rw [RL_eq]
    simp -implicitDefEqProofs only [go_sem, simprocAttr, e1]
  | j + 1, k, B, hB, hj => by
    have hB' := hB
    have e1 : decide (((k + 1 : Nat) : Int) < m) = true := by rw [decide_eq_true_eq]; omega
    have e2 := c_md y ((k + 1 : Nat) : Int) h0
    have e3 : wrapI .i64 (((k + 1 : Nat) : Int) + 1) = ((k + 1 + 1 : Nat) : Int) := next_id (i := k + 1) (n := 1000) (by omega) (by omega)
    have ha := ahead_bounds y k
    have hp := md_pos y ((k + 1 : Nat) : Int)
    have e4 : wrapI .i64 (base + aheadS k y + mdS y ((k + 1 : Nat) : Int)) = base + aheadS (k + 1) y := by
      rw [wrap_id (by omega) (by omega)]; simp only [aheadS]; omega
    have ih := l_Date y m h mi s base h0 hm1 hm2 hb ks j (k + 1) B hB' (by omega)
    unfold Loop at hB
    simp -implicitDefEqProofs only [go_sem, simprocAttr, Tryz.f183, loopOf] at hB
    subst hB
    rw [RL_eq]
    simp -implicitDefEqProofs only [go_sem, simprocAttr, e1, e2, e3, e4, ih]
theorem l_Dated0 (y m h mi s base : Int) (h0 : 1970 ≤ y) (hy : y ≤ 9999) (hb : 0 ≤ base ∧ base ≤ 100) (ks : List It) : ∀ (j : Nat) (k : Int) (B : Code), Loop Tryz.f136 0 B → k + j = y → 1970 ≤ k →
   RL K (.run 136 0 (.code B :: .lp B (some ([0, 1, 3, 4, 5, 12, 13, 14], [])) 1 :: .blk 0 1 :: ks) [(0, I y), (1, I m), (3, I h), (4, I mi), (5, I s), (12, .ptr 0 0), (13, I (base + ydS k)), (14, I k)] [.cells [I 0, I 0, .str []]]) =
   R K (.run 136 0 ks [(0, I y), (1, I m), (3, I h), (4, I mi), (5, I s), (12, .ptr 0 0), (13, I (base + ydS y))] [.cells [I 0, I 0, .str []]])
  | 0, k, B, hB, hj, hk => by
    have hky : k = y := by omega
    subst hky
    have e1 : decide (k < k) = false := by simp
    unfold Loop at hB
    simp -implicitDefEqProofs only [go_sem, simprocAttr, Tryz.f136, loopOf] at hB
    subst hB
    rw [RL_eq]
    simp -implicitDefEqProofs only [go_sem, simprocAttr, e1]
  | j + 1, k, B, hB, hj, hk => by
    have hB' := hB
    have e1 : decide (k < y) = true := by rw [decide_eq_true_eq]; omega
    have e2 := r_yearDays k (by omega)
    have e3 : wrapI .i64 (k + 1) = k + 1 := wrap_id (by omega) (by omega)
    have en := yd_next k
    have el := len_pos k
    have et := yd_lt (y := k) (by omega)
    have e0 := yd_mono (y := 1970) (z := k) hk
    rw [yd0] at e0
    have e4 : wrapI .i64 (base + ydS k + lenS k) = base + ydS (k + 1) := by
      rw [wrap_id (by omega) (by omega)]; omega
    have ih := l_Dated0 y m h mi s base h0 hy hb ks j (k + 1) B hB' (by omega) (by omega)
    unfold Loop at hB
    simp -implicitDefEqProofs only [go_sem, simprocAttr, Tryz.f136, loopOf] at hB
    subst hB
    rw [RL_eq]
    simp -implicitDefEqProofs only [go_sem, simprocAttr, e1, e2, e3, e4, ih]
theorem l_Dated2 (y m h mi s base : Int) (h0 : 0 ≤ y) (hm1 : 1 ≤ m) (hm2 : m ≤ 12) (hb : 0 ≤ base ∧ base ≤ 3000000) (ks : List It) : ∀ (j k : Nat) (B : Code), Loop Tryz.f136 2 B → ((k + j + 1 : Nat) : Int) = m →
   RL K (.run 136 0 (.code B :: .lp B (some ([0, 1, 3, 4, 5, 12, 13, 15], [])) 1 :: .blk 2 1 :: ks) [(0, I y), (1, I m), (3, I h), (4, I mi), (5, I s), (12, .ptr 0 0), (13, I (base + aheadS k y)), (15, I ((k + 1 : Nat) : Int))] [.cells [I 0, I 0, .str []]]) =
   R K (.run 136 0 ks [(3, I h), (4, I mi), (5, I s), (12, .ptr 0 0), (13, I (base + aheadS (m - 1).toNat y))] [.cells [I 0, I 0, .str []]])
  | 0, k, B, hB, hj => by
    have e1 : decide (((k + 1 : Nat) : Int) < m) = false := by simp; omega
    have e2 : (m - 1).toNat = k := by omega
    rw [e2]
    unfold Loop at hB
    simp -implicitDefEqProofs only [go_sem, simprocAttr, Tryz.f136, loopOf] at hB
    subst hB
    rw [RL_eq]
    simp -implicitDefEqProofs only [go_sem, simprocAttr, e1]
  | j + 1, k, B, hB, hj => by
    have hB' := hB
    have e1 : decide (((k + 1 : Nat) : Int) < m) = true := by rw [decide_eq_true_eq]; omega
    have e2 := r_md y ((k + 1 : Nat) : Int) h0
    have e3 : wrapI .i64 (((k + 1 : Nat) : Int) + 1) = ((k + 1 + 1 : Nat) : Int) := next_id (i := k + 1) (n := 1000) (by omega) (by omega)
    have ha := ahead_bounds y k
    have hp := md_pos y ((k + 1 : Nat) : Int)
    have e4 : wrapI .i64 (base + aheadS k y + mdS y ((k + 1 : Nat) : Int)) = base + aheadS (k + 1) y := by
      rw [wrap_id (by omega) (by omega)]; simp only [aheadS]; omega
    have ih := l_Dated2 y m h mi s base h0 hm1 hm2 hb ks j (k + 1) B hB' (by omega)
    unfold Loop at hB
    simp -implicitDefEqProofs only [go_sem, simprocAttr, Tryz.f136, loopOf] at hB
    subst hB
    rw [RL_eq]
    simp -implicitDefEqProofs only [go_sem, simprocAttr, e1, e2, e3, e4, ih]
theorem wit_iff (x a b : Int) : within x a b = true ↔ a ≤ x ∧ x ≤ b := by simp [within]
theorem within_no {x a b : Int} (h : ¬ (a ≤ x ∧ x ≤ b)) : within x a b = false := by
  rw [Bool.eq_false_iff]; exact fun e => h ((wit_iff x a b).1 e)
theorem dateV_no {y m d h mi s : Int} (H : ¬ (1970 ≤ y ∧ y ≤ 9999 ∧ 1 ≤ m ∧ m ≤ 12 ∧ 1 ≤ d ∧ d ≤ mdS y m ∧ 0 ≤ h ∧ h ≤ 23 ∧ 0 ≤ mi ∧ mi ≤ 59 ∧ 0 ≤ s ∧ s ≤ 59)) : dateV y m d h mi s = null := if_neg H
theorem c_Date (y m d h mi s : Int) : R K (.call 183 [I y, I m, I d, I h, I mi, I s] []) = some (enc (dateV y m d h mi s), []) := by
  by_cases hy : ¬ (1970 ≤ y ∧ y ≤ 9999)
  · rw [dateV_no (by omega)]
    have w := within_no hy
    rw [call_183]
    simp -implicitDefEqProofs only [go_sem, simprocAttr, Tryz.f183, c_within, w]
    rfl
  have hy := Decidable.not_not.1 hy
  have wy := (wit_iff y 1970 9999).2 hy
  by_cases hm : ¬ (1 ≤ m ∧ m ≤ 12)
  · rw [dateV_no (by omega)]
    have w := within_no hm
    rw [call_183]
    simp -implicitDefEqProofs only [go_sem, simprocAttr, Tryz.f183, c_within, wy, w]
    rfl
  have hm := Decidable.not_not.1 hm
  have wm := (wit_iff m 1 12).2 hm
  have e1 := c_md y m (by omega)
  by_cases hd : ¬ (1 ≤ d ∧ d ≤ mdS y m)
  · rw [dateV_no (by omega)]
    have w := within_no hd
    rw [call_183]
    simp -implicitDefEqProofs only [go_sem, simprocAttr, Tryz.f183, c_within, wy, wm, e1, w]
    rfl
  have hd := Decidable.not_not.1 hd
  have wd := (wit_iff d 1 (mdS y m)).2 hd
  by_cases hh : ¬ (0 ≤ h ∧ h ≤ 23)
  · rw [dateV_no (by omega)]
    have w := within_no hh
    rw [call_183]
    simp -implicitDefEqProofs only [go_sem, simprocAttr, Tryz.f183, c_within, wy, wm, e1, wd, w]
    rfl
  have hh := Decidable.not_not.1 hh
  have wh := (wit_iff h 0 23).2 hh
  by_cases hi : ¬ (0 ≤ mi ∧ mi ≤ 59)
  · rw [dateV_no (by omega)]
    have w := within_no hi
    rw [call_183]
    simp -implicitDefEqProofs only [go_sem, simprocAttr, Tryz.f183, c_within, wy, wm, e1, wd, wh, w]
    rfl
  have hi := Decidable.not_not.1 hi
  have wi := (wit_iff mi 0 59).2 hi
  by_cases hs : ¬ (0 ≤ s ∧ s ≤ 59)
  · rw [dateV_no (by omega)]
    have w := within_no hs
    rw [call_183]
    simp -implicitDefEqProofs only [go_sem, simprocAttr, Tryz.f183, c_within, wy, wm, e1, wd, wh, wi, w]
    rfl
  have hs := Decidable.not_not.1 hs
  have ws := (wit_iff s 0 59).2 hs
  have hv : dateV y m d h mi s = numberS 4 (daysS y m d * 86400 + h * 3600 + mi * 60 + s) := if_pos ⟨hy.1, hy.2, hm.1, hm.2, hd.1, hd.2, hh.1, hh.2, hi.1, hi.2, hs.1, hs.2⟩
  have e0 := yd_mono (y := 1970) (z := y) hy.1
  rw [yd0] at e0
  have et := yd_lt hy.2
  have en := yd_next y
  have el := len_pos y
  have em := md_pos y m
  have ea := ahead_bounds y (m - 1).toNat
  have e2 := c_yd y (by omega) (by omega)
  have e3 : wrapI .i64 (ydS y + d) = ydS y + d := wrap_id (by omega) (by omega)
  have e4 : wrapI .i64 (ydS y + d - 1) = ydS y + d - 1 + aheadS 0 y := by rw [wrap_id (by omega) (by omega)]; simp [aheadS]
  have e5 : wrapI .i64 ((ydS y + d - 1 + aheadS (m - 1).toNat y) * 86400) = daysS y m d * 86400 := by rw [wrap_id (by omega) (by omega)]; unfold daysS; omega
  have e6 : wrapI .i64 (h * 3600) = h * 3600 := wrap_id (by omega) (by omega)
  have e7 : wrapI .i64 (daysS y m d * 86400 + h * 3600) = daysS y m d * 86400 + h * 3600 := wrap_id (by unfold daysS; omega) (by unfold daysS; omega)
  have e8 : wrapI .i64 (mi * 60) = mi * 60 := wrap_id (by omega) (by omega)
  have e9 : wrapI .i64 (daysS y m d * 86400 + h * 3600 + mi * 60) = daysS y m d * 86400 + h * 3600 + mi * 60 := wrap_id (by unfold daysS; omega) (by unfold daysS; omega)
  have e10 : wrapI .i64 (daysS y m d * 86400 + h * 3600 + mi * 60 + s) = daysS y m d * 86400 + h * 3600 + mi * 60 + s := wrap_id (by unfold daysS; omega) (by unfold daysS; omega)
  rw [hv]
  rw [call_183]
  simp -implicitDefEqProofs only [go_sem, simprocAttr, Tryz.f183, c_within, wy, wm, e1, wd, wh, wi, ws, e2, e3, e4]
  have ld := l_Date y m h mi s (ydS y + d - 1) (by omega) hm.1 hm.2 ⟨by omega, by omega⟩
  have ld := fun ks B hB => ld ks (m - 1).toNat 0 B hB (by omega)
  rw [show ((0 + 1 : Nat) : Int) = 1 from rfl] at ld
  rw [ld _ _ ?_]
  · simp -implicitDefEqProofs only [go_sem, simprocAttr, e5, e6, e7, e8, e9, e10, c_number]
  · rfl
theorem r_Dated (y m d h mi s : Int) : R K (.call 136 [I y, I m, I d, I h, I mi, I s] []) = some (enc (dateV y m d h mi s), []) := by
  by_cases hy : ¬ (1970 ≤ y ∧ y ≤ 9999)
  · rw [dateV_no (by omega)]
    have w := within_no hy
    rw [call_136]
    simp -implicitDefEqProofs only [go_sem, simprocAttr, Tryz.f136, r_within, w]
    rfl
  have hy := Decidable.not_not.1 hy
  have wy := (wit_iff y 1970 9999).2 hy
  by_cases hm : ¬ (1 ≤ m ∧ m ≤ 12)
  · rw [dateV_no (by omega)]
    have w := within_no hm
    rw [call_136]
    simp -implicitDefEqProofs only [go_sem, simprocAttr, Tryz.f136, r_within, wy, w]
    rfl
  have hm := Decidable.not_not.1 hm
  have wm := (wit_iff m 1 12).2 hm
  have e1 := r_md y m (by omega)
  by_cases hd : ¬ (1 ≤ d ∧ d ≤ mdS y m)
  · rw [dateV_no (by omega)]
    have w := within_no hd
    rw [call_136]
    simp -implicitDefEqProofs only [go_sem, simprocAttr, Tryz.f136, r_within, wy, wm, e1, w]
    rfl
  have hd := Decidable.not_not.1 hd
  have wd := (wit_iff d 1 (mdS y m)).2 hd
  by_cases hh : ¬ (0 ≤ h ∧ h ≤ 23)
  · rw [dateV_no (by omega)]
    have w := within_no hh
    rw [call_136]
    simp -implicitDefEqProofs only [go_sem, simprocAttr, Tryz.f136, r_within, wy, wm, e1, wd, w]
    rfl
  have hh := Decidable.not_not.1 hh
  have wh := (wit_iff h 0 23).2 hh
  by_cases hi : ¬ (0 ≤ mi ∧ mi ≤ 59)
  · rw [dateV_no (by omega)]
    have w := within_no hi
    rw [call_136]
    simp -implicitDefEqProofs only [go_sem, simprocAttr, Tryz.f136, r_within, wy, wm, e1, wd, wh, w]
    rfl
  have hi := Decidable.not_not.1 hi
  have wi := (wit_iff mi 0 59).2 hi
  by_cases hs : ¬ (0 ≤ s ∧ s ≤ 59)
  · rw [dateV_no (by omega)]
    have w := within_no hs
    rw [call_136]
    simp -implicitDefEqProofs only [go_sem, simprocAttr, Tryz.f136, r_within, wy, wm, e1, wd, wh, wi, w]
    rfl
  have hs := Decidable.not_not.1 hs
  have ws := (wit_iff s 0 59).2 hs
  have hv : dateV y m d h mi s = numberS 4 (daysS y m d * 86400 + h * 3600 + mi * 60 + s) := if_pos ⟨hy.1, hy.2, hm.1, hm.2, hd.1, hd.2, hh.1, hh.2, hi.1, hi.2, hs.1, hs.2⟩
  have e0 := yd_mono (y := 1970) (z := y) hy.1
  rw [yd0] at e0
  have et := yd_lt hy.2
  have en := yd_next y
  have el := len_pos y
  have em := md_pos y m
  have ea := ahead_bounds y (m - 1).toNat
  have e4 : wrapI .i64 (d - 1) = d - 1 + ydS 1970 := by rw [wrap_id (by omega) (by omega), yd0]; omega
  have e5 : d - 1 + ydS y = d - 1 + ydS y + aheadS 0 y := by simp [aheadS]
  have e6 : wrapI .i64 ((d - 1 + ydS y + aheadS (m - 1).toNat y) * 24) = daysS y m d * 24 := by rw [wrap_id (by omega) (by omega)]; unfold daysS; omega
  have e7 : wrapI .i64 (daysS y m d * 24 + h) = daysS y m d * 24 + h := wrap_id (by unfold daysS; omega) (by unfold daysS; omega)
  have e8 : wrapI .i64 ((daysS y m d * 24 + h) * 60) = daysS y m d * 1440 + h * 60 := by rw [wrap_id (by unfold daysS; omega) (by unfold daysS; omega)]; omega
  have e9 : wrapI .i64 (daysS y m d * 1440 + h * 60 + mi) = daysS y m d * 1440 + h * 60 + mi := wrap_id (by unfold daysS; omega) (by unfold daysS; omega)
  have e10 : wrapI .i64 ((daysS y m d * 1440 + h * 60 + mi) * 60) = daysS y m d * 86400 + h * 3600 + mi * 60 := by rw [wrap_id (by unfold daysS; omega) (by unfold daysS; omega)]; omega
  have e11 : wrapI .i64 (daysS y m d * 86400 + h * 3600 + mi * 60 + s) = daysS y m d * 86400 + h * 3600 + mi * 60 + s := wrap_id (by unfold daysS; omega) (by unfold daysS; omega)
  rw [hv]
  rw [call_136]
  simp -implicitDefEqProofs only [go_sem, simprocAttr, Tryz.f136, r_within, wy, wm, e1, wd, wh, wi, ws, e4]
  have l0 := l_Dated0 y m h mi s (d - 1) hy.1 hy.2 ⟨by omega, by omega⟩
  rw [l0 _ (y - 1970).toNat 1970 _ ?_ (by omega) (by omega)]
  · simp -implicitDefEqProofs only [go_sem, simprocAttr]
    rw [e5]
    have l2 := l_Dated2 y m h mi s (d - 1 + ydS y) (by omega) hm.1 hm.2 ⟨by omega, by omega⟩
    have l2 := fun ks B hB => l2 ks (m - 1).toNat 0 B hB (by omega)
    rw [show ((0 + 1 : Nat) : Int) = 1 from rfl] at l2
    rw [l2 _ _ ?_]
    · simp -implicitDefEqProofs only [go_sem, simprocAttr, e6, e7, e8, e9, e10, e11, r_moment]
    · rfl
  · rfl
theorem p_Itoa (n : Int) (h0 : -9223372036854775808 ≤ n) (h1 : n ≤ 9223372036854775807) : R K (.call 59 [I n] []) = some (.str (Lib.itoa n), []) :=
  R_prim (by show pItoa [I n] = _; simp only [pItoa]; rw [if_pos (by simp [fits, h0, h1])])
theorem p_Repeat (s : List UInt8) (c : Nat) (h : c ≤ 1000) (hs : s.length ≤ 1000) : R K (.call 103 [.str s, I (c : Int)] []) = some (.str (Lib.repeatL s c), []) :=
  R_prim (by
    show pRepeat [.str s, I (c : Int)] = _
    simp only [pRepeat]
    have : s.length * c ≤ 1000 * 1000 := Nat.mul_le_mul hs h
    rw [if_pos (by simp only [Bool.and_eq_true, decide_eq_true_eq, Int.toNat_natCast]; omega), Int.toNat_natCast])
theorem p_Bool (b : Bool) : R K (.call 58 [.bool b] []) = some (.str (Lib.formatBool b), []) := R_prim rfl
theorem p_Replace (s o n : List UInt8) (hs : s.length < 4294967281) (ho : 1 ≤ o.length) (hr : s.length + (s.length + 1) * n.length ≤ 140737488355328) : R K (.call 60 [.str s, .str o, .str n] []) = some (.str (Lib.replaceAll s o n), []) :=
  R_prim (by
    show pReplaceAll [.str s, .str o, .str n] = _
    simp only [pReplaceAll]
    have h1 : Lib.countB ⟨s.toArray⟩ ⟨o.toArray⟩ ≤ s.length + 1 := Lib.count_le s o
    have h2 : Lib.countB ⟨s.toArray⟩ ⟨o.toArray⟩ * n.length ≤ (s.length + 1) * n.length := Nat.mul_le_mul h1 (Nat.le_refl _)
    rw [if_pos (by simp only [Bool.and_eq_true, decide_eq_true_eq]; omega)])
theorem replaceK_len (o n : List UInt8) : ∀ (k : Nat) (s : List UInt8), (Lib.replaceK o n k s).length ≤ s.length + k * n.length
  | 0, s => by simp [Lib.replaceK]
  | k + 1, s => by
    simp only [Lib.replaceK]
    split
    · omega
    · have ih := replaceK_len o n k (s.drop ((Lib.index s o).toNat + o.length))
      simp only [List.length_append, List.length_take, List.length_drop] at ih ⊢
      rw [Nat.succ_mul]
      omega
theorem replace_len (s o n : List UInt8) : (Lib.replaceAll s o n).length ≤ s.length + (s.length + 1) * n.length := by
  unfold Lib.replaceAll Lib.replace
  split
  · omega
  · have h1 := replaceK_len o n (Lib.replaceNum s o (-1)) s
    have h2 : Lib.replaceNum s o (-1) ≤ s.length + 1 := by
      unfold Lib.replaceNum
      rw [if_pos (.inl (by omega))]
      exact Lib.count_le s o
    have h3 : Lib.replaceNum s o (-1) * n.length ≤ (s.length + 1) * n.length := Nat.mul_le_mul h2 (Nat.le_refl _)
    omega
theorem nDigits_le : ∀ (d u : Nat), u < 10 ^ (d + 1) → Lib.nDigits u ≤ d + 1
  | 0, u, h => by rw [Lib.nDigits_small (by simpa using h)]; omega
  | d + 1, u, h => by
    by_cases hu : u < 10
    · rw [Lib.nDigits_small hu]; omega
    · rw [Lib.nDigits_big hu]
      have := nDigits_le d (u / 10) (by rw [Nat.pow_succ] at h; omega)
      omega
theorem itoa_len {n : Int} (d : Nat) (h0 : 0 ≤ n) (h : n < 10 ^ (d + 1)) : (Lib.itoa n).length ≤ d + 1 := by
  obtain ⟨u, rfl⟩ : ∃ u : Nat, n = u := ⟨n.toNat, by omega⟩
  rw [Lib.itoa_nonneg, Lib.decDigits_length]
  exact nDigits_le d u (by exact_mod_cast h)
theorem pad_len {n : Int} {d : Nat} (h : (Lib.itoa n).length ≤ d) : (padS n d).length = d := by
  unfold padS
  rw [List.length_append, Lib.repeatL_length, List.length_singleton]
  omega
theorem c_padded (n : Int) (d : Nat) (h0 : 0 ≤ n) (h1 : n ≤ 1000000) (hd : d ≤ 100) : R K (.call 128 [I n, I (d : Int)] []) = some (.str (padS n d), []) := by
  have hl := Lib.itoa_length_le n (by omega) (by omega)
  have e1 := p_Itoa n (by omega) (by omega)
  have e2 : wrapI .i64 ((d : Int) - ((Lib.itoa n).length : Int)) = (d : Int) - ((Lib.itoa n).length : Int) := wrap_id (by omega) (by omega)
  have e3 : (if (d : Int) - ((Lib.itoa n).length : Int) < 0 then 0 else (d : Int) - ((Lib.itoa n).length : Int)) = ((d - (Lib.itoa n).length : Nat) : Int) := by split <;> omega
  have e4 := p_Repeat [48] (d - (Lib.itoa n).length) (by omega) (by simp)
  have e5 : ((Lib.repeatL [48] (d - (Lib.itoa n).length)).length + (Lib.itoa n).length ≤ strMax) = True := by
    rw [Lib.repeatL_length]; unfold strMax; simp; omega
  rw [call_128]
  simp -implicitDefEqProofs only [go_sem, simprocAttr, Tryz.f128, e1, e2, e3, e4, e5]
  rfl
theorem r_padded (n : Int) (d : Nat) (h0 : 0 ≤ n) (h1 : n ≤ 1000000) (hd : d ≤ 100) : R K (.call 131 [I n, I (d : Int)] []) = some (.str (padS n d), []) := by
  have hl := Lib.itoa_length_le n (by omega) (by omega)
  have e1 := p_Itoa n (by omega) (by omega)
  have e2 : wrapI .i64 ((d : Int) - ((Lib.itoa n).length : Int)) = (d : Int) - ((Lib.itoa n).length : Int) := wrap_id (by omega) (by omega)
  have e3 : (if (d : Int) - ((Lib.itoa n).length : Int) < 0 then 0 else (d : Int) - ((Lib.itoa n).length : Int)) = ((d - (Lib.itoa n).length : Nat) : Int) := by split <;> omega
  have e4 := p_Repeat [48] (d - (Lib.itoa n).length) (by omega) (by simp)
  have e5 : ((Lib.repeatL [48] (d - (Lib.itoa n).length)).length + (Lib.itoa n).length ≤ strMax) = True := by
    rw [Lib.repeatL_length]; unfold strMax; simp; omega
  rw [call_131]
  simp -implicitDefEqProofs only [go_sem, simprocAttr, Tryz.f131, e1, e2, e3, e4, e5]
  rfl
theorem small_str (k : Nat) (h : k ≤ 1000) : (k ≤ strMax) = True := by unfold strMax; simp; omega
theorem date_lens {n : Int} (h0 : 0 ≤ n) (h1 : n ≤ 253402300799) : (padS (yearS (n / 86400)) 4).length = 4 ∧ (padS (ymS n).1 2).length = 2 ∧ (padS ((ymS n).2 + 1) 2).length = 2 ∧ (padS (n % 86400 / 3600) 2).length = 2 ∧ (padS (n % 86400 % 3600 / 60) 2).length = 2 ∧ (padS (n % 86400 % 60) 2).length = 2 := by
  have hb := date_bounds h0 h1
  have hm := md_pos (yearS (n / 86400)) (ymS n).1
  exact ⟨pad_len (itoa_len 3 (by omega) (by omega)), pad_len (itoa_len 1 (by omega) (by omega)), pad_len (itoa_len 1 (by omega) (by omega)), pad_len (itoa_len 1 (by omega) (by omega)), pad_len (itoa_len 1 (by omega) (by omega)), pad_len (itoa_len 1 (by omega) (by omega))⟩
theorem dtext_len {n : Int} (h0 : 0 ≤ n) (h1 : n ≤ 253402300799) : (dtextS n).length = 19 := by
  obtain ⟨l1, l2, l3, l4, l5, l6⟩ := date_lens h0 h1
  unfold dtextS
  simp only [List.length_append, l1, l2, l3, l4, l5, l6, List.length_cons, List.length_nil]
theorem c_dateText (n : Int) (h0 : 0 ≤ n) (h1 : n ≤ 253402300799) : R K (.call 61 [I n] []) = some (.str (dtextS n), []) := by
  have hb := date_bounds h0 h1
  have hm := md_pos (yearS (n / 86400)) (ymS n).1
  have e1 := c_dateOf n h0 h1
  simp only [dateS, List.map_cons, List.map_nil] at e1
  have a1 := c_padded (yearS (n / 86400)) 4 (by omega) (by omega) (by omega)
  have a2 := c_padded (ymS n).1 2 (by omega) (by omega) (by omega)
  have a3 := c_padded ((ymS n).2 + 1) 2 (by omega) (by omega) (by omega)
  have a4 := c_padded (n % 86400 / 3600) 2 (by omega) (by omega) (by omega)
  have a5 := c_padded (n % 86400 % 3600 / 60) 2 (by omega) (by omega) (by omega)
  have a6 := c_padded (n % 86400 % 60) 2 (by omega) (by omega) (by omega)
  simp only [Int.cast_ofNat_Int] at a1 a2 a3 a4 a5 a6
  obtain ⟨l1, l2, l3, l4, l5, l6⟩ := date_lens h0 h1
  rw [call_61]
  simp -implicitDefEqProofs only [go_sem, simprocAttr, Tryz.f61, e1, a1, a2, a3, a4, a5, a6, l1, l2, l3, l4, l5, l6, small_str]
  rfl
theorem r_MomentText (n : Int) (h0 : 0 ≤ n) (h1 : n ≤ 253402300799) : R K (.call 63 [I n] []) = some (.str (dtextS n), []) := by
  have hb := date_bounds h0 h1
  have hm := md_pos (yearS (n / 86400)) (ymS n).1
  have e1 := r_parts n h0 h1
  simp only [dateS, List.reverse_cons, List.reverse_nil, List.nil_append, List.cons_append, List.map_cons, List.map_nil] at e1
  have a1 := r_padded (yearS (n / 86400)) 4 (by omega) (by omega) (by omega)
  have a2 := r_padded (ymS n).1 2 (by omega) (by omega) (by omega)
  have a3 := r_padded ((ymS n).2 + 1) 2 (by omega) (by omega) (by omega)
  have a4 := r_padded (n % 86400 / 3600) 2 (by omega) (by omega) (by omega)
  have a5 := r_padded (n % 86400 % 3600 / 60) 2 (by omega) (by omega) (by omega)
  have a6 := r_padded (n % 86400 % 60) 2 (by omega) (by omega) (by omega)
  simp only [Int.cast_ofNat_Int] at a1 a2 a3 a4 a5 a6
  obtain ⟨l1, l2, l3, l4, l5, l6⟩ := date_lens h0 h1
  rw [call_63]
  simp -implicitDefEqProofs only [go_sem, simprocAttr, Tryz.f63, e1, a1, a2, a3, a4, a5, a6, l1, l2, l3, l4, l5, l6, small_str]
  rfl
theorem plain_moment {v : Val} (h : (plainV v).k = 4) : 0 ≤ (plainV v).n ∧ (plainV v).n ≤ 253402300799 := by
  have hr := plain_right v
  simp only [rightS, rangeS, Bool.and_eq_true, h] at hr
  have h2 := hr.2.2
  simp [within] at h2
  exact h2
theorem plain_kinds (v : Val) : (plainV v).k = 0 ∨ (plainV v).k = 1 ∨ (plainV v).k = 2 ∨ (plainV v).k = 3 ∨ (plainV v).k = 4 := by
  have hr := plain_right v
  simp only [rightS, formS, Bool.and_eq_true] at hr
  have h1 := hr.1
  split at h1
  · rename_i h; exact .inl h
  · split at h1
    · rename_i h; exact .inr (.inr (.inr (.inl h)))
    · simp only [within, Bool.and_eq_true, decide_eq_true_eq] at h1; omega
theorem small_str2 (a b : Nat) (h : a + b ≤ 100000) : (a + b ≤ strMax) = True := by unfold strMax; simp; omega
theorem c_Show (k n : Int) (s : List UInt8) : R K (.call 13 [V k n s] []) = some (.str (showS ⟨k, n, s⟩), []) := by
  generalize hv : (⟨k, n, s⟩ : Val) = v
  have hp := c_plain k n s
  rw [hv] at hp
  rcases plain_kinds v with h | h | h | h | h
  · have e : showS v = bNull := by simp [showS, h]
    rw [e]
    rw [call_13]
    simp -implicitDefEqProofs only [go_sem, simprocAttr, Tryz.f13, hp, h]
  · have e : showS v = Lib.formatBool ((plainV v).n == 1) := by simp [showS, h]
    rw [e]
    have hb := p_Bool ((plainV v).n == 1)
    rw [call_13]
    simp -implicitDefEqProofs only [go_sem, simprocAttr, Tryz.f13, hp, h, hb]
  · have e : showS v = Lib.itoa (plainV v).n := by simp [showS, h]
    rw [e]
    have hb := right_bounds v
    have hi := p_Itoa (plainV v).n (by have := hb.2.1; omega) (by have := hb.2.1; omega)
    rw [call_13]
    simp -implicitDefEqProofs only [go_sem, simprocAttr, Tryz.f13, hp, h, hi]
  · have e : showS v = [39] ++ Lib.replaceAll (plainV v).s [39] [39, 39] ++ [39] := by simp [showS, h]
    rw [e]
    have hl := (plain3 v h).1
    have hr := p_Replace (plainV v).s [39] [39, 39] (by omega) (by simp) (by simp; omega)
    have hn := replace_len (plainV v).s [39] [39, 39]
    simp only [List.length_cons, List.length_nil] at hn
    have q1 := small_str2 1 (Lib.replaceAll (plainV v).s [39] [39, 39]).length (by omega)
    have q2 := small_str2 (Lib.replaceAll (plainV v).s [39] [39, 39]).length 1 (by omega)
    have q3 := small_str2 ((Lib.replaceAll (plainV v).s [39] [39, 39]).length + 1) 1 (by omega)
    rw [call_13]
    simp -implicitDefEqProofs only [go_sem, simprocAttr, Tryz.f13, hp, h, hr, q1, q2, q3]
  · have e : showS v = [64] ++ dtextS (plainV v).n := by simp [showS, h]
    rw [e]
    have hb := plain_moment h
    have hd := c_dateText (plainV v).n hb.1 hb.2
    have hl := dtext_len hb.1 hb.2
    rw [call_13]
    simp -implicitDefEqProofs only [go_sem, simprocAttr, Tryz.f13, hp, h, hd, hl, small_str]
theorem r_Shown (k n : Int) (s : List UInt8) : R K (.call 14 [V k n s] []) = some (.str (showS ⟨k, n, s⟩), []) := by
  generalize hv : (⟨k, n, s⟩ : Val) = v
  have hp := r_right k n s
  rw [hv] at hp
  rcases plain_kinds v with h | h | h | h | h
  · have e : showS v = bNull := by simp [showS, h]
    rw [e]
    rw [call_14]
    simp -implicitDefEqProofs only [go_sem, simprocAttr, Tryz.f14, hp, h]
  · have e : showS v = Lib.formatBool ((plainV v).n == 1) := by simp [showS, h]
    rw [e]
    have hb := p_Bool ((plainV v).n == 1)
    rw [call_14]
    simp -implicitDefEqProofs only [go_sem, simprocAttr, Tryz.f14, hp, h, hb]
  · have e : showS v = Lib.itoa (plainV v).n := by simp [showS, h]
    rw [e]
    have hb := right_bounds v
    have hi := p_Itoa (plainV v).n (by have := hb.2.1; omega) (by have := hb.2.1; omega)
    rw [call_14]
    simp -implicitDefEqProofs only [go_sem, simprocAttr, Tryz.f14, hp, h, hi]
  · have e : showS v = [39] ++ Lib.replaceAll (plainV v).s [39] [39, 39] ++ [39] := by simp [showS, h]
    rw [e]
    have hl := (plain3 v h).1
    have hr := p_Replace (plainV v).s [39] [39, 39] (by omega) (by simp) (by simp; omega)
    have hn := replace_len (plainV v).s [39] [39, 39]
    simp only [List.length_cons, List.length_nil] at hn
    have q1 := small_str2 1 (Lib.replaceAll (plainV v).s [39] [39, 39]).length (by omega)
    have q2 := small_str2 (Lib.replaceAll (plainV v).s [39] [39, 39]).length 1 (by omega)
    have q3 := small_str2 ((Lib.replaceAll (plainV v).s [39] [39, 39]).length + 1) 1 (by omega)
    rw [call_14]
    simp -implicitDefEqProofs only [go_sem, simprocAttr, Tryz.f14, hp, h, hr, q1, q2, q3]
  · have e : showS v = [64] ++ dtextS (plainV v).n := by simp [showS, h]
    rw [e]
    have hb := plain_moment h
    have hd := r_MomentText (plainV v).n hb.1 hb.2
    have hl := dtext_len hb.1 hb.2
    rw [call_14]
    simp -implicitDefEqProofs only [go_sem, simprocAttr, Tryz.f14, hp, h, hd, hl, small_str]
theorem small_room (k : Nat) (h : k ≤ 1000) : (k ≤ roomMax) = True := by unfold roomMax; simp; omega
theorem p_Atoi_ok (s : List UInt8) (v : Int) (hl : s.length ≤ 281474976710656) (h : atoiN s = some v) : R K (.call 118 [.str s] []) = some (.tup [I v, .nili], []) :=
  R_prim (by
    show pAtoi [.str s] = _
    simp only [pAtoi]
    rw [if_pos (by simpa using hl)]
    unfold atoiN at h
    cases ha : Lib.atoiAll s with
    | ok u => rw [ha] at h; simp only [Option.some.injEq] at h; rw [h]
    | _ => rw [ha] at h; simp at h)
theorem p_Atoi_no (s : List UInt8) (hl : s.length ≤ 281474976710656) (h : atoiN s = none) : ∃ z : Int, R K (.call 118 [.str s] []) = some (.tup [I z, .iface 207 .any], []) := by
  unfold atoiN at h
  cases ha : Lib.atoiAll s with
  | ok u => rw [ha] at h; simp at h
  | range =>
    refine ⟨Lib.atoiSat s, R_prim ?_⟩
    show pAtoi [.str s] = _
    simp only [pAtoi, ha]
    rw [if_pos (by simpa using hl)]
  | _ =>
    refine ⟨0, R_prim ?_⟩
    show pAtoi [.str s] = _
    simp only [pAtoi, ha]
    rw [if_pos (by simpa using hl)]
theorem six_no {s : List UInt8} (h : atoiN (List.take 4 s) = none ∨ atoiN (List.take 2 (List.drop 5 s)) = none ∨ atoiN (List.take 2 (List.drop 8 s)) = none ∨ atoiN (List.take 2 (List.drop 11 s)) = none ∨ atoiN (List.take 2 (List.drop 14 s)) = none ∨ atoiN (List.take 2 (List.drop 17 s)) = none) : dreadS s = null := by
  have e : sixS s = none := by
    unfold sixS
    simp only [cut, List.drop_zero, Nat.reduceSub, Nat.sub_zero]
    rcases h with h | h | h | h | h | h <;> rw [h] <;> simp
  unfold dreadS
  split
  · rw [e]
  · rfl
theorem six_yes {s : List UInt8} {a b c d e f : Int} (h1 : atoiN (List.take 4 s) = some a) (h2 : atoiN (List.take 2 (List.drop 5 s)) = some b) (h3 : atoiN (List.take 2 (List.drop 8 s)) = some c) (h4 : atoiN (List.take 2 (List.drop 11 s)) = some d) (h5 : atoiN (List.take 2 (List.drop 14 s)) = some e) (h6 : atoiN (List.take 2 (List.drop 17 s)) = some f) : sixS s = some (a, b, c, d, e, f) := by
  unfold sixS
  simp only [cut, List.drop_zero, Nat.reduceSub, Nat.sub_zero, h1, h2, h3, h4, h5, h6]
theorem right_moment {v : Val} (hk : v.k = 4) (hr : rightS v = true) : 0 ≤ v.n ∧ v.n ≤ 253402300799 := by
  have := plain_moment (v := v) (by rw [plain_of_right hr]; exact hk)
  rwa [plain_of_right hr] at this
theorem c_dateRead (s : List UInt8) : R K (.call 117 [.str s] []) = some (enc (dreadS s), []) := by
  by_cases hs : s.length = 19
  rotate_left
  · have e : dreadS s = null := if_neg hs
    have hb : (((s.length : Nat) : Int) != 19) = true := by simpa using (fun h => hs (by omega) : ¬ ((s.length : Nat) : Int) = 19)
    rw [e]
    rw [call_117]
    simp -implicitDefEqProofs only [go_sem, simprocAttr, Tryz.f117, hb]
    rfl
  have hsI : ((s.length : Nat) : Int) = 19 := by omega
  have lt : ∀ (k : Nat) (l : List UInt8), (List.take k l).length ≤ 281474976710656 ∨ 281474976710656 < k := fun k l => by
    rcases Nat.lt_or_ge 281474976710656 k with h | h
    · exact .inr h
    · exact .inl (Nat.le_trans (List.length_take_le _ _) h)
  cases h0 : atoiN (List.take 4 s) with
  | none =>
    have e := six_no (s := s) (.inl h0)
    obtain ⟨z, a0⟩ := p_Atoi_no (List.take 4 s) ((lt _ _).resolve_right (by omega)) h0
    rw [e]
    rw [call_117]
    simp -implicitDefEqProofs only [go_sem, simprocAttr, Tryz.f117, hs, hsI]
    rw [RL_eq]
    simp -implicitDefEqProofs only [go_sem, simprocAttr, hs, hsI, at?, small_room, a0]
    rfl
  | some n0 =>
    have a0 := p_Atoi_ok (List.take 4 s) n0 ((lt _ _).resolve_right (by omega)) h0
    cases h1 : atoiN (List.take 2 (List.drop 5 s)) with
    | none =>
      have e := six_no (s := s) (.inr (.inl h1))
      obtain ⟨z, a1⟩ := p_Atoi_no (List.take 2 (List.drop 5 s)) ((lt _ _).resolve_right (by omega)) h1
      rw [e]
      rw [call_117]
      simp -implicitDefEqProofs only [go_sem, simprocAttr, Tryz.f117, hs, hsI]
      rw [RL_eq]
      simp -implicitDefEqProofs only [go_sem, simprocAttr, hs, hsI, at?, small_room, a0, a1]
      rw [RL_eq]
      simp -implicitDefEqProofs only [go_sem, simprocAttr, hs, hsI, at?, small_room, a0, a1]
      rfl
    | some n1 =>
      have a1 := p_Atoi_ok (List.take 2 (List.drop 5 s)) n1 ((lt _ _).resolve_right (by omega)) h1
      cases h2 : atoiN (List.take 2 (List.drop 8 s)) with
      | none =>
        have e := six_no (s := s) (.inr (.inr (.inl h2)))
        obtain ⟨z, a2⟩ := p_Atoi_no (List.take 2 (List.drop 8 s)) ((lt _ _).resolve_right (by omega)) h2
        rw [e]
        rw [call_117]
        simp -implicitDefEqProofs only [go_sem, simprocAttr, Tryz.f117, hs, hsI]
        rw [RL_eq]
        simp -implicitDefEqProofs only [go_sem, simprocAttr, hs, hsI, at?, small_room, a0, a1, a2]
        rw [RL_eq]
        simp -implicitDefEqProofs only [go_sem, simprocAttr, hs, hsI, at?, small_room, a0, a1, a2]
        rw [RL_eq]
        simp -implicitDefEqProofs only [go_sem, simprocAttr, hs, hsI, at?, small_room, a0, a1, a2]
        rfl
      | some n2 =>
        have a2 := p_Atoi_ok (List.take 2 (List.drop 8 s)) n2 ((lt _ _).resolve_right (by omega)) h2
        cases h3 : atoiN (List.take 2 (List.drop 11 s)) with
        | none =>
          have e := six_no (s := s) (.inr (.inr (.inr (.inl h3))))
          obtain ⟨z, a3⟩ := p_Atoi_no (List.take 2 (List.drop 11 s)) ((lt _ _).resolve_right (by omega)) h3
          rw [e]
          rw [call_117]
          simp -implicitDefEqProofs only [go_sem, simprocAttr, Tryz.f117, hs, hsI]
          rw [RL_eq]
          simp -implicitDefEqProofs only [go_sem, simprocAttr, hs, hsI, at?, small_room, a0, a1, a2, a3]
          rw [RL_eq]
          simp -implicitDefEqProofs only [go_sem, simprocAttr, hs, hsI, at?, small_room, a0, a1, a2, a3]
          rw [RL_eq]
          simp -implicitDefEqProofs only [go_sem, simprocAttr, hs, hsI, at?, small_room, a0, a1, a2, a3]
          rw [RL_eq]
          simp -implicitDefEqProofs only [go_sem, simprocAttr, hs, hsI, at?, small_room, a0, a1, a2, a3]
          rfl
        | some n3 =>
          have a3 := p_Atoi_ok (List.take 2 (List.drop 11 s)) n3 ((lt _ _).resolve_right (by omega)) h3
          cases h4 : atoiN (List.take 2 (List.drop 14 s)) with
          | none =>
            have e := six_no (s := s) (.inr (.inr (.inr (.inr (.inl h4)))))
            obtain ⟨z, a4⟩ := p_Atoi_no (List.take 2 (List.drop 14 s)) ((lt _ _).resolve_right (by omega)) h4
            rw [e]
            rw [call_117]
            simp -implicitDefEqProofs only [go_sem, simprocAttr, Tryz.f117, hs, hsI]
            rw [RL_eq]
            simp -implicitDefEqProofs only [go_sem, simprocAttr, hs, hsI, at?, small_room, a0, a1, a2, a3, a4]
            rw [RL_eq]
            simp -implicitDefEqProofs only [go_sem, simprocAttr, hs, hsI, at?, small_room, a0, a1, a2, a3, a4]
            rw [RL_eq]
            simp -implicitDefEqProofs only [go_sem, simprocAttr, hs, hsI, at?, small_room, a0, a1, a2, a3, a4]
            rw [RL_eq]
            simp -implicitDefEqProofs only [go_sem, simprocAttr, hs, hsI, at?, small_room, a0, a1, a2, a3, a4]
            rw [RL_eq]
            simp -implicitDefEqProofs only [go_sem, simprocAttr, hs, hsI, at?, small_room, a0, a1, a2, a3, a4]
            rfl
          | some n4 =>
            have a4 := p_Atoi_ok (List.take 2 (List.drop 14 s)) n4 ((lt _ _).resolve_right (by omega)) h4
            cases h5 : atoiN (List.take 2 (List.drop 17 s)) with
            | none =>
              have e := six_no (s := s) (.inr (.inr (.inr (.inr (.inr h5)))))
              obtain ⟨z, a5⟩ := p_Atoi_no (List.take 2 (List.drop 17 s)) ((lt _ _).resolve_right (by omega)) h5
              rw [e]
              rw [call_117]
              simp -implicitDefEqProofs only [go_sem, simprocAttr, Tryz.f117, hs, hsI]
              rw [RL_eq]
              simp -implicitDefEqProofs only [go_sem, simprocAttr, hs, hsI, at?, small_room, a0, a1, a2, a3, a4, a5]
              rw [RL_eq]
              simp -implicitDefEqProofs only [go_sem, simprocAttr, hs, hsI, at?, small_room, a0, a1, a2, a3, a4, a5]
              rw [RL_eq]
              simp -implicitDefEqProofs only [go_sem, simprocAttr, hs, hsI, at?, small_room, a0, a1, a2, a3, a4, a5]
              rw [RL_eq]
              simp -implicitDefEqProofs only [go_sem, simprocAttr, hs, hsI, at?, small_room, a0, a1, a2, a3, a4, a5]
              rw [RL_eq]
              simp -implicitDefEqProofs only [go_sem, simprocAttr, hs, hsI, at?, small_room, a0, a1, a2, a3, a4, a5]
              rw [RL_eq]
              simp -implicitDefEqProofs only [go_sem, simprocAttr, hs, hsI, at?, small_room, a0, a1, a2, a3, a4, a5]
              rfl
            | some n5 =>
              have a5 := p_Atoi_ok (List.take 2 (List.drop 17 s)) n5 ((lt _ _).resolve_right (by omega)) h5
              have hsix := six_yes h0 h1 h2 h3 h4 h5
              have hv : dreadS s = if (dateV n0 n1 n2 n3 n4 n5).k = 0 ∨ dtextS (dateV n0 n1 n2 n3 n4 n5).n ≠ s then null else dateV n0 n1 n2 n3 n4 n5 := by unfold dreadS; rw [if_pos hs, hsix]
              have hd := c_Date n0 n1 n2 n3 n4 n5
              rcases date_cases n0 n1 n2 n3 n4 n5 with hc | ⟨hk, hss, hr⟩
              · rw [hc] at hv hd
                have hv : dreadS s = null := by rw [hv]; rfl
                rw [hv]
                have kn : null.k = 0 := rfl
                rw [call_117]
                simp -implicitDefEqProofs only [go_sem, simprocAttr, Tryz.f117, hs, hsI]
                rw [RL_eq]
                simp -implicitDefEqProofs only [go_sem, simprocAttr, hs, hsI, at?, small_room, a0, a1, a2, a3, a4, a5]
                rw [RL_eq]
                simp -implicitDefEqProofs only [go_sem, simprocAttr, hs, hsI, at?, small_room, a0, a1, a2, a3, a4, a5]
                rw [RL_eq]
                simp -implicitDefEqProofs only [go_sem, simprocAttr, hs, hsI, at?, small_room, a0, a1, a2, a3, a4, a5]
                rw [RL_eq]
                simp -implicitDefEqProofs only [go_sem, simprocAttr, hs, hsI, at?, small_room, a0, a1, a2, a3, a4, a5]
                rw [RL_eq]
                simp -implicitDefEqProofs only [go_sem, simprocAttr, hs, hsI, at?, small_room, a0, a1, a2, a3, a4, a5]
                rw [RL_eq]
                simp -implicitDefEqProofs only [go_sem, simprocAttr, hs, hsI, at?, small_room, a0, a1, a2, a3, a4, a5]
                rw [RL_eq]
                simp -implicitDefEqProofs only [go_sem, simprocAttr, hs, hsI, at?, small_room, a0, a1, a2, a3, a4, a5, hd, kn]
                all_goals rfl
              · have hb := right_moment hk hr
                have ht := c_dateText (dateV n0 n1 n2 n3 n4 n5).n hb.1 hb.2
                by_cases hq : dtextS (dateV n0 n1 n2 n3 n4 n5).n = s
                · have hv : dreadS s = dateV n0 n1 n2 n3 n4 n5 := by rw [hv, if_neg (fun h => h.elim (fun h => by rw [hk] at h; simp at h) (fun h => h hq))]
                  have hq2 : (dtextS (dateV n0 n1 n2 n3 n4 n5).n == s) = true := by simp [hq]
                  rw [hv]
                  rw [call_117]
                  simp -implicitDefEqProofs only [go_sem, simprocAttr, Tryz.f117, hs, hsI]
                  rw [RL_eq]
                  simp -implicitDefEqProofs only [go_sem, simprocAttr, hs, hsI, at?, small_room, a0, a1, a2, a3, a4, a5]
                  rw [RL_eq]
                  simp -implicitDefEqProofs only [go_sem, simprocAttr, hs, hsI, at?, small_room, a0, a1, a2, a3, a4, a5]
                  rw [RL_eq]
                  simp -implicitDefEqProofs only [go_sem, simprocAttr, hs, hsI, at?, small_room, a0, a1, a2, a3, a4, a5]
                  rw [RL_eq]
                  simp -implicitDefEqProofs only [go_sem, simprocAttr, hs, hsI, at?, small_room, a0, a1, a2, a3, a4, a5]
                  rw [RL_eq]
                  simp -implicitDefEqProofs only [go_sem, simprocAttr, hs, hsI, at?, small_room, a0, a1, a2, a3, a4, a5]
                  rw [RL_eq]
                  simp -implicitDefEqProofs only [go_sem, simprocAttr, hs, hsI, at?, small_room, a0, a1, a2, a3, a4, a5]
                  rw [RL_eq]
                  simp -implicitDefEqProofs only [go_sem, simprocAttr, hs, hsI, at?, small_room, a0, a1, a2, a3, a4, a5, hd, hk, ht, hq2]
                · have hv : dreadS s = null := by rw [hv, if_pos (.inr hq)]
                  have hq2 : (dtextS (dateV n0 n1 n2 n3 n4 n5).n == s) = false := by simpa using hq
                  rw [hv]
                  rw [call_117]
                  simp -implicitDefEqProofs only [go_sem, simprocAttr, Tryz.f117, hs, hsI]
                  rw [RL_eq]
                  simp -implicitDefEqProofs only [go_sem, simprocAttr, hs, hsI, at?, small_room, a0, a1, a2, a3, a4, a5]
                  rw [RL_eq]
                  simp -implicitDefEqProofs only [go_sem, simprocAttr, hs, hsI, at?, small_room, a0, a1, a2, a3, a4, a5]
                  rw [RL_eq]
                  simp -implicitDefEqProofs only [go_sem, simprocAttr, hs, hsI, at?, small_room, a0, a1, a2, a3, a4, a5]
                  rw [RL_eq]
                  simp -implicitDefEqProofs only [go_sem, simprocAttr, hs, hsI, at?, small_room, a0, a1, a2, a3, a4, a5]
                  rw [RL_eq]
                  simp -implicitDefEqProofs only [go_sem, simprocAttr, hs, hsI, at?, small_room, a0, a1, a2, a3, a4, a5]
                  rw [RL_eq]
                  simp -implicitDefEqProofs only [go_sem, simprocAttr, hs, hsI, at?, small_room, a0, a1, a2, a3, a4, a5]
                  rw [RL_eq]
                  simp -implicitDefEqProofs only [go_sem, simprocAttr, hs, hsI, at?, small_room, a0, a1, a2, a3, a4, a5, hd, hk, ht, hq2]
                  rfl
theorem r_momentFrom (s : List UInt8) : ∃ w b, R K (.call 122 [.str s] []) = some (.tup [enc w, .bool b], []) ∧ b = decide ((dreadS s).k = 4) ∧ (b = true → w = dreadS s) := by
  by_cases hs : s.length = 19
  rotate_left
  · have e : dreadS s = null := if_neg hs
    have hb : (((s.length : Nat) : Int) != 19) = true := by simpa using (fun h => hs (by omega) : ¬ ((s.length : Nat) : Int) = 19)
    refine ⟨null, false, ?_, by rw [e]; rfl, fun h => by simp at h⟩
    rw [call_122]
    simp -implicitDefEqProofs only [go_sem, simprocAttr, Tryz.f122, hb]
    rfl
  have hsI : ((s.length : Nat) : Int) = 19 := by omega
  have lt : ∀ (k : Nat) (l : List UInt8), (List.take k l).length ≤ 281474976710656 ∨ 281474976710656 < k := fun k l => by
    rcases Nat.lt_or_ge 281474976710656 k with h | h
    · exact .inr h
    · exact .inl (Nat.le_trans (List.length_take_le _ _) h)
  cases h0 : atoiN (List.take 4 s) with
  | none =>
    have e := six_no (s := s) (.inl h0)
    obtain ⟨z, a0⟩ := p_Atoi_no (List.take 4 s) ((lt _ _).resolve_right (by omega)) h0
    refine ⟨null, false, ?_, by rw [e]; rfl, fun h => by simp at h⟩
    rw [call_122]
    simp -implicitDefEqProofs only [go_sem, simprocAttr, Tryz.f122, hs, hsI]
    rw [RL_eq]
    simp -implicitDefEqProofs only [go_sem, simprocAttr, hs, hsI, at?, small_room, a0]
    rfl
  | some n0 =>
    have a0 := p_Atoi_ok (List.take 4 s) n0 ((lt _ _).resolve_right (by omega)) h0
    cases h1 : atoiN (List.take 2 (List.drop 5 s)) with
    | none =>
      have e := six_no (s := s) (.inr (.inl h1))
      obtain ⟨z, a1⟩ := p_Atoi_no (List.take 2 (List.drop 5 s)) ((lt _ _).resolve_right (by omega)) h1
      refine ⟨null, false, ?_, by rw [e]; rfl, fun h => by simp at h⟩
      rw [call_122]
      simp -implicitDefEqProofs only [go_sem, simprocAttr, Tryz.f122, hs, hsI]
      rw [RL_eq]
      simp -implicitDefEqProofs only [go_sem, simprocAttr, hs, hsI, at?, small_room, a0, a1]
      rw [RL_eq]
      simp -implicitDefEqProofs only [go_sem, simprocAttr, hs, hsI, at?, small_room, a0, a1]
      rfl
    | some n1 =>
      have a1 := p_Atoi_ok (List.take 2 (List.drop 5 s)) n1 ((lt _ _).resolve_right (by omega)) h1
      cases h2 : atoiN (List.take 2 (List.drop 8 s)) with
      | none =>
        have e := six_no (s := s) (.inr (.inr (.inl h2)))
        obtain ⟨z, a2⟩ := p_Atoi_no (List.take 2 (List.drop 8 s)) ((lt _ _).resolve_right (by omega)) h2
        refine ⟨null, false, ?_, by rw [e]; rfl, fun h => by simp at h⟩
        rw [call_122]
        simp -implicitDefEqProofs only [go_sem, simprocAttr, Tryz.f122, hs, hsI]
        rw [RL_eq]
        simp -implicitDefEqProofs only [go_sem, simprocAttr, hs, hsI, at?, small_room, a0, a1, a2]
        rw [RL_eq]
        simp -implicitDefEqProofs only [go_sem, simprocAttr, hs, hsI, at?, small_room, a0, a1, a2]
        rw [RL_eq]
        simp -implicitDefEqProofs only [go_sem, simprocAttr, hs, hsI, at?, small_room, a0, a1, a2]
        rfl
      | some n2 =>
        have a2 := p_Atoi_ok (List.take 2 (List.drop 8 s)) n2 ((lt _ _).resolve_right (by omega)) h2
        cases h3 : atoiN (List.take 2 (List.drop 11 s)) with
        | none =>
          have e := six_no (s := s) (.inr (.inr (.inr (.inl h3))))
          obtain ⟨z, a3⟩ := p_Atoi_no (List.take 2 (List.drop 11 s)) ((lt _ _).resolve_right (by omega)) h3
          refine ⟨null, false, ?_, by rw [e]; rfl, fun h => by simp at h⟩
          rw [call_122]
          simp -implicitDefEqProofs only [go_sem, simprocAttr, Tryz.f122, hs, hsI]
          rw [RL_eq]
          simp -implicitDefEqProofs only [go_sem, simprocAttr, hs, hsI, at?, small_room, a0, a1, a2, a3]
          rw [RL_eq]
          simp -implicitDefEqProofs only [go_sem, simprocAttr, hs, hsI, at?, small_room, a0, a1, a2, a3]
          rw [RL_eq]
          simp -implicitDefEqProofs only [go_sem, simprocAttr, hs, hsI, at?, small_room, a0, a1, a2, a3]
          rw [RL_eq]
          simp -implicitDefEqProofs only [go_sem, simprocAttr, hs, hsI, at?, small_room, a0, a1, a2, a3]
          rfl
        | some n3 =>
          have a3 := p_Atoi_ok (List.take 2 (List.drop 11 s)) n3 ((lt _ _).resolve_right (by omega)) h3
          cases h4 : atoiN (List.take 2 (List.drop 14 s)) with
          | none =>
            have e := six_no (s := s) (.inr (.inr (.inr (.inr (.inl h4)))))
            obtain ⟨z, a4⟩ := p_Atoi_no (List.take 2 (List.drop 14 s)) ((lt _ _).resolve_right (by omega)) h4
            refine ⟨null, false, ?_, by rw [e]; rfl, fun h => by simp at h⟩
            rw [call_122]
            simp -implicitDefEqProofs only [go_sem, simprocAttr, Tryz.f122, hs, hsI]
            rw [RL_eq]
            simp -implicitDefEqProofs only [go_sem, simprocAttr, hs, hsI, at?, small_room, a0, a1, a2, a3, a4]
            rw [RL_eq]
            simp -implicitDefEqProofs only [go_sem, simprocAttr, hs, hsI, at?, small_room, a0, a1, a2, a3, a4]
            rw [RL_eq]
            simp -implicitDefEqProofs only [go_sem, simprocAttr, hs, hsI, at?, small_room, a0, a1, a2, a3, a4]
            rw [RL_eq]
            simp -implicitDefEqProofs only [go_sem, simprocAttr, hs, hsI, at?, small_room, a0, a1, a2, a3, a4]
            rw [RL_eq]
            simp -implicitDefEqProofs only [go_sem, simprocAttr, hs, hsI, at?, small_room, a0, a1, a2, a3, a4]
            rfl
          | some n4 =>
            have a4 := p_Atoi_ok (List.take 2 (List.drop 14 s)) n4 ((lt _ _).resolve_right (by omega)) h4
            cases h5 : atoiN (List.take 2 (List.drop 17 s)) with
            | none =>
              have e := six_no (s := s) (.inr (.inr (.inr (.inr (.inr h5)))))
              obtain ⟨z, a5⟩ := p_Atoi_no (List.take 2 (List.drop 17 s)) ((lt _ _).resolve_right (by omega)) h5
              refine ⟨null, false, ?_, by rw [e]; rfl, fun h => by simp at h⟩
              rw [call_122]
              simp -implicitDefEqProofs only [go_sem, simprocAttr, Tryz.f122, hs, hsI]
              rw [RL_eq]
              simp -implicitDefEqProofs only [go_sem, simprocAttr, hs, hsI, at?, small_room, a0, a1, a2, a3, a4, a5]
              rw [RL_eq]
              simp -implicitDefEqProofs only [go_sem, simprocAttr, hs, hsI, at?, small_room, a0, a1, a2, a3, a4, a5]
              rw [RL_eq]
              simp -implicitDefEqProofs only [go_sem, simprocAttr, hs, hsI, at?, small_room, a0, a1, a2, a3, a4, a5]
              rw [RL_eq]
              simp -implicitDefEqProofs only [go_sem, simprocAttr, hs, hsI, at?, small_room, a0, a1, a2, a3, a4, a5]
              rw [RL_eq]
              simp -implicitDefEqProofs only [go_sem, simprocAttr, hs, hsI, at?, small_room, a0, a1, a2, a3, a4, a5]
              rw [RL_eq]
              simp -implicitDefEqProofs only [go_sem, simprocAttr, hs, hsI, at?, small_room, a0, a1, a2, a3, a4, a5]
              rfl
            | some n5 =>
              have a5 := p_Atoi_ok (List.take 2 (List.drop 17 s)) n5 ((lt _ _).resolve_right (by omega)) h5
              have hsix := six_yes h0 h1 h2 h3 h4 h5
              have hv : dreadS s = if (dateV n0 n1 n2 n3 n4 n5).k = 0 ∨ dtextS (dateV n0 n1 n2 n3 n4 n5).n ≠ s then null else dateV n0 n1 n2 n3 n4 n5 := by unfold dreadS; rw [if_pos hs, hsix]
              have hd := r_Dated n0 n1 n2 n3 n4 n5
              rcases date_cases n0 n1 n2 n3 n4 n5 with hc | ⟨hk, hss, hr⟩
              · rw [hc] at hv hd
                have hv : dreadS s = null := by rw [hv]; rfl
                refine ⟨null, false, ?_, by rw [hv]; rfl, fun h => by simp at h⟩
                have kn : null.k = 0 := rfl
                rw [call_122]
                simp -implicitDefEqProofs only [go_sem, simprocAttr, Tryz.f122, hs, hsI]
                rw [RL_eq]
                simp -implicitDefEqProofs only [go_sem, simprocAttr, hs, hsI, at?, small_room, a0, a1, a2, a3, a4, a5]
                rw [RL_eq]
                simp -implicitDefEqProofs only [go_sem, simprocAttr, hs, hsI, at?, small_room, a0, a1, a2, a3, a4, a5]
                rw [RL_eq]
                simp -implicitDefEqProofs only [go_sem, simprocAttr, hs, hsI, at?, small_room, a0, a1, a2, a3, a4, a5]
                rw [RL_eq]
                simp -implicitDefEqProofs only [go_sem, simprocAttr, hs, hsI, at?, small_room, a0, a1, a2, a3, a4, a5]
                rw [RL_eq]
                simp -implicitDefEqProofs only [go_sem, simprocAttr, hs, hsI, at?, small_room, a0, a1, a2, a3, a4, a5]
                rw [RL_eq]
                simp -implicitDefEqProofs only [go_sem, simprocAttr, hs, hsI, at?, small_room, a0, a1, a2, a3, a4, a5]
                rw [RL_eq]
                simp -implicitDefEqProofs only [go_sem, simprocAttr, hs, hsI, at?, small_room, a0, a1, a2, a3, a4, a5, hd, kn]
                all_goals rfl
              · have hb := right_moment hk hr
                have ht := r_MomentText (dateV n0 n1 n2 n3 n4 n5).n hb.1 hb.2
                by_cases hq : dtextS (dateV n0 n1 n2 n3 n4 n5).n = s
                · have hv : dreadS s = dateV n0 n1 n2 n3 n4 n5 := by rw [hv, if_neg (fun h => h.elim (fun h => by rw [hk] at h; simp at h) (fun h => h hq))]
                  have hq2 : (dtextS (dateV n0 n1 n2 n3 n4 n5).n == s) = true := by simp [hq]
                  refine ⟨dateV n0 n1 n2 n3 n4 n5, true, ?_, by rw [hv, hk]; rfl, fun _ => hv.symm⟩
                  rw [call_122]
                  simp -implicitDefEqProofs only [go_sem, simprocAttr, Tryz.f122, hs, hsI]
                  rw [RL_eq]
                  simp -implicitDefEqProofs only [go_sem, simprocAttr, hs, hsI, at?, small_room, a0, a1, a2, a3, a4, a5]
                  rw [RL_eq]
                  simp -implicitDefEqProofs only [go_sem, simprocAttr, hs, hsI, at?, small_room, a0, a1, a2, a3, a4, a5]
                  rw [RL_eq]
                  simp -implicitDefEqProofs only [go_sem, simprocAttr, hs, hsI, at?, small_room, a0, a1, a2, a3, a4, a5]
                  rw [RL_eq]
                  simp -implicitDefEqProofs only [go_sem, simprocAttr, hs, hsI, at?, small_room, a0, a1, a2, a3, a4, a5]
                  rw [RL_eq]
                  simp -implicitDefEqProofs only [go_sem, simprocAttr, hs, hsI, at?, small_room, a0, a1, a2, a3, a4, a5]
                  rw [RL_eq]
                  simp -implicitDefEqProofs only [go_sem, simprocAttr, hs, hsI, at?, small_room, a0, a1, a2, a3, a4, a5]
                  rw [RL_eq]
                  simp -implicitDefEqProofs only [go_sem, simprocAttr, hs, hsI, at?, small_room, a0, a1, a2, a3, a4, a5, hd, hk, ht, hq2]
                · have hv : dreadS s = null := by rw [hv, if_pos (.inr hq)]
                  have hq2 : (dtextS (dateV n0 n1 n2 n3 n4 n5).n == s) = false := by simpa using hq
                  refine ⟨dateV n0 n1 n2 n3 n4 n5, false, ?_, by rw [hv]; rfl, fun h => by simp at h⟩
                  rw [call_122]
                  simp -implicitDefEqProofs only [go_sem, simprocAttr, Tryz.f122, hs, hsI]
                  rw [RL_eq]
                  simp -implicitDefEqProofs only [go_sem, simprocAttr, hs, hsI, at?, small_room, a0, a1, a2, a3, a4, a5]
                  rw [RL_eq]
                  simp -implicitDefEqProofs only [go_sem, simprocAttr, hs, hsI, at?, small_room, a0, a1, a2, a3, a4, a5]
                  rw [RL_eq]
                  simp -implicitDefEqProofs only [go_sem, simprocAttr, hs, hsI, at?, small_room, a0, a1, a2, a3, a4, a5]
                  rw [RL_eq]
                  simp -implicitDefEqProofs only [go_sem, simprocAttr, hs, hsI, at?, small_room, a0, a1, a2, a3, a4, a5]
                  rw [RL_eq]
                  simp -implicitDefEqProofs only [go_sem, simprocAttr, hs, hsI, at?, small_room, a0, a1, a2, a3, a4, a5]
                  rw [RL_eq]
                  simp -implicitDefEqProofs only [go_sem, simprocAttr, hs, hsI, at?, small_room, a0, a1, a2, a3, a4, a5]
                  rw [RL_eq]
                  simp -implicitDefEqProofs only [go_sem, simprocAttr, hs, hsI, at?, small_room, a0, a1, a2, a3, a4, a5, hd, hk, ht, hq2]
theorem p_HasPrefix (s p : List UInt8) : R K (.call 116 [.str s, .str p] []) = some (.bool (Lib.hasPrefix s p), []) := R_prim rfl
theorem p_TrimPrefix (s p : List UInt8) : R K (.call 123 [.str s, .str p] []) = some (.str (Lib.trimPrefix s p), []) := R_prim rfl
theorem u8_39 (c : UInt8) : (((c.toNat : Nat) : Int) == 39) = (c == 39) := u8_lit c 39 (by omega)
theorem c_candidate (s : List UInt8) (hs : s.length ≤ 10000000) : R K (.call 54 [.str s] []) = some (enc (candS s), []) := by
  by_cases h1 : s = bTrue
  · have e : candS s = boolV true := by rw [h1]; exact cand_true
    have hb : (s == bTrue) = true := by simp [h1]
    rw [e]
    rw [call_54]
    simp -implicitDefEqProofs only [go_sem, simprocAttr, Tryz.f54, hb, c_boolean]
  by_cases h2 : s = bFalse
  · have e : candS s = boolV false := by rw [h2]; exact cand_false
    have hb : (s == bTrue) = false := by simpa using h1
    have hb2 : (s == bFalse) = true := by simp [h2]
    rw [e]
    rw [call_54]
    simp -implicitDefEqProofs only [go_sem, simprocAttr, Tryz.f54, hb, hb2, c_boolean]
  have hb : (s == bTrue) = false := by simpa using h1
  have hb2 : (s == bFalse) = false := by simpa using h2
  have hn : ¬ (s = bTrue ∨ s = bFalse) := fun h => h.elim h1 h2
  have tailEq : ¬ (2 ≤ s.length ∧ s[0]? = some 39 ∧ s[s.length - 1]? = some 39) → candS s = (if Lib.hasPrefix s [64] = true then dreadS (s.drop 1) else match atoiN s with
    | some n => ⟨2, n, []⟩
    | none => null) := fun hq => by unfold candS; rw [if_neg hn, if_neg hq] <;> cases atoiN s <;> rfl
  have hw : 1 ≤ s.length → wrapI .i64 ((s.length : Int) - 1) = ((s.length - 1 : Nat) : Int) := fun h => by rw [wrap_id (by omega) (by omega)]; omega
  have q4 : (s.drop 1).length ≤ s.length := by simp
  by_cases hq : (2 ≤ s.length ∧ s[0]? = some 39 ∧ s[s.length - 1]? = some 39)
  · have e : candS s = ⟨3, 0, Lib.replaceAll (cut s 1 (s.length - 1)) [39, 39] [39]⟩ := by unfold candS; rw [if_neg hn, if_pos hq]
    obtain ⟨l2, c0, cl⟩ := hq
    have hw := hw (by omega)
    have g1 : decide ((2 : Int) ≤ (s.length : Int)) = true := by rw [decide_eq_true_eq]; omega
    have g2 : at? s 0 = some 39 := byte_get c0
    have g3 := byte_get cl
    have g4 : ((0 : Int) ≤ ((s.length - 1 : Nat) : Int)) = True := eq_true (by omega)
    have g5 : (((s.length - 1 : Nat) : Int) ≤ (s.length : Int)) = True := eq_true (by omega)
    have g6 : ((1 : Int) ≤ ((s.length - 1 : Nat) : Int)) = True := eq_true (by omega)
    have g9 : ((1 : Int) ≤ (s.length : Int)) = True := eq_true (by omega)
    have g7 : (1 : Int).toNat = 1 := rfl
    have g8 : ((39 : UInt8).toNat : Int) = 39 := rfl
    have hr := p_Replace (List.take (s.length - 1 - 1) (List.drop 1 s)) [39, 39] [39] (by simp; omega) (by simp) (by simp; omega)
    rw [e]
    rw [call_54]
    simp -implicitDefEqProofs only [go_sem, simprocAttr, Tryz.f54, hb, hb2, g1, g2, g3, g4, g5, g6, g7, g8, g9, hw, Int.toNat_natCast, hr]
    all_goals rfl
  · rw [tailEq hq]
    by_cases h3 : Lib.hasPrefix s [64] = true
    · have hs0 : ∃ r, s = 64 :: r := by
        match s, h3 with
        | [], h3 => simp [Lib.hasPrefix] at h3
        | c :: r, h3 =>
          by_cases hc : c = 64
          · exact ⟨r, by rw [hc]⟩
          · rw [pre_no c r hc] at h3; simp at h3
      obtain ⟨r, rfl⟩ := hs0
      rw [if_pos h3]
      have d := c_dateRead r
      have hp := p_HasPrefix (64 :: r) [64]
      rw [h3] at hp
      have g8 : ((64 : UInt8).toNat : Int) = 64 := rfl
      have g9 : ((1 : Int) ≤ ((r.length + 1 : Nat) : Int)) = True := eq_true (by omega)
      have g7 : (1 : Int).toNat = 1 := rfl
      have g10 : ((r.length + 1 : Nat) : Int).toNat = r.length + 1 := rfl
      by_cases h4 : 2 ≤ r.length + 1
      · have g1 : decide ((2 : Int) ≤ ((r.length + 1 : Nat) : Int)) = true := by rw [decide_eq_true_eq]; omega
        rw [call_54]
        simp -implicitDefEqProofs only [go_sem, simprocAttr, Tryz.f54, hb, hb2, g1, at_zero, g8, hp, g9, g7, Nat.add_sub_cancel, List.take_length, d]
        all_goals rfl
      · have g1 : decide ((2 : Int) ≤ ((r.length + 1 : Nat) : Int)) = false := by simp; omega
        rw [call_54]
        simp -implicitDefEqProofs only [go_sem, simprocAttr, Tryz.f54, hb, hb2, g1, at_zero, g8, hp, g9, g7, Nat.add_sub_cancel, List.take_length, d]
        all_goals rfl
    · have h3' : Lib.hasPrefix s [64] = false := by simpa using h3
      rw [if_neg h3]
      have hp := p_HasPrefix s [64]
      rw [h3'] at hp
      have fin : ∀ {X : AV}, True := fun {X} => trivial
      cases ha : atoiN s with
      | none =>
        obtain ⟨z, a⟩ := p_Atoi_no s (by omega) ha
        by_cases l2 : 2 ≤ s.length
        · have g1 : decide ((2 : Int) ≤ (s.length : Int)) = true := by rw [decide_eq_true_eq]; omega
          obtain ⟨c, hc⟩ := some_at (l := s) (i := 0) (by omega)
          have g2 : at? s 0 = some c := byte_get hc
          have hw := hw (by omega)
          obtain ⟨d, hd⟩ := some_at (l := s) (i := s.length - 1) (by omega)
          have g3 := byte_get hd
          by_cases hc39 : c = 39
          · have g4 : (c == 39) = true := by simp [hc39]
            have g5 : (d == 39) = false := by
              have : d ≠ 39 := fun e => hq ⟨l2, by rw [hc, hc39], by rw [hd, e]⟩
              simpa using this
            rw [call_54]
            simp -implicitDefEqProofs only [go_sem, simprocAttr, Tryz.f54, hb, hb2, g1, g2, g3, g4, g5, u8_39, hw, hp, a]
            all_goals rfl
          · have g4 : (c == 39) = false := by simpa using hc39
            rw [call_54]
            simp -implicitDefEqProofs only [go_sem, simprocAttr, Tryz.f54, hb, hb2, g1, g2, g4, u8_39, hp, a]
            all_goals rfl
        · have g1 : decide ((2 : Int) ≤ (s.length : Int)) = false := by simp; omega
          rw [call_54]
          simp -implicitDefEqProofs only [go_sem, simprocAttr, Tryz.f54, hb, hb2, g1, hp, a]
          all_goals rfl
      | some n =>
        have a := p_Atoi_ok s n (by omega) ha
        by_cases l2 : 2 ≤ s.length
        · have g1 : decide ((2 : Int) ≤ (s.length : Int)) = true := by rw [decide_eq_true_eq]; omega
          obtain ⟨c, hc⟩ := some_at (l := s) (i := 0) (by omega)
          have g2 : at? s 0 = some c := byte_get hc
          have hw := hw (by omega)
          obtain ⟨d, hd⟩ := some_at (l := s) (i := s.length - 1) (by omega)
          have g3 := byte_get hd
          by_cases hc39 : c = 39
          · have g4 : (c == 39) = true := by simp [hc39]
            have g5 : (d == 39) = false := by
              have : d ≠ 39 := fun e => hq ⟨l2, by rw [hc, hc39], by rw [hd, e]⟩
              simpa using this
            rw [call_54]
            simp -implicitDefEqProofs only [go_sem, simprocAttr, Tryz.f54, hb, hb2, g1, g2, g3, g4, g5, u8_39, hw, hp, a]
          · have g4 : (c == 39) = false := by simpa using hc39
            rw [call_54]
            simp -implicitDefEqProofs only [go_sem, simprocAttr, Tryz.f54, hb, hb2, g1, g2, g4, u8_39, hp, a]
        · have g1 : decide ((2 : Int) ≤ (s.length : Int)) = false := by simp; omega
          rw [call_54]
          simp -implicitDefEqProofs only [go_sem, simprocAttr, Tryz.f54, hb, hb2, g1, hp, a]
theorem c_Read (s : List UInt8) (hs : s.length ≤ 10000000) : R K (.call 11 [.str s] []) = some (.tup [enc (readS s).1, I (readS s).2], []) := by
  have h1 := c_candidate s hs
  have h2 := c_right (candS s).k (candS s).n (candS s).s
  have h3 := c_Show (candS s).k (candS s).n (candS s).s
  rw [Val.eta] at h2 h3
  cases hr : rightS (candS s) with
  | false =>
    rw [hr] at h2
    have e : readS s = (null, 14) := by unfold readS; rw [if_neg (by rw [hr]; simp)]
    rw [e]
    rw [call_11]
    simp -implicitDefEqProofs only [go_sem, simprocAttr, Tryz.f11, h1, h2]
    all_goals rfl
  | true =>
    rw [hr] at h2
    by_cases hq : showS (candS s) = s
    · have e : readS s = (candS s, 0) := by unfold readS; rw [if_pos ⟨hr, hq⟩]
      have hb : (showS (candS s) == s) = true := by simp [hq]
      rw [e]
      rw [call_11]
      simp -implicitDefEqProofs only [go_sem, simprocAttr, Tryz.f11, h1, h2, h3, hb]
    · have e : readS s = (null, 14) := by unfold readS; rw [if_neg (fun h => hq h.2)]
      have hb : (showS (candS s) == s) = false := by simpa using hq
      rw [e]
      rw [call_11]
      simp -implicitDefEqProofs only [go_sem, simprocAttr, Tryz.f11, h1, h2, h3, hb]
      all_goals rfl
theorem r_CanCast (a b : Int) : R K (.call 19 [I a, I b] []) = some (.bool (canS a b), []) := by
  rw [call_19]
  simp -implicitDefEqProofs only [go_sem, simprocAttr, Tryz.f19, r_within]
  repeat' ((first | apply split_cond | apply split_yes | apply split_no) <;> intro hc <;> simp -implicitDefEqProofs only [hc, go_sem, simprocAttr, r_within])
  all_goals simp_all [canS]
def Fresh (rows : List (List AV)) (r : AV × Heap) : Prop := r = (.lit rows, []) ∨ r = (.own 0 rows.length, [.rows 3 rows false])
theorem r_candidates (s : List UInt8) (hs : s.length ≤ 10000000) : ∃ r, R K (.call 56 [.str s] []) = some r ∧ Fresh ((candsS s).map rowV) r := by
  obtain ⟨w, b, hm, hb, hw⟩ := r_momentFrom (Lib.trimPrefix s [64])
  have ht := p_TrimPrefix s [64]
  have hd : (if (dreadS (Lib.trimPrefix s [64])).k = 4 then [dreadS (Lib.trimPrefix s [64])] else []) = if b = true then [w] else [] := by
    cases b with
    | true => rw [if_pos (by simpa using hb.symm), if_pos rfl, hw rfl]
    | false => rw [if_neg (by simpa using hb.symm), if_neg (by simp)]
  have key : ∀ (q : Bool), (q = true ↔ (1 < s.length ∧ s[0]? = some 39)) → ∀ (X : List Val), (match atoiN s with | some n => [numberS 2 n] | none => []) = X →
     ∃ r, R K (.call 56 [.str s] []) = some r ∧ Fresh (([null, boolV true, boolV false] ++ X ++ (if q = true then [textS (Lib.replaceAll (cut s 1 (s.length - 1)) [39, 39] [39])] else []) ++ (if b = true then [w] else [])).map rowV) r := by
    intro q hq X hX
    have g7 : (1 : Int).toNat = 1 := rfl
    have hr := p_Replace (List.take (s.length - 1 - 1) (List.drop 1 s)) [39, 39] [39] (by simp; omega) (by simp) (by simp; omega)
    have hwr : 1 < s.length → wrapI .i64 ((s.length : Int) - 1) = ((s.length - 1 : Nat) : Int) := fun h => by rw [wrap_id (by omega) (by omega)]; omega
    cases ha : atoiN s with
    | none =>
      rw [ha] at hX
      subst hX
      obtain ⟨z, a⟩ := p_Atoi_no s (by omega) ha
      by_cases h1 : 1 < s.length
      · have d1 : decide ((1 : Int) < (s.length : Int)) = true := by rw [decide_eq_true_eq]; omega
        obtain ⟨c, hc⟩ := some_at (l := s) (i := 0) (by omega)
        have c0 : at? s 0 = some c := byte_get hc
        by_cases h39 : c = 39
        · have c39 : (c == 39) = true := by simp [h39]
          have hw1 := hwr h1
          have g9 : ((1 : Int) ≤ (s.length : Int)) = True := eq_true (by omega)
          have g4 : ((0 : Int) ≤ ((s.length - 1 : Nat) : Int)) = True := eq_true (by omega)
          have g5 : (((s.length - 1 : Nat) : Int) ≤ (s.length : Int)) = True := eq_true (by omega)
          have g6 : ((1 : Int) ≤ ((s.length - 1 : Nat) : Int)) = True := eq_true (by omega)
          have hqt : q = true := hq.2 ⟨h1, by rw [hc, h39]⟩
          subst hqt
          cases b with
          | true =>
            refine ⟨_, ?_, .inr rfl⟩
            rw [call_56]
            simp -implicitDefEqProofs only [go_sem, simprocAttr, Tryz.f56, small_room, a, d1, c0, u8_39, c39, hw1, g9, g4, g5, g6, g7, Int.toNat_natCast, hr, ht, hm, r_Truth, r_word]
            all_goals rfl
          | false =>
            refine ⟨_, ?_, .inr rfl⟩
            rw [call_56]
            simp -implicitDefEqProofs only [go_sem, simprocAttr, Tryz.f56, small_room, a, d1, c0, u8_39, c39, hw1, g9, g4, g5, g6, g7, Int.toNat_natCast, hr, ht, hm, r_Truth, r_word]
            all_goals rfl
        · have c39 : (c == 39) = false := by simpa using h39
          have hqf : q = false := by rw [Bool.eq_false_iff]; intro e; have := (hq.1 e).2; rw [hc] at this; exact h39 (Option.some.inj this)
          subst hqf
          cases b with
          | true =>
            refine ⟨_, ?_, .inr rfl⟩
            rw [call_56]
            simp -implicitDefEqProofs only [go_sem, simprocAttr, Tryz.f56, small_room, a, d1, c0, u8_39, c39, ht, hm, r_Truth, r_word]
            all_goals rfl
          | false =>
            refine ⟨_, ?_, .inl rfl⟩
            rw [call_56]
            simp -implicitDefEqProofs only [go_sem, simprocAttr, Tryz.f56, small_room, a, d1, c0, u8_39, c39, ht, hm, r_Truth, r_word]
            all_goals rfl
      · have d1 : decide ((1 : Int) < (s.length : Int)) = false := by simp; omega
        have hqf : q = false := by rw [Bool.eq_false_iff]; intro e; exact h1 (hq.1 e).1
        subst hqf
        cases b with
        | true =>
          refine ⟨_, ?_, .inr rfl⟩
          rw [call_56]
          simp -implicitDefEqProofs only [go_sem, simprocAttr, Tryz.f56, small_room, a, d1, ht, hm, r_Truth, r_word]
          all_goals rfl
        | false =>
          refine ⟨_, ?_, .inl rfl⟩
          rw [call_56]
          simp -implicitDefEqProofs only [go_sem, simprocAttr, Tryz.f56, small_room, a, d1, ht, hm, r_Truth, r_word]
          all_goals rfl
    | some n =>
      rw [ha] at hX
      subst hX
      have a := p_Atoi_ok s n (by omega) ha
      by_cases h1 : 1 < s.length
      · have d1 : decide ((1 : Int) < (s.length : Int)) = true := by rw [decide_eq_true_eq]; omega
        obtain ⟨c, hc⟩ := some_at (l := s) (i := 0) (by omega)
        have c0 : at? s 0 = some c := byte_get hc
        by_cases h39 : c = 39
        · have c39 : (c == 39) = true := by simp [h39]
          have hw1 := hwr h1
          have g9 : ((1 : Int) ≤ (s.length : Int)) = True := eq_true (by omega)
          have g4 : ((0 : Int) ≤ ((s.length - 1 : Nat) : Int)) = True := eq_true (by omega)
          have g5 : (((s.length - 1 : Nat) : Int) ≤ (s.length : Int)) = True := eq_true (by omega)
          have g6 : ((1 : Int) ≤ ((s.length - 1 : Nat) : Int)) = True := eq_true (by omega)
          have hqt : q = true := hq.2 ⟨h1, by rw [hc, h39]⟩
          subst hqt
          cases b with
          | true =>
            refine ⟨_, ?_, .inr rfl⟩
            rw [call_56]
            simp -implicitDefEqProofs only [go_sem, simprocAttr, Tryz.f56, small_room, a, d1, c0, u8_39, c39, hw1, g9, g4, g5, g6, g7, Int.toNat_natCast, hr, ht, hm, r_Truth, r_word, r_Number]
            all_goals rfl
          | false =>
            refine ⟨_, ?_, .inr rfl⟩
            rw [call_56]
            simp -implicitDefEqProofs only [go_sem, simprocAttr, Tryz.f56, small_room, a, d1, c0, u8_39, c39, hw1, g9, g4, g5, g6, g7, Int.toNat_natCast, hr, ht, hm, r_Truth, r_word, r_Number]
            all_goals rfl
        · have c39 : (c == 39) = false := by simpa using h39
          have hqf : q = false := by rw [Bool.eq_false_iff]; intro e; have := (hq.1 e).2; rw [hc] at this; exact h39 (Option.some.inj this)
          subst hqf
          cases b with
          | true =>
            refine ⟨_, ?_, .inr rfl⟩
            rw [call_56]
            simp -implicitDefEqProofs only [go_sem, simprocAttr, Tryz.f56, small_room, a, d1, c0, u8_39, c39, ht, hm, r_Truth, r_word, r_Number]
            all_goals rfl
          | false =>
            refine ⟨_, ?_, .inr rfl⟩
            rw [call_56]
            simp -implicitDefEqProofs only [go_sem, simprocAttr, Tryz.f56, small_room, a, d1, c0, u8_39, c39, ht, hm, r_Truth, r_word, r_Number]
            all_goals rfl
      · have d1 : decide ((1 : Int) < (s.length : Int)) = false := by simp; omega
        have hqf : q = false := by rw [Bool.eq_false_iff]; intro e; exact h1 (hq.1 e).1
        subst hqf
        cases b with
        | true =>
          refine ⟨_, ?_, .inr rfl⟩
          rw [call_56]
          simp -implicitDefEqProofs only [go_sem, simprocAttr, Tryz.f56, small_room, a, d1, ht, hm, r_Truth, r_word, r_Number]
          all_goals rfl
        | false =>
          refine ⟨_, ?_, .inr rfl⟩
          rw [call_56]
          simp -implicitDefEqProofs only [go_sem, simprocAttr, Tryz.f56, small_room, a, d1, ht, hm, r_Truth, r_word, r_Number]
          all_goals rfl
  have e : candsS s = [null, boolV true, boolV false] ++ (match atoiN s with | some n => [numberS 2 n] | none => []) ++ (if decide (1 < s.length ∧ s[0]? = some 39) = true then [textS (Lib.replaceAll (cut s 1 (s.length - 1)) [39, 39] [39])] else []) ++ (if b = true then [w] else []) := by
    unfold candsS
    rw [hd]
    simp only [decide_eq_true_eq] <;> cases atoiN s <;> rfl
  rw [e]
  exact key _ (by rw [decide_eq_true_eq]) _ rfl
theorem l_Read (s : List UInt8) (rows : List Val) (hl : rows.length ≤ 1000) (X : AV) (H : Heap) (b : Nat)
   (hX : (X = .lit (rows.map rowV) ∧ H = [.cells [I 0, I 0, .str []]] ∧ b = 1) ∨ (X = .own 1 rows.length ∧ H = [.cells [I 0, I 0, .str []], .rows 3 (rows.map rowV) false] ∧ b = 2)) (ks : List It) : ∀ (m i : Nat) (j : Int) (B : Code), Loop Tryz.f12 0 B → j = (i : Int) → rows.length = i + m →
   RL K (.run 12 0 (.code B :: .lp B (some ([0, 2, 7, 8, 9], [])) b :: .blk 0 b :: ks) [(0, .str s), (2, .ptr 0 0), (7, X), (8, I (rows.length : Int)), (9, I j)] H) =
   match (rows.drop i).find? (fun v => showS v == s) with
   | some v => some (.tup [enc v, I 0], [])
   | none => R K (.run 12 0 ks [(2, .ptr 0 0)] (H.take b))
  | 0, i, j, B, hB, hj, hm => by
    subst hj
    have h1 : decide ((i : Int) < (rows.length : Int)) = false := by simp; omega
    rw [List.drop_of_length_le (by omega)]
    rcases hX with ⟨rfl, rfl, rfl⟩ | ⟨rfl, rfl, rfl⟩
    · unfold Loop at hB
      simp -implicitDefEqProofs only [go_sem, simprocAttr, Tryz.f12, loopOf] at hB
      subst hB
      rw [RL_eq]
      simp -implicitDefEqProofs only [go_sem, simprocAttr, h1]
      all_goals rfl
    · unfold Loop at hB
      simp -implicitDefEqProofs only [go_sem, simprocAttr, Tryz.f12, loopOf] at hB
      subst hB
      rw [RL_eq]
      simp -implicitDefEqProofs only [go_sem, simprocAttr, h1]
      all_goals rfl
  | m + 1, i, j, B, hB, hj, hm => by
    subst hj
    have hB' := hB
    have h1 : decide ((i : Int) < (rows.length : Int)) = true := by rw [decide_eq_true_eq]; omega
    obtain ⟨v, hv⟩ := some_at (l := rows) (i := i) (by omega)
    have hg := row_get hv
    have hg2 : (rows.map rowV)[i]? = some (rowV v) := by simp [hv]
    have hw := next_id (i := i) (n := rows.length) (by omega) (by omega)
    have hsh := r_Shown v.k v.n v.s
    rw [Val.eta] at hsh
    rw [drop_get hv]
    have ih := l_Read s rows hl X H b hX ks m (i + 1) _ B hB' rfl (by omega)
    cases hq : showS v == s with
    | true =>
      rcases hX with ⟨rfl, rfl, rfl⟩ | ⟨rfl, rfl, rfl⟩
      · unfold Loop at hB
        simp -implicitDefEqProofs only [go_sem, simprocAttr, Tryz.f12, loopOf] at hB
        subst hB
        rw [RL_eq]
        simp -implicitDefEqProofs only [go_sem, simprocAttr, h1, hg, hg2, rowV, hsh, hq, Int.toNat_natCast]
        simp only [List.find?_cons, hq]
        all_goals rfl
      · unfold Loop at hB
        simp -implicitDefEqProofs only [go_sem, simprocAttr, Tryz.f12, loopOf] at hB
        subst hB
        rw [RL_eq]
        simp -implicitDefEqProofs only [go_sem, simprocAttr, h1, hg, hg2, rowV, hsh, hq, Int.toNat_natCast]
        simp only [List.find?_cons, hq]
        all_goals rfl
    | false =>
      rcases hX with ⟨rfl, rfl, rfl⟩ | ⟨rfl, rfl, rfl⟩
      · unfold Loop at hB
        simp -implicitDefEqProofs only [go_sem, simprocAttr, Tryz.f12, loopOf] at hB
        subst hB
        rw [RL_eq]
        simp -implicitDefEqProofs only [go_sem, simprocAttr, h1, hg, hg2, rowV, hsh, hq, hw, Int.toNat_natCast]
        rw [ih]
        simp only [List.find?_cons, hq]
        cases List.find? (fun v => showS v == s) (List.drop (i + 1) rows) <;> rfl
      · unfold Loop at hB
        simp -implicitDefEqProofs only [go_sem, simprocAttr, Tryz.f12, loopOf] at hB
        subst hB
        rw [RL_eq]
        simp -implicitDefEqProofs only [go_sem, simprocAttr, h1, hg, hg2, rowV, hsh, hq, hw, Int.toNat_natCast]
        rw [ih]
        simp only [List.find?_cons, hq]
        cases List.find? (fun v => showS v == s) (List.drop (i + 1) rows) <;> rfl
theorem opt_len {α : Type} (p : Prop) [Decidable p] (x : α) : (if p then [x] else []).length ≤ 1 := by split <;> simp
theorem cands_len (s : List UInt8) : (candsS s).length ≤ 6 := by
  unfold candsS
  simp only [List.length_append, List.length_cons, List.length_nil]
  have h2 := opt_len (1 < s.length ∧ s[0]? = some 39) (textS (Lib.replaceAll (cut s 1 (s.length - 1)) [39, 39] [39]))
  have h3 := opt_len ((dreadS (Lib.trimPrefix s [64])).k = 4) (dreadS (Lib.trimPrefix s [64]))
  cases atoiN s with
  | none => simp only [List.length_nil]; omega
  | some n => simp only [List.length_cons, List.length_nil]; omega
theorem r_ReadValue (s : List UInt8) (hs : s.length ≤ 10000000) : R K (.call 12 [.str s] []) = some (.tup [enc (readRS s).1, I (readRS s).2], []) := by
  obtain ⟨r, hr, hf⟩ := r_candidates s hs
  have hl := cands_len s
  generalize hrows : candsS s = rows at hf hl
  have fin : readRS s = match rows.find? fun v => showS v == s with
    | some v => (v, 0)
    | none => (null, 14) := by
    unfold readRS
    rw [hrows] <;> cases List.find? (fun v => showS v == s) rows <;> rfl
  rw [fin]
  rcases hf with rfl | rfl
  · rw [call_12]
    simp -implicitDefEqProofs only [go_sem, simprocAttr, Tryz.f12, hr]
    rw [l_Read s rows (by omega) _ _ 1 (.inl ⟨rfl, rfl, rfl⟩) _ rows.length 0 0 _ ?_ rfl (by omega), List.drop_zero]
    · cases rows.find? fun v => showS v == s with
      | some v => rfl
      | none =>
        simp only [List.take_succ_cons, List.take_zero, List.take_nil]
        simp -implicitDefEqProofs only [go_sem, simprocAttr]
        all_goals rfl
    · rfl
  · rw [List.length_map] at hr
    rw [call_12]
    simp -implicitDefEqProofs only [go_sem, simprocAttr, Tryz.f12, hr]
    rw [l_Read s rows (by omega) _ _ 2 (.inr ⟨rfl, rfl, rfl⟩) _ rows.length 0 0 _ ?_ rfl (by omega), List.drop_zero]
    · cases rows.find? fun v => showS v == s with
      | some v => rfl
      | none =>
        simp only [List.take_succ_cons, List.take_zero, List.take_nil]
        simp -implicitDefEqProofs only [go_sem, simprocAttr]
        all_goals rfl
    · rfl
theorem show_len (v : Val) : (showS v).length ≤ 1000 := by
  rcases plain_kinds v with h | h | h | h | h
  · simp [showS, h]
  · simp only [showS, h, if_true]
    cases (plainV v).n == 1 <;> decide
  · simp only [showS, h]
    have hb := right_bounds v
    have := Lib.itoa_length_le (plainV v).n (by have := hb.2.1; omega) (by have := hb.2.1; omega)
    simp only [if_pos, Int.reduceEq, if_neg, if_false, if_true]; omega
  · simp only [showS, h]
    have hl := (plain3 v h).1
    have hn := replace_len (plainV v).s [39] [39, 39]
    simp only [Int.reduceEq, if_false, if_true, List.length_append, List.length_cons, List.length_nil] at hn ⊢
    omega
  · have hb := plain_moment h
    have hl := dtext_len hb.1 hb.2
    simp only [showS, h, Int.reduceEq, if_false, if_true, List.length_append, List.length_cons, List.length_nil]
    omega
inductive Ex where
  | mk (k op n : Int) (v : Val) (src nm : List UInt8) (d : Bool) (args : List Ex)
namespace Ex
def k : Ex → Int | mk k _ _ _ _ _ _ _ => k
end Ex
namespace Ex
def op : Ex → Int | mk _ op _ _ _ _ _ _ => op
end Ex
namespace Ex
def n : Ex → Int | mk _ _ n _ _ _ _ _ => n
end Ex
namespace Ex
def v : Ex → Val | mk _ _ _ v _ _ _ _ => v
end Ex
namespace Ex
def src : Ex → List UInt8 | mk _ _ _ _ s _ _ _ => s
end Ex
namespace Ex
def nm : Ex → List UInt8 | mk _ _ _ _ _ m _ _ => m
end Ex
namespace Ex
def d : Ex → Bool | mk _ _ _ _ _ _ d _ => d
end Ex
namespace Ex
def args : Ex → List Ex | mk _ _ _ _ _ _ _ a => a
end Ex
mutual
/-- An expression's cells. -/
def exC : Ex → List AV
  | .mk k op n v src nm d args => [.int .i64 k, .int .i64 op, .int .i64 n, .int .i64 v.k, .int .i64 v.n, .str v.s, .str src, .str nm, .bool d, .rows (exR args), .rows [], .rows [], .rows []]
def exR : List Ex → List (List AV)
  | [] => []
  | e :: r => exC e :: exR r
end
mutual
/-- How many parts an expression has. -/
def exN : Ex → Nat
  | .mk _ _ _ _ _ _ _ args => 1 + exNs args
def exNs : List Ex → Nat
  | [] => 0
  | e :: r => exN e + exNs r
end
mutual
/-- How many parts are within one another. -/
def exD : Ex → Nat
  | .mk _ _ _ _ _ _ _ args => 1 + exDs args
def exDs : List Ex → Nat
  | [] => 0
  | e :: r => max (exD e) (exDs r)
end
mutual
/-- Names are short; in no value's text a parenthesis closes. -/
def exB : Ex → Prop
  | .mk _ _ _ v src nm _ args => src.length + 1000 * v.s.count 41 ≤ 100 ∧ nm.length ≤ 100 ∧ exBs args
def exBs : List Ex → Prop
  | [] => True
  | e :: r => exB e ∧ exBs r
end
theorem exB_mem {e : Ex} : ∀ {l : List Ex}, exBs l → e ∈ l → exB e
  | x :: r, h, he => by
    simp only [exBs] at h
    rcases List.mem_cons.1 he with rfl | he
    · exact h.1
    · exact exB_mem h.2 he
theorem exBs_app : ∀ {a b : List Ex}, exBs a → exBs b → exBs (a ++ b)
  | [], b, _, h => h
  | e :: r, b, h, h2 => by
    simp only [exBs, List.cons_append] at h ⊢
    exact ⟨h.1, exBs_app h.2 h2⟩
theorem exBs_set {e : Ex} (he : exB e) : ∀ {l : List Ex} (i : Nat), exBs l → exBs (l.set i e)
  | [], _, h => h
  | x :: r, 0, h => by simp only [exBs, List.set_cons_zero] at h ⊢; exact ⟨he, h.2⟩
  | x :: r, i + 1, h => by simp only [exBs, List.set_cons_succ] at h ⊢; exact ⟨h.1, exBs_set he i h.2⟩
theorem exBs_drop : ∀ {l : List Ex} (n : Nat), exBs l → exBs (l.drop n)
  | [], n, _ => by simp [exBs]
  | x :: r, 0, h => h
  | x :: r, n + 1, h => by simp only [exBs] at h; rw [List.drop_succ_cons]; exact exBs_drop n h.2
theorem exR_len : ∀ l : List Ex, (exR l).length = l.length
  | [] => rfl
  | _ :: r => by simp [exR, exR_len r]
theorem exR_map : ∀ l : List Ex, exR l = l.map exC
  | [] => rfl
  | e :: r => by rw [exR, exR_map r, List.map_cons]
theorem exR_app (a b : List Ex) : exR (a ++ b) = exR a ++ exR b := by rw [exR_map, exR_map, exR_map, List.map_append]
theorem exC_len (e : Ex) : (exC e).length = 13 := by cases e; rfl
theorem exN_pos (e : Ex) : 1 ≤ exN e := by cases e; simp only [exN]; omega
theorem exN_mem {e : Ex} : ∀ {l : List Ex}, e ∈ l → exN e ≤ exNs l
  | x :: r, h => by
    rcases List.mem_cons.1 h with rfl | h
    · simp only [exNs]; omega
    · have := exN_mem h; simp only [exNs]; omega
theorem exNs_len : ∀ l : List Ex, l.length ≤ exNs l
  | [] => by simp [exNs]
  | e :: r => by have := exNs_len r; have := exN_pos e; simp only [exNs, List.length_cons]; omega
theorem exD_le : ∀ e : Ex, exD e ≤ exN e := by
  refine Ex.rec (motive_1 := fun e => exD e ≤ exN e) (motive_2 := fun l => exDs l ≤ exNs l) ?_ ?_ ?_
  · intro k op n v src nm d args ih; simp only [exD, exN]; omega
  · simp [exDs, exNs]
  · intro e r h1 h2; simp only [exDs, exNs]; omega
theorem Ex.ind {P : Ex → Prop} (h : ∀ e, (∀ a ∈ e.args, P a) → P e) : ∀ e, P e := by
  refine Ex.rec (motive_1 := P) (motive_2 := fun l => ∀ a ∈ l, P a) ?_ ?_ ?_
  · intro k op n v src nm d args ih; exact h _ ih
  · intro a ha; simp at ha
  · intro e r h1 h2 a ha
    rcases List.mem_cons.1 ha with rfl | ha
    · exact h1
    · exact h2 a ha
theorem Ex.eta (e : Ex) : Ex.mk e.k e.op e.n e.v e.src e.nm e.d e.args = e := by cases e; rfl
structure Cel where
  src : List UInt8
  nm : List UInt8
  k : Int
def CelOk (c : Cel) : Prop := c.src.length ≤ 100 ∧ c.nm.length ≤ 100 ∧ 0 ≤ c.k
def celC (c : Cel) : List AV := [.str c.src, .str c.nm, .int .i64 c.k]
abbrev St (L : List Int) (a : Int) : Heap := [.cells [LR L, I a]]
structure Gd (L : List Int) (a B : Int) : Prop where
  pos : 0 ≤ a
  top : a + B ≤ 4611686018427387904
  len : L.length ≤ 9223372036854775807
theorem Gd.step {L : List Int} {a B : Int} (h : Gd L a B) (a' B' : Int) (h1 : a ≤ a') (h2 : a' + B' ≤ a + B) : Gd L a' B' := ⟨by have := h.pos; omega, by have := h.top; omega, h.len⟩
def Out (t : Tk) (L : List Int) (a B : Int) (P : AV → Prop) : Prop := ∃ r a', R K t = some (r, St L a') ∧ a ≤ a' ∧ a' ≤ a + B ∧ P r
theorem Out.mk {t : Tk} {L : List Int} {a B : Int} {P : AV → Prop} (r : AV) (a' : Int) (h1 : a ≤ a') (h2 : a' ≤ a + B) (h3 : P r) (e : R K t = some (r, St L a')) : Out t L a B P := ⟨r, a', e, h1, h2, h3⟩
section
variable {L : List Int} {a B : Int}
theorem g_Next (h : Gd L a B) (hB : 1 ≤ B) (n : Int) : R K (.call 38 [.ptr 0 0, I n] (St L a)) = some (I (nextS L a n), St L (a + 1)) := by
  have h1 := h.pos
  have h2 := h.top
  exact r_Next L a n h1 (by omega) h.len
def rngS (L : List Int) (a lo hi : Int) : Int := lo + nextS L a (hi - lo + 1)
theorem range_bounds (L : List Int) (a lo hi : Int) (h1 : lo ≤ hi) (h2 : hi - lo ≤ 4611686018427387000) : lo ≤ rngS L a lo hi ∧ rngS L a lo hi ≤ hi := by
  have := next_bounds L a (hi - lo + 1) (by omega) (by omega)
  unfold rngS
  omega
theorem g_Range (h : Gd L a B) (hB : 1 ≤ B) (lo hi : Int) (h1 : lo ≤ hi) (h2 : -1152921504606846976 ≤ lo) (h3 : hi ≤ 1152921504606846976) : R K (.call 100 [.ptr 0 0, I lo, I hi] (St L a)) = some (I (rngS L a lo hi), St L (a + 1)) := by
  have x0 := g_Next h hB (hi - lo + 1)
  have b0 := range_bounds L a lo hi h1 (by omega)
  have d0 : decide (hi < lo) = false := decide_eq_false (by omega)
  have w1 : wrapI .i64 (hi - lo) = hi - lo := wrap_id (by omega) (by omega)
  have w2 : wrapI .i64 (hi - lo + 1) = hi - lo + 1 := wrap_id (by omega) (by omega)
  have w3 : wrapI .i64 (lo + nextS L a (hi - lo + 1)) = rngS L a lo hi := by
    unfold rngS at b0 ⊢
    exact wrap_id (by omega) (by omega)
  rw [call_100]
  simp -implicitDefEqProofs only [go_sem, simprocAttr, Tryz.f100, x0, d0, w1, w2, w3]
theorem g_Flip (h : Gd L a B) (hB : 1 ≤ B) (n : Int) : R K (.call 43 [.ptr 0 0, I n] (St L a)) = some (.bool (nextS L a n == 0), St L (a + 1)) := by
  have x0 := g_Next h hB n
  rw [call_43]
  simp -implicitDefEqProofs only [go_sem, simprocAttr, Tryz.f43, x0]
theorem int_at {l : List Int} {i : Int} (h : 0 ≤ i ∧ i < (l.length : Int)) : ∃ x ∈ l, at? (l.map fun x => [I x]) i = some [I x] := by
  obtain ⟨x, hx⟩ := some_at (l := l) (i := i.toNat) (by omega)
  refine ⟨x, List.mem_of_getElem? hx, ?_⟩
  unfold at?
  rw [if_pos h.1]
  simp [hx]
theorem g_Pick (h : Gd L a B) (hB : 1 ≤ B) (l : List Int) (hl : 1 ≤ l.length) (hl2 : l.length ≤ 1000) : ∃ x ∈ l, R K (.call 49 [.ptr 0 0, .rows (l.map fun x => [I x])] (St L a)) = some (I x, St L (a + 1)) := by
  have x0 := g_Next h hB (l.length : Int)
  have b0 := next_bounds L a (l.length : Int) (by omega) (by omega)
  obtain ⟨x, hx, hg⟩ := int_at (l := l) b0
  refine ⟨x, hx, ?_⟩
  rw [call_49]
  simp -implicitDefEqProofs only [go_sem, simprocAttr, Tryz.f49, x0, hg]
theorem g_Kind (h : Gd L a B) (hB : 1 ≤ B) : R K (.call 94 [.ptr 0 0] (St L a)) = some (I (rngS L a 1 4), St L (a + 1)) := by
  have x0 := g_Range h hB 1 4 (by omega) (by omega) (by omega)
  rw [call_94]
  simp -implicitDefEqProofs only [go_sem, simprocAttr, Tryz.f94, x0]
theorem g_Int (h : Gd L a B) (hB : 2 ≤ B) : ∃ n a', R K (.call 101 [.ptr 0 0] (St L a)) = some (I n, St L a') ∧ a ≤ a' ∧ a' ≤ a + 2 := by
  have x0 := g_Next h (by omega) 10
  have h1 := h.step (a + 1) (B - 1) (by omega) (by omega)
  by_cases e0 : nextS L a 10 = 0
  · obtain ⟨x, _, p⟩ := g_Pick h1 (by omega) [999999999999999, -999999999999999, 1000000000000000, -1000000000000000, 4611686018427387904, -9223372036854775808, 9223372036854775807, 253402300799, 253402300800] (by decide) (by decide)
    simp only [List.map] at p
    refine ⟨x, a + 1 + 1, ?_, by omega, by omega⟩
    rw [call_101]
    simp -implicitDefEqProofs only [go_sem, simprocAttr, Tryz.f101, x0, e0, p]
  · have b0 : (nextS L a 10 == 0) = false := by simpa using e0
    by_cases e1 : nextS L a 10 = 1
    · have x1 := g_Range h1 (by omega) (-1000000) 1000000 (by omega) (by omega) (by omega)
      refine ⟨rngS L (a + 1) (-1000000) 1000000, a + 1 + 1, ?_, by omega, by omega⟩
      rw [call_101]
      simp -implicitDefEqProofs only [go_sem, simprocAttr, Tryz.f101, x0, e1, x1]
    · have b1 : (nextS L a 10 == 1) = false := by simpa using e1
      have x1 := g_Range h1 (by omega) (-6) 12 (by omega) (by omega) (by omega)
      refine ⟨rngS L (a + 1) (-6) 12, a + 1 + 1, ?_, by omega, by omega⟩
      rw [call_101]
      simp -implicitDefEqProofs only [go_sem, simprocAttr, Tryz.f101, x0, b0, b1, x1]
theorem str_at {l : List (List UInt8)} {i : Int} (h : 0 ≤ i ∧ i < (l.length : Int)) : ∃ x ∈ l, at? (l.map fun x => [AV.str x]) i = some [.str x] := by
  obtain ⟨x, hx⟩ := some_at (l := l) (i := i.toNat) (by omega)
  refine ⟨x, List.mem_of_getElem? hx, ?_⟩
  unfold at?
  rw [if_pos h.1]
  simp [hx]
def pcs : List (List UInt8) := [[97], [98], [97, 98], [], [65], [37], [95], [92], [39], [32], [48], [49, 50], [45, 51], [116, 114, 117, 101], [120, 44, 121], [40], [50, 48, 48, 48, 45, 48, 50, 45, 50, 57, 84, 48, 48, 58, 48, 48, 58, 48, 48]]
theorem pcs_len : ∀ x ∈ pcs, x.length ≤ 19 := by decide
theorem pcs_no : ∀ x ∈ pcs, x.count 41 = 0 := by decide
theorem rep_no (s : List UInt8) (h : s.count 41 = 0) : ∀ n : Nat, (Lib.repeatL s n).count 41 = 0
  | 0 => by simp [Lib.repeatL]
  | n + 1 => by
    have := rep_no s h n
    simp only [Lib.repeatL] at this ⊢
    simp [List.replicate_succ, List.count_append, h, this]
theorem l_text (c : Nat) (hc : c ≤ 100) (ks : List It) : ∀ (m j : Nat) (i : Int) (t : List UInt8) (a B : Int) (Bo : Code), Loop Tryz.f102 0 Bo → Gd L a B → m ≤ B → i = (j : Int) → c = j + m → t.length ≤ 19 * j → t.count 41 = 0 →
   ∃ (t' : List UInt8) (a' : Int), a ≤ a' ∧ a' ≤ a + m ∧ (t'.length ≤ 19 * c ∧ t'.count 41 = 0) ∧
   RL K (.run 102 1 (.code Bo :: .lp Bo (some ([0, 3, 4, 18, 19], [])) 1 :: .blk 0 1 :: ks) [(0, .ptr 0 0), (3, .lit (pcs.map fun x => [.str x])), (4, .str t), (18, I (c : Int)), (19, I i)] (St L a)) =
   R K (.run 102 1 ks [(4, .str t')] (St L a'))
  | 0, j, i, t, a, B, Bo, hB, hG, hm, hi, hj, ht, hn => by
    subst hi
    have h1 : decide ((j : Int) < (c : Int)) = false := decide_eq_false (by omega)
    refine ⟨t, a, by omega, by omega, ⟨by omega, hn⟩, ?_⟩
    unfold Loop at hB
    simp -implicitDefEqProofs only [go_sem, simprocAttr, Tryz.f102, loopOf] at hB
    subst hB
    rw [RL_eq]
    simp -implicitDefEqProofs only [go_sem, simprocAttr, h1]
  | m + 1, j, i, t, a, B, Bo, hB, hG, hm, hi, hj, ht, hn => by
    subst hi
    have hB' := hB
    have h1 : decide ((j : Int) < (c : Int)) = true := decide_eq_true (by omega)
    have x1 := g_Next hG (by omega) 17
    obtain ⟨x, hx, hg⟩ := str_at (l := pcs) (next_bounds L a 17 (by omega) (by omega))
    have hxl := pcs_len x hx
    have h7 := next_id (i := j) (n := c) (by omega) (by omega)
    have k1 : (t.length + x.length ≤ strMax) = True := eq_true (by unfold strMax; omega)
    have l1 : (pcs.map fun x => [AV.str x]).length = 17 := rfl
    obtain ⟨t', a', q1, q2, q3, ih⟩ := l_text c hc ks m (j + 1) _ (t ++ x) (a + 1) (B - 1) Bo hB' (hG.step _ _ (by omega) (by omega)) (by omega) rfl (by omega) (by rw [List.length_append]; omega) (by rw [List.count_append, hn, pcs_no x hx])
    refine ⟨t', a', by omega, by omega, q3, ?_⟩
    unfold Loop at hB
    simp -implicitDefEqProofs only [go_sem, simprocAttr, Tryz.f102, loopOf] at hB
    subst hB
    rw [RL_eq]
    simp -implicitDefEqProofs only [go_sem, simprocAttr, h1, x1, hg, l1, h7, k1]
    rw [ih]
theorem g_text (h : Gd L a B) (hB : 10 ≤ B) : ∃ s a', R K (.call 102 [.ptr 0 0] (St L a)) = some (.str s, St L a') ∧ a ≤ a' ∧ a' ≤ a + 10 ∧ s.length ≤ 2000 ∧ s.count 41 = 0 := by
  have x0 := g_Flip h (by omega) 12
  have h1 := h.step (a + 1) (B - 1) (by omega) (by omega)
  cases e0 : nextS L a 12 == 0 with
  | true =>
    rw [e0] at x0
    have x1 := g_Next h1 (by omega) 4
    obtain ⟨s, hs, hg⟩ := str_at (l := [[97], [39], [92], [37]]) (next_bounds L (a + 1) 4 (by omega) (by omega))
    have hsn : s.count 41 = 0 := (by decide : ∀ x ∈ ([[97], [39], [92], [37]] : List (List UInt8)), x.count 41 = 0) s hs
    have hsl : s.length ≤ 1 := (by decide : ∀ x ∈ ([[97], [39], [92], [37]] : List (List UInt8)), x.length ≤ 1) s hs
    have h2 := h1.step (a + 1 + 1) (B - 2) (by omega) (by omega)
    obtain ⟨x, hx, p⟩ := g_Pick h2 (by omega) [49, 50, 51, 99, 100, 101] (by decide) (by decide)
    have hxb : 0 ≤ x ∧ x ≤ 101 := (by decide : ∀ x ∈ ([49, 50, 51, 99, 100, 101] : List Int), 0 ≤ x ∧ x ≤ 101) x hx
    have pr := p_Repeat s x.toNat (by omega) (by omega)
    rw [Int.toNat_of_nonneg hxb.1] at pr
    simp only [List.map] at p hg
    refine ⟨Lib.repeatL s x.toNat, a + 1 + 1 + 1, ?_, by omega, by omega, ?_⟩
    · rw [call_102]
      simp -implicitDefEqProofs only [go_sem, simprocAttr, Tryz.f102, x0, x1, hg, p, pr]
    · rw [Lib.repeatL_length, Nat.mul_comm]
      have : s.length * x.toNat ≤ 1 * 101 := Nat.mul_le_mul hsl (by omega)
      exact ⟨by omega, rep_no s hsn _⟩
  | false =>
    rw [e0] at x0
    have x1 := g_Range h1 (by omega) 0 3 (by omega) (by omega) (by omega)
    have b1 := range_bounds L (a + 1) 0 3 (by omega) (by omega)
    have e1 : ((rngS L (a + 1) 0 3).toNat : Int) = rngS L (a + 1) 0 3 := by omega
    obtain ⟨t', a', q1, q2, q3, lk⟩ := l_text (L := L) (rngS L (a + 1) 0 3).toNat (by omega) [.code _] (rngS L (a + 1) 0 3).toNat 0 0 [] (a + 1 + 1) (B - 2) _ rfl (h1.step _ _ (by omega) (by omega)) (by omega) rfl (by omega) (by simp) rfl
    rw [e1] at lk
    refine ⟨t', a', ?_, by omega, by omega, by omega, q3.2⟩
    rw [call_102]
    simp -implicitDefEqProofs only [go_sem, simprocAttr, Tryz.f102, x0, x1]
    simp only [pcs, List.map] at lk
    rw [lk]
    simp -implicitDefEqProofs only [go_sem, simprocAttr]
theorem g_Full (h : Gd L a B) (hB : 12 ≤ B) (k : Int) : ∃ v a', R K (.call 98 [.ptr 0 0, I k] (St L a)) = some (enc v, St L a') ∧ a ≤ a' ∧ a' ≤ a + 12 ∧ v.s.length ≤ 2000 ∧ v.s.count 41 = 0 := by
  by_cases k1 : k = 1
  · subst k1
    have x0 := g_Next h (by omega) 2
    refine ⟨⟨1, nextS L a 2, []⟩, a + 1, ?_, by omega, by omega, by simp, rfl⟩
    rw [call_98]
    simp -implicitDefEqProofs only [go_sem, simprocAttr, Tryz.f98, x0]
  have b1 : (k == 1) = false := by simpa using k1
  by_cases k2 : k = 2
  · subst k2
    obtain ⟨n, a', x0, q1, q2⟩ := g_Int h (by omega)
    refine ⟨⟨2, if 999999999999999 < (if n < -999999999999999 then -999999999999999 else n) then 999999999999999 else (if n < -999999999999999 then -999999999999999 else n), []⟩, a', ?_, by omega, by omega, by simp, rfl⟩
    rw [call_98]
    simp -implicitDefEqProofs only [go_sem, simprocAttr, Tryz.f98, x0]
    all_goals rfl
  have b2 : (k == 2) = false := by simpa using k2
  by_cases k3 : k = 3
  · subst k3
    obtain ⟨s, a', x0, q1, q2, q3⟩ := g_text h (by omega)
    by_cases hl : 100 < s.length
    · have d0 : decide ((100 : Int) < (s.length : Int)) = true := decide_eq_true (by omega)
      have d1 : ((100 : Int) ≤ (s.length : Int)) = True := eq_true (by omega)
      have d2 : (100 : Int).toNat = 100 := rfl
      refine ⟨⟨3, 0, s.take 100⟩, a', ?_, by omega, by omega, by simp; omega, Nat.eq_zero_of_le_zero (by show (s.take 100).count 41 ≤ 0; have := List.Sublist.count_le (41 : UInt8) (List.take_sublist 100 s); omega)⟩
      rw [call_98]
      simp -implicitDefEqProofs only [go_sem, simprocAttr, Tryz.f98, x0, d0, d1, d2]
    · have d0 : decide ((100 : Int) < (s.length : Int)) = false := decide_eq_false (by omega)
      refine ⟨⟨3, 0, s⟩, a', ?_, by omega, by omega, q3⟩
      rw [call_98]
      simp -implicitDefEqProofs only [go_sem, simprocAttr, Tryz.f98, x0, d0]
  have b3 : (k == 3) = false := by simpa using k3
  have x0 := g_Range h (by omega) 0 2147483648 (by omega) (by omega) (by omega)
  have h1 := h.step (a + 1) (B - 1) (by omega) (by omega)
  obtain ⟨x, _, p⟩ := g_Pick h1 (by omega) [0, 1, 59, 86399, 86400, 951782400, 951868799, 1709164800, 1706659200, 253402300799, rngS L a 0 2147483648] (by simp) (by simp)
  simp only [List.map] at p
  refine ⟨⟨k, x, []⟩, a + 1 + 1, ?_, by omega, by omega, by simp, rfl⟩
  rw [call_98]
  simp -implicitDefEqProofs only [go_sem, simprocAttr, Tryz.f98, b1, b2, b3, x0, p]
theorem g_Value (h : Gd L a B) (hB : 13 ≤ B) (k : Int) : ∃ v a', R K (.call 41 [.ptr 0 0, I k] (St L a)) = some (enc v, St L a') ∧ a ≤ a' ∧ a' ≤ a + 13 ∧ v.s.length ≤ 2000 ∧ v.s.count 41 = 0 := by
  have x0 := g_Flip h (by omega) 7
  have h1 := h.step (a + 1) (B - 1) (by omega) (by omega)
  cases e0 : nextS L a 7 == 0 with
  | true =>
    rw [e0] at x0
    refine ⟨null, a + 1, ?_, by omega, by omega, by simp [null], rfl⟩
    rw [call_41]
    simp -implicitDefEqProofs only [go_sem, simprocAttr, Tryz.f41, x0]
    all_goals rfl
  | false =>
    rw [e0] at x0
    obtain ⟨v, a', x1, q1, q2, q3⟩ := g_Full h1 (by omega) k
    refine ⟨v, a', ?_, by omega, by omega, q3⟩
    rw [call_41]
    simp -implicitDefEqProofs only [go_sem, simprocAttr, Tryz.f41, x0, x1]
theorem g_Any (h : Gd L a B) (hB : 30 ≤ B) : ∃ v a', R K (.call 44 [.ptr 0 0] (St L a)) = some (enc v, St L a') ∧ a ≤ a' ∧ a' ≤ a + 30 ∧ v.s.length ≤ 2001 ∧ v.s.count 41 = 0 := by
  have x0 := g_Range h (by omega) 1 4 (by omega) (by omega) (by omega)
  obtain ⟨v, a1, x1, q1, q2, q3⟩ := g_Value (h.step (a + 1) (B - 1) (by omega) (by omega)) (by omega) (rngS L a 1 4)
  have h1 := h.step a1 (B - 14) (by omega) (by omega)
  have x2 := g_Flip h1 (by omega) 8
  cases e0 : nextS L a1 8 == 0 with
  | false =>
    rw [e0] at x2
    refine ⟨v, a1 + 1, ?_, by omega, by omega, by omega, q3.2⟩
    rw [call_44]
    simp -implicitDefEqProofs only [go_sem, simprocAttr, Tryz.f44, x0, x1, x2]
  | true =>
    rw [e0] at x2
    have h2 := h1.step (a1 + 1) (B - 15) (by omega) (by omega)
    have x3 := g_Next h2 (by omega) 5
    have h3 := h2.step (a1 + 1 + 1) (B - 16) (by omega) (by omega)
    by_cases c0 : nextS L (a1 + 1) 5 = 0
    · obtain ⟨x, _, p⟩ := g_Pick h3 (by omega) [-1, 5, 0, 1, 2, 3, 4] (by decide) (by decide)
      simp only [List.map] at p
      refine ⟨⟨x, v.n, v.s⟩, a1 + 1 + 1 + 1, ?_, by omega, by omega, by simp only; omega, q3.2⟩
      rw [call_44]
      simp -implicitDefEqProofs only [go_sem, simprocAttr, Tryz.f44, x0, x1, x2, x3, c0, p]
    have b0 : (nextS L (a1 + 1) 5 == 0) = false := by simpa using c0
    by_cases c1 : nextS L (a1 + 1) 5 = 1
    · obtain ⟨n, a2, p, r1, r2⟩ := g_Int h3 (by omega)
      refine ⟨⟨v.k, n, v.s⟩, a2, ?_, by omega, by omega, by simp only; omega, q3.2⟩
      rw [call_44]
      simp -implicitDefEqProofs only [go_sem, simprocAttr, Tryz.f44, x0, x1, x2, x3, c1, p]
    have b1 : (nextS L (a1 + 1) 5 == 1) = false := by simpa using c1
    by_cases c2 : nextS L (a1 + 1) 5 = 2
    · obtain ⟨s, a2, p, r1, r2, r3⟩ := g_text h3 (by omega)
      refine ⟨⟨v.k, v.n, s⟩, a2, ?_, by omega, by omega, by simp only; omega, r3.2⟩
      rw [call_44]
      simp -implicitDefEqProofs only [go_sem, simprocAttr, Tryz.f44, x0, x1, x2, x3, c2, p]
    have b2 : (nextS L (a1 + 1) 5 == 2) = false := by simpa using c2
    by_cases c3 : nextS L (a1 + 1) 5 = 3
    · have k1 : (v.s.length + 1 ≤ strMax) = True := eq_true (by unfold strMax; omega)
      refine ⟨⟨v.k, v.n, v.s ++ [10]⟩, a1 + 1 + 1, ?_, by omega, by omega, by simp; omega, by simp only; rw [List.count_append, q3.2]; rfl⟩
      rw [call_44]
      simp -implicitDefEqProofs only [go_sem, simprocAttr, Tryz.f44, x0, x1, x2, x3, c3, k1]
    have b3 : (nextS L (a1 + 1) 5 == 3) = false := by simpa using c3
    obtain ⟨x, hx, p⟩ := g_Pick h3 (by omega) [100, 101] (by decide) (by decide)
    have hxb : 0 ≤ x ∧ x ≤ 101 := (by decide : ∀ x ∈ ([100, 101] : List Int), 0 ≤ x ∧ x ≤ 101) x hx
    have pr := p_Repeat [122] x.toNat (by omega) (by simp)
    rw [Int.toNat_of_nonneg hxb.1] at pr
    simp only [List.map] at p
    refine ⟨⟨v.k, v.n, Lib.repeatL [122] x.toNat⟩, a1 + 1 + 1 + 1, ?_, by omega, by omega, ?_⟩
    · rw [call_44]
      simp -implicitDefEqProofs only [go_sem, simprocAttr, Tryz.f44, x0, x1, x2, x3, b0, b1, b2, b3, p, pr]
    · simp only
      rw [Lib.repeatL_length]
      exact ⟨by simp; omega, rep_no _ rfl _⟩
end
theorem exC_eq (e : Ex) : exC e = [I e.k, I e.op, I e.n, I e.v.k, I e.v.n, .str e.v.s, .str e.src, .str e.nm, .bool e.d, .rows (exR e.args), .rows [], .rows [], .rows []] := by cases e; rfl
@[go_sem] theorem exC_singles (e : Ex) : singles (exC e) = true := by rw [exC_eq]; rfl
@[go_sem] theorem exC_purify (e : Ex) (h : Heap) : purifyL h (exC e) = some (exC e) := by rw [exC_eq]; rfl
@[go_sem] theorem exC_conv (e : Ex) (h : Heap) : convL h (exC e) = some (exC e) := by rw [exC_eq]; rfl
@[go_sem] theorem exC_leave (e : Ex) (b : Bool) (k : Nat) (h : Heap) : leaveL b k h (exC e) = some (exC e) := by rw [exC_eq]; rfl
@[go_sem] theorem exC_locs (e : Ex) : locsL (exC e) = [] := by rw [exC_eq]; rfl
@[go_sem] theorem exC_ren (e : Ex) (σ : Nat → Nat) : renL σ (exC e) = exC e := by rw [exC_eq]; rfl
@[go_sem] theorem exC_take (e : Ex) : (exC e).take 13 = exC e := by rw [exC_eq]; rfl
@[go_sem] theorem exC_drop (e : Ex) : (exC e).drop 13 = [] := by rw [exC_eq]; rfl
attribute [go_sem] exC_len touchesCall true_or or_true
abbrev colsC (cols : List Cel) : AV := .rows (cols.map celC)
theorem g_Constant (v : Val) : R K (.call 152 [V v.k v.n v.s] []) = some (.agg (exC (.mk 1 0 0 v [] [] false [])), []) := by
  rw [call_152]
  simp -implicitDefEqProofs only [go_sem, simprocAttr, Tryz.f152]
  all_goals rfl
theorem g_Oper (op : Int) (l : List Ex) : R K (.call 149 [I op, .rows (exR l)] []) = some (.agg (exC (.mk 4 op 0 null [] [] false l)), []) := by
  rw [call_149]
  simp -implicitDefEqProofs only [go_sem, simprocAttr, Tryz.f149]
  all_goals rfl
section
variable {L : List Int} {a B : Int}
theorem cel_get {l : List Cel} {i : Nat} {v : Cel} (h : l[i]? = some v) : at? (l.map celC) (i : Int) = some (celC v) := at_get (by simp [h])
theorem ex_get {l : List Ex} {i : Nat} {v : Ex} (h : l[i]? = some v) : at? (exR l) (i : Int) = some (exC v) := at_get (by simp [exR_map, h])
theorem ex_get' {l : List Ex} {i : Nat} {v : Ex} (h : l[i]? = some v) : (exR l)[i]? = some (exC v) := by simp [exR_map, h]
theorem int_get {l : List Int} {i : Nat} {v : Int} (h : l[i]? = some v) : at? (l.map fun x => [I x]) (i : Int) = some [I v] := at_get (by simp [h])
def Lone (e : Ex) : Prop := e.args = [] ∧ exB e
theorem Lone.n {e : Ex} (h : Lone e) : exN e = 1 := by
  have h := h.1
  cases e
  simp only [Ex.args] at h
  subst h
  rfl
theorem lone_mk (k op n : Int) (v : Val) (src nm : List UInt8) (d : Bool) (h1 : src.length + 1000 * v.s.count 41 ≤ 100) (h2 : nm.length ≤ 100) : Lone (.mk k op n v src nm d []) := ⟨rfl, by simp only [exB, exBs]; exact ⟨h1, h2, trivial⟩⟩
theorem exR_snoc (l : List Ex) (e : Ex) : exR l ++ [exC e] = exR (l ++ [e]) := by rw [exR_app]; rfl
theorem room_small (n : Nat) (h : n ≤ 100000) (b : Nat) (hb : b ≤ 1000) : (n * b ≤ roomMax) = True := eq_true (by
  have : n * b ≤ 100000 * 1000 := Nat.mul_le_mul h hb
  unfold roomMax; omega)
theorem l_leaf0 (cols : List Cel) (hco : ∀ c ∈ cols, CelOk c) (hc : cols.length ≤ 1000) (kind : Int) (ps : List Int) (H0 : List AV) (hH : locsL H0 = []) (ks : List It) : ∀ (m j : Nat) (i : Int) (l : List Ex) (Bo : Code), Loop Tryz.f147 0 Bo → i = (j : Int) → cols.length = j + m → l.length ≤ j → (∀ e ∈ l, Lone e) →
   ∃ l' : List Ex, l'.length ≤ cols.length ∧ (∀ e ∈ l', Lone e) ∧
   RL K (.run 147 1 (.code Bo :: .lp Bo (some ([0, 1, 3, 8, 9, 14, 15, 16], [])) 3 :: .blk 0 3 :: ks) [(0, .ptr 0 0), (1, I kind), (3, LR ps), (8, .ptr 1 0), (9, .own 2 l.length), (14, colsC cols), (15, I (cols.length : Int)), (16, I i)] [.cells [LR L, I a], .cells H0, .rows 13 (exR l) false]) =
   R K (.run 147 1 ks [(0, .ptr 0 0), (1, I kind), (3, LR ps), (8, .ptr 1 0), (9, .own 2 l'.length)] [.cells [LR L, I a], .cells H0, .rows 13 (exR l') false])
  | 0, j, i, l, Bo, hB, hi, hj, hl, hL => by
    subst hi
    have h1 : decide ((j : Int) < (cols.length : Int)) = false := decide_eq_false (by omega)
    refine ⟨l, by omega, hL, ?_⟩
    unfold Loop at hB
    simp -implicitDefEqProofs only [go_sem, simprocAttr, Tryz.f147, loopOf] at hB
    subst hB
    rw [RL_eq]
    simp -implicitDefEqProofs only [go_sem, simprocAttr, h1, hH]
  | m + 1, j, i, l, Bo, hB, hi, hj, hl, hL => by
    subst hi
    have hB' := hB
    have h1 : decide ((j : Int) < (cols.length : Int)) = true := decide_eq_true (by omega)
    obtain ⟨c, hc'⟩ := some_at (l := cols) (i := j) (by omega)
    have hg := cel_get hc'
    have h7 := next_id (i := j) (n := cols.length) (by omega) (by omega)
    cases hk : c.k == kind with
    | false =>
      obtain ⟨l', q1, q2, ih⟩ := l_leaf0 cols hco hc kind ps H0 hH ks m (j + 1) _ l Bo hB' rfl (by omega) (by omega) hL
      refine ⟨l', q1, q2, ?_⟩
      unfold Loop at hB
      simp -implicitDefEqProofs only [go_sem, simprocAttr, Tryz.f147, loopOf] at hB
      subst hB
      rw [RL_eq]
      simp -implicitDefEqProofs only [go_sem, simprocAttr, h1, hH, hg, celC, h7, hk]
      rw [← ih]
    | true =>
      have hr := room_small (l.length + 1) (by omega)
      obtain ⟨l', q1, q2, ih⟩ := l_leaf0 cols hco hc kind ps H0 hH ks m (j + 1) _ (l ++ [.mk 3 0 0 null c.src c.nm false []]) Bo hB' rfl (by omega) (by simp; omega) (by
        intro e he
        rcases List.mem_append.1 he with he | he
        · exact hL e he
        · simp only [List.mem_cons, List.not_mem_nil, or_false] at he; subst he; exact lone_mk _ _ _ _ _ _ _ (hco c (List.mem_of_getElem? hc')).1 (hco c (List.mem_of_getElem? hc')).2.1)
      refine ⟨l', q1, q2, ?_⟩
      unfold Loop at hB
      simp -implicitDefEqProofs only [go_sem, simprocAttr, Tryz.f147, loopOf] at hB
      subst hB
      rw [RL_eq]
      simp -implicitDefEqProofs only [go_sem, simprocAttr, h1, hH, hg, celC, h7, hk, exR_len, hr]
      rw [← ih]
      simp only [← exR_snoc, List.length_append, List.length_cons, List.length_nil]
      rfl
theorem l_leaf2 (ps : List Int) (hp : ps.length ≤ 1000) (kind : Int) (H0 : List AV) (hH : locsL H0 = []) (ks : List It) : ∀ (m j : Nat) (i : Int) (l : List Ex) (Bo : Code), Loop Tryz.f147 2 Bo → i = (j : Int) → ps.length = j + m → l.length ≤ 1000 + j → (∀ e ∈ l, Lone e) →
   ∃ l' : List Ex, l'.length ≤ 1000 + ps.length ∧ (∀ e ∈ l', Lone e) ∧
   RL K (.run 147 1 (.code Bo :: .lp Bo (some ([0, 1, 8, 9, 33, 34, 35], [])) 3 :: .blk 2 3 :: ks) [(0, .ptr 0 0), (1, I kind), (8, .ptr 1 0), (9, .own 2 l.length), (33, LR ps), (34, I (ps.length : Int)), (35, I i)] [.cells [LR L, I a], .cells H0, .rows 13 (exR l) false]) =
   R K (.run 147 1 ks [(0, .ptr 0 0), (1, I kind), (8, .ptr 1 0), (9, .own 2 l'.length)] [.cells [LR L, I a], .cells H0, .rows 13 (exR l') false])
  | 0, j, i, l, Bo, hB, hi, hj, hl, hL => by
    subst hi
    have h1 : decide ((j : Int) < (ps.length : Int)) = false := decide_eq_false (by omega)
    refine ⟨l, by omega, hL, ?_⟩
    unfold Loop at hB
    simp -implicitDefEqProofs only [go_sem, simprocAttr, Tryz.f147, loopOf] at hB
    subst hB
    rw [RL_eq]
    simp -implicitDefEqProofs only [go_sem, simprocAttr, h1, hH]
  | m + 1, j, i, l, Bo, hB, hi, hj, hl, hL => by
    subst hi
    have hB' := hB
    have h1 : decide ((j : Int) < (ps.length : Int)) = true := decide_eq_true (by omega)
    obtain ⟨c, hc'⟩ := some_at (l := ps) (i := j) (by omega)
    have hg := int_get hc'
    have h7 := next_id (i := j) (n := ps.length) (by omega) (by omega)
    cases hk : c == kind with
    | false =>
      obtain ⟨l', q1, q2, ih⟩ := l_leaf2 ps hp kind H0 hH ks m (j + 1) _ l Bo hB' rfl (by omega) (by omega) hL
      refine ⟨l', q1, q2, ?_⟩
      unfold Loop at hB
      simp -implicitDefEqProofs only [go_sem, simprocAttr, Tryz.f147, loopOf] at hB
      subst hB
      rw [RL_eq]
      simp -implicitDefEqProofs only [go_sem, simprocAttr, h1, hH, hg, h7, hk]
      rw [← ih]
    | true =>
      have hr := room_small (l.length + 1) (by omega)
      obtain ⟨l', q1, q2, ih⟩ := l_leaf2 ps hp kind H0 hH ks m (j + 1) _ (l ++ [.mk 2 0 (j : Int) null [] [] false []]) Bo hB' rfl (by omega) (by simp; omega) (by
        intro e he
        rcases List.mem_append.1 he with he | he
        · exact hL e he
        · simp only [List.mem_cons, List.not_mem_nil, or_false] at he; subst he; exact lone_mk _ _ _ _ _ _ _ (by simp [null]) (by simp))
      refine ⟨l', q1, q2, ?_⟩
      unfold Loop at hB
      simp -implicitDefEqProofs only [go_sem, simprocAttr, Tryz.f147, loopOf] at hB
      subst hB
      rw [RL_eq]
      simp -implicitDefEqProofs only [go_sem, simprocAttr, h1, hH, hg, h7, hk, exR_len, hr]
      rw [← ih]
      simp only [← exR_snoc, List.length_append, List.length_cons, List.length_nil]
      rfl
theorem g_leaf (h : Gd L a B) (hB : 16 ≤ B) (kind : Int) (cols : List Cel) (ps : List Int) (hco : ∀ c ∈ cols, CelOk c) (hc : cols.length ≤ 1000) (hp : ps.length ≤ 1000) : ∃ e a', R K (.call 147 [.ptr 0 0, I kind, colsC cols, LR ps] (St L a)) = some (.agg (exC e), St L a') ∧ a ≤ a' ∧ a' ≤ a + 16 ∧ exN e ≤ 1 ∧ exB e := by
  obtain ⟨l1, q1, q2, e1⟩ := l_leaf0 (L := L) (a := a) cols hco hc kind ps [I 0, I 0, I 0, I 0, I 0, .str [], .str [], .str [], .bool false, .nils, .nils, .nils, .nils] rfl [.code _] cols.length 0 0 [] _ rfl rfl (by omega) (by simp) (by simp)
  obtain ⟨l2, r1, r2, e2⟩ := l_leaf2 (L := L) (a := a) ps hp kind [I 0, I 0, I 0, I 0, I 0, .str [], .str [], .str [], .bool false, .nils, .nils, .nils, .nils] rfl [.code _] ps.length 0 0 l1 _ rfl rfl (by omega) (by omega) q2
  simp only [List.length_nil, exR] at e1
  have f0 := g_Flip h (by omega) 3
  have h1 := h.step (a + 1) (B - 1) (by omega) (by omega)
  by_cases hl : 0 < l2.length
  · have d0 : decide ((0 : Int) < (l2.length : Int)) = true := decide_eq_true (by omega)
    cases hf : nextS L a 3 == 0 with
    | false =>
      rw [hf] at f0
      have x0 := g_Next h1 (by omega) (l2.length : Int)
      have b0 := next_bounds L (a + 1) (l2.length : Int) (by omega) (by omega)
      obtain ⟨x, hx⟩ := some_at (l := l2) (i := (nextS L (a + 1) (l2.length : Int)).toNat) (by omega)
      have hg : at? (exR l2) (nextS L (a + 1) (l2.length : Int)) = some (exC x) := by
        unfold at?
        rw [if_pos b0.1]
        exact ex_get' hx
      have hg2 := ex_get' hx
      refine ⟨x, a + 1 + 1, ?_, by omega, by omega, by rw [(r2 x (List.mem_of_getElem? hx)).n]; omega, (r2 x (List.mem_of_getElem? hx)).2⟩
      rw [call_147]
      simp -implicitDefEqProofs only [go_sem, simprocAttr, Tryz.f147]
      rw [e1]
      simp -implicitDefEqProofs only [go_sem, simprocAttr]
      rw [e2]
      simp -implicitDefEqProofs only [go_sem, simprocAttr, d0, f0, x0, exR_len, hg, hg2]
    | true =>
      rw [hf] at f0
      obtain ⟨v, a', x0, s1, s2, s3⟩ := g_Value h1 (by omega) kind
      refine ⟨.mk 1 0 0 v [] [] false [], a', ?_, by omega, by omega, ?_, (lone_mk _ _ _ _ _ _ _ (by simp [s3.2]) (by simp)).2⟩
      · rw [call_147]
        simp -implicitDefEqProofs only [go_sem, simprocAttr, Tryz.f147]
        rw [e1]
        simp -implicitDefEqProofs only [go_sem, simprocAttr]
        rw [e2]
        simp -implicitDefEqProofs only [go_sem, simprocAttr, d0, f0, x0, g_Constant]
      · simp [exN, exNs]
  · have d0 : decide ((0 : Int) < (l2.length : Int)) = false := decide_eq_false (by omega)
    obtain ⟨v, a', x0, s1, s2, s3⟩ := g_Value h (by omega) kind
    refine ⟨.mk 1 0 0 v [] [] false [], a', ?_, by omega, by omega, ?_, (lone_mk _ _ _ _ _ _ _ (by simp [s3.2]) (by simp)).2⟩
    · rw [call_147]
      simp -implicitDefEqProofs only [go_sem, simprocAttr, Tryz.f147]
      rw [e1]
      simp -implicitDefEqProofs only [go_sem, simprocAttr]
      rw [e2]
      simp -implicitDefEqProofs only [go_sem, simprocAttr, d0, x0, g_Constant]
    · simp [exN, exNs]
end
def bN : Nat → Nat
  | 0 => 1
  | d + 1 => 1 + 5 * bN d
def bT : Nat → Int
  | 0 => 20
  | d + 1 => 30 + 5 * bT d
theorem bN_pos : ∀ d, 1 ≤ bN d
  | 0 => by simp [bN]
  | d + 1 => by simp only [bN]; omega
theorem bT_pos : ∀ d, 20 ≤ bT d
  | 0 => by simp [bT]
  | d + 1 => by have := bT_pos d; simp only [bT]; omega
theorem block_plain {C : Cfg} {f k id : Nat} {ks : List It} {fr : Fr} {h : Heap} {b : Code} : onBlockL C f k ks id b fr h none = R C (.run f k (.code (.loop b) :: .blk id h.length :: ks) fr h) := rfl
def ScalarOk (d : Nat) : Prop := ∀ (L : List Int) (cols : List Cel) (ps : List Int) (kind a B : Int), (∀ c ∈ cols, CelOk c) → cols.length ≤ 1000 → ps.length ≤ 1000 → Gd L a B → bT d ≤ B →
  ∃ e a', R K (.call 96 [.ptr 0 0, I kind, colsC cols, LR ps, I (d : Int)] (St L a)) = some (.agg (exC e), St L a') ∧ a ≤ a' ∧ a' ≤ a + bT d ∧ exN e ≤ bN d ∧ exB e
abbrev Env (L : List Int) (a : Int) (cols : List Cel) (ps : List Int) (d : Int) : Heap := [.cells [.ptr 4 0], .cells [colsC cols], .cells [LR ps], .cells [I d], .cells [LR L, I a]]
def SubOk (f : Nat) (d : Nat) : Prop := ∀ (L : List Int) (cols : List Cel) (ps : List Int) (kind a B : Int), (∀ c ∈ cols, CelOk c) → cols.length ≤ 1000 → ps.length ≤ 1000 → Gd L a B → bT d ≤ B →
  ∃ e a', R K (.call f [I kind, .ptr 0 0, .ptr 1 0, .ptr 2 0, .ptr 3 0] (Env L a cols ps ((d + 1 : Nat) : Int))) = some (.agg (exC e), Env L a' cols ps ((d + 1 : Nat) : Int)) ∧ a ≤ a' ∧ a' ≤ a + bT d ∧ exN e ≤ bN d ∧ exB e
theorem sub_Scalar {d : Nat} (hd : d ≤ 1000) (h : ScalarOk d) : SubOk 148 d := by
  intro L cols ps kind a B hco hc hp hG hB
  obtain ⟨e, a', x, q1, q2, q3⟩ := h L cols ps kind a B hco hc hp hG hB
  have w : wrapI .i64 (((d + 1 : Nat) : Int) - 1) = (d : Int) := by rw [wrap_id (by omega) (by omega)]; omega
  refine ⟨e, a', ?_, q1, q2, q3⟩
  rw [call_148]
  simp -implicitDefEqProofs only [go_sem, simprocAttr, Tryz.f148, w, x]
theorem sub_truth {d : Nat} (hd : d ≤ 1000) (h : ScalarOk d) : SubOk 208 d := by
  intro L cols ps kind a B hco hc hp hG hB
  obtain ⟨e, a', x, q1, q2, q3⟩ := h L cols ps kind a B hco hc hp hG hB
  have w : wrapI .i64 (((d + 1 : Nat) : Int) - 1) = (d : Int) := by rw [wrap_id (by omega) (by omega)]; omega
  refine ⟨e, a', ?_, q1, q2, q3⟩
  rw [call_208]
  simp -implicitDefEqProofs only [go_sem, simprocAttr, Tryz.f208, w, x]
theorem sub_number {d : Nat} (hd : d ≤ 1000) (h : ScalarOk d) : SubOk 209 d := by
  intro L cols ps kind a B hco hc hp hG hB
  obtain ⟨e, a', x, q1, q2, q3⟩ := h L cols ps kind a B hco hc hp hG hB
  have w : wrapI .i64 (((d + 1 : Nat) : Int) - 1) = (d : Int) := by rw [wrap_id (by omega) (by omega)]; omega
  refine ⟨e, a', ?_, q1, q2, q3⟩
  rw [call_209]
  simp -implicitDefEqProofs only [go_sem, simprocAttr, Tryz.f209, w, x]
theorem g_truth {d : Nat} (hd : d ≤ 1000) (hS : SubOk 208 d) (L : List Int) (cols : List Cel) (ps : List Int) (a B : Int) (hco : ∀ c ∈ cols, CelOk c) (hc : cols.length ≤ 1000) (hp : ps.length ≤ 1000) (hG : Gd L a B) (hB : 4 * bT d + 5 ≤ B) :
    ∃ e a', R K (.call 150 [.ptr 0 0, colsC cols, LR ps, I ((d + 1 : Nat) : Int)] (St L a)) = some (.agg (exC e), St L a') ∧ a ≤ a' ∧ a' ≤ a + (4 * bT d + 5) ∧ exN e ≤ 1 + 4 * bN d ∧ exB e := by
  have hT := bT_pos d
  have x0 := g_Next hG (by omega) 8
  by_cases c0 : nextS L a 8 = 0
  · have c0' : (nextS L a 8 == 0) = true := by simp [c0]
    obtain ⟨e1, a1, x1, q1, r1, s1, t1⟩ := hS L cols ps 1 (a + 1) _ hco hc hp (hG.step (a + 1) (bT d) (by omega) (by omega)) (by omega)
    have gO := g_Oper 1 [e1]
    simp only [exR] at gO
    refine ⟨.mk 4 1 0 null [] [] false [e1], a1, ?_, by omega, by omega, by simp only [exN, exNs]; omega, by simp only [exB, exBs]; exact ⟨Nat.zero_le _, Nat.zero_le _, t1, trivial⟩⟩
    rw [call_150]
    simp -implicitDefEqProofs only [go_sem, simprocAttr, Tryz.f150, x0, c0', x1, gO]
    all_goals rfl
  have b0 : (nextS L a 8 == 0) = false := by simpa using c0
  by_cases c1 : nextS L a 8 = 1
  · have c1' : (nextS L a 8 == 1) = true := by simp [c1]
    obtain ⟨p, _, hp0⟩ := g_Pick (hG.step (a + 1) 1 (by omega) (by omega)) (by omega) [2, 3] (by decide) (by decide)
    simp only [List.map] at hp0
    obtain ⟨e1, a1, x1, q1, r1, s1, t1⟩ := hS L cols ps 1 (a + 1 + 1) _ hco hc hp (hG.step (a + 1 + 1) (bT d) (by omega) (by omega)) (by omega)
    obtain ⟨e2, a2, x2, q2, r2, s2, t2⟩ := hS L cols ps 1 a1 _ hco hc hp (hG.step a1 (bT d) (by omega) (by omega)) (by omega)
    have gO := g_Oper p [e1, e2]
    simp only [exR] at gO
    refine ⟨.mk 4 p 0 null [] [] false [e1, e2], a2, ?_, by omega, by omega, by simp only [exN, exNs]; omega, by simp only [exB, exBs]; exact ⟨Nat.zero_le _, Nat.zero_le _, t1, t2, trivial⟩⟩
    rw [call_150]
    simp -implicitDefEqProofs only [go_sem, simprocAttr, Tryz.f150, x0, b0, c1', hp0, x1, x2, gO]
    all_goals rfl
  have b1 : (nextS L a 8 == 1) = false := by simpa using c1
  by_cases c2 : nextS L a 8 = 2
  · have c2' : (nextS L a 8 == 2) = true := by simp [c2]
    obtain ⟨p, _, hp0⟩ := g_Pick (hG.step (a + 1) 1 (by omega) (by omega)) (by omega) [2, 3] (by decide) (by decide)
    simp only [List.map] at hp0
    obtain ⟨e1, a1, x1, q1, r1, s1, t1⟩ := hS L cols ps 1 (a + 1 + 1) _ hco hc hp (hG.step (a + 1 + 1) (bT d) (by omega) (by omega)) (by omega)
    obtain ⟨e2, a2, x2, q2, r2, s2, t2⟩ := hS L cols ps 1 a1 _ hco hc hp (hG.step a1 (bT d) (by omega) (by omega)) (by omega)
    have gO := g_Oper p [e1, e2]
    simp only [exR] at gO
    refine ⟨.mk 4 p 0 null [] [] false [e1, e2], a2, ?_, by omega, by omega, by simp only [exN, exNs]; omega, by simp only [exB, exBs]; exact ⟨Nat.zero_le _, Nat.zero_le _, t1, t2, trivial⟩⟩
    rw [call_150]
    simp -implicitDefEqProofs only [go_sem, simprocAttr, Tryz.f150, x0, b0, b1, c2', hp0, x1, x2, gO]
    all_goals rfl
  have b2 : (nextS L a 8 == 2) = false := by simpa using c2
  by_cases c3 : nextS L a 8 = 3
  · have c3' : (nextS L a 8 == 3) = true := by simp [c3]
    have y1 := g_Kind (hG.step (a + 1) 1 (by omega) (by omega)) (by omega)
    obtain ⟨e1, a1, x1, q1, r1, s1, t1⟩ := hS L cols ps (rngS L (a + 1) 1 4) (a + 1 + 1) _ hco hc hp (hG.step (a + 1 + 1) (bT d) (by omega) (by omega)) (by omega)
    have gO := g_Oper 11 [e1]
    simp only [exR] at gO
    refine ⟨.mk 4 11 0 null [] [] false [e1], a1, ?_, by omega, by omega, by simp only [exN, exNs]; omega, by simp only [exB, exBs]; exact ⟨Nat.zero_le _, Nat.zero_le _, t1, trivial⟩⟩
    rw [call_150]
    simp -implicitDefEqProofs only [go_sem, simprocAttr, Tryz.f150, x0, b0, b1, b2, c3', y1, x1, gO]
    all_goals rfl
  have b3 : (nextS L a 8 == 3) = false := by simpa using c3
  by_cases c4 : nextS L a 8 = 4
  · have c4' : (nextS L a 8 == 4) = true := by simp [c4]
    obtain ⟨e1, a1, x1, q1, r1, s1, t1⟩ := hS L cols ps 3 (a + 1) _ hco hc hp (hG.step (a + 1) (bT d) (by omega) (by omega)) (by omega)
    obtain ⟨e2, a2, x2, q2, r2, s2, t2⟩ := hS L cols ps 3 a1 _ hco hc hp (hG.step a1 (bT d) (by omega) (by omega)) (by omega)
    have gO := g_Oper 19 [e1, e2]
    simp only [exR] at gO
    refine ⟨.mk 4 19 0 null [] [] false [e1, e2], a2, ?_, by omega, by omega, by simp only [exN, exNs]; omega, by simp only [exB, exBs]; exact ⟨Nat.zero_le _, Nat.zero_le _, t1, t2, trivial⟩⟩
    rw [call_150]
    simp -implicitDefEqProofs only [go_sem, simprocAttr, Tryz.f150, x0, b0, b1, b2, b3, c4', x1, x2, gO]
    all_goals rfl
  have b4 : (nextS L a 8 == 4) = false := by simpa using c4
  by_cases c5 : nextS L a 8 = 5
  · have c5' : (nextS L a 8 == 5) = true := by simp [c5]
    have y1 := g_Kind (hG.step (a + 1) 1 (by omega) (by omega)) (by omega)
    obtain ⟨e1, a1, x1, q1, r1, s1, t1⟩ := hS L cols ps (rngS L (a + 1) 1 4) (a + 1 + 1) _ hco hc hp (hG.step (a + 1 + 1) (bT d) (by omega) (by omega)) (by omega)
    have y2 := g_Range (hG.step a1 1 (by omega) (by omega)) (by omega) 1 3 (by omega) (by omega) (by omega)
    have yb := range_bounds L a1 1 3 (by omega) (by omega)
    have hcs : rngS L a1 1 3 = 1 ∨ rngS L a1 1 3 = 2 ∨ rngS L a1 1 3 = 3 := by omega
    obtain ⟨e2, a2, x2, q2, r2, s2, t2⟩ := hS L cols ps (rngS L (a + 1) 1 4) (a1 + 1) _ hco hc hp (hG.step (a1 + 1) (bT d) (by omega) (by omega)) (by omega)
    rcases hcs with hn | hn | hn
    · rw [hn] at y2
      refine ⟨.mk 6 0 0 null [] [] false [e1, e2], a2, ?_, by omega, by omega, by simp only [exN, exNs]; omega, by simp only [exB, exBs]; exact ⟨Nat.zero_le _, Nat.zero_le _, t1, t2, trivial⟩⟩
      rw [call_150]
      simp -implicitDefEqProofs only [go_sem, simprocAttr, Tryz.f150, x0, b0, b1, b2, b3, b4, c5', y1, y2, small_room, block_plain, R_loop, R_lpn, x1, x2]
      all_goals rfl
    · rw [hn] at y2
      obtain ⟨e3, a3, x3, q3, r3, s3, t3⟩ := hS L cols ps (rngS L (a + 1) 1 4) a2 _ hco hc hp (hG.step a2 (bT d) (by omega) (by omega)) (by omega)
      refine ⟨.mk 6 0 0 null [] [] false [e1, e2, e3], a3, ?_, by omega, by omega, by simp only [exN, exNs]; omega, by simp only [exB, exBs]; exact ⟨Nat.zero_le _, Nat.zero_le _, t1, t2, t3, trivial⟩⟩
      rw [call_150]
      simp -implicitDefEqProofs only [go_sem, simprocAttr, Tryz.f150, x0, b0, b1, b2, b3, b4, c5', y1, y2, small_room, block_plain, R_loop, R_lpn, x1, x2, x3]
      all_goals rfl
    · rw [hn] at y2
      obtain ⟨e3, a3, x3, q3, r3, s3, t3⟩ := hS L cols ps (rngS L (a + 1) 1 4) a2 _ hco hc hp (hG.step a2 (bT d) (by omega) (by omega)) (by omega)
      obtain ⟨e4, a4, x4, q4, r4, s4, t4⟩ := hS L cols ps (rngS L (a + 1) 1 4) a3 _ hco hc hp (hG.step a3 (bT d) (by omega) (by omega)) (by omega)
      refine ⟨.mk 6 0 0 null [] [] false [e1, e2, e3, e4], a4, ?_, by omega, by omega, by simp only [exN, exNs]; omega, by simp only [exB, exBs]; exact ⟨Nat.zero_le _, Nat.zero_le _, t1, t2, t3, t4, trivial⟩⟩
      rw [call_150]
      simp -implicitDefEqProofs only [go_sem, simprocAttr, Tryz.f150, x0, b0, b1, b2, b3, b4, c5', y1, y2, small_room, block_plain, R_loop, R_lpn, x1, x2, x3, x4]
      all_goals rfl
  have b5 : (nextS L a 8 == 5) = false := by simpa using c5
  · have y1 := g_Kind (hG.step (a + 1) 1 (by omega) (by omega)) (by omega)
    have y2 := g_Range (hG.step (a + 1 + 1) 1 (by omega) (by omega)) (by omega) 4 10 (by omega) (by omega) (by omega)
    obtain ⟨e1, a1, x1, q1, r1, s1, t1⟩ := hS L cols ps (rngS L (a + 1) 1 4) (a + 1 + 1 + 1) _ hco hc hp (hG.step (a + 1 + 1 + 1) (bT d) (by omega) (by omega)) (by omega)
    obtain ⟨e2, a2, x2, q2, r2, s2, t2⟩ := hS L cols ps (rngS L (a + 1) 1 4) a1 _ hco hc hp (hG.step a1 (bT d) (by omega) (by omega)) (by omega)
    have gO := g_Oper (rngS L (a + 1 + 1) 4 10) [e1, e2]
    simp only [exR] at gO
    refine ⟨.mk 4 (rngS L (a + 1 + 1) 4 10) 0 null [] [] false [e1, e2], a2, ?_, by omega, by omega, by simp only [exN, exNs]; omega, by simp only [exB, exBs]; exact ⟨Nat.zero_le _, Nat.zero_le _, t1, t2, trivial⟩⟩
    rw [call_150]
    simp -implicitDefEqProofs only [go_sem, simprocAttr, Tryz.f150, x0, b0, b1, b2, b3, b4, b5, y1, y2, x1, x2, gO]
    all_goals rfl
theorem g_number {d : Nat} (hd : d ≤ 1000) (hS : SubOk 209 d) (L : List Int) (cols : List Cel) (ps : List Int) (a B : Int) (hco : ∀ c ∈ cols, CelOk c) (hc : cols.length ≤ 1000) (hp : ps.length ≤ 1000) (hG : Gd L a B) (hB : 4 * bT d + 5 ≤ B) :
    ∃ e a', R K (.call 151 [.ptr 0 0, colsC cols, LR ps, I ((d + 1 : Nat) : Int)] (St L a)) = some (.agg (exC e), St L a') ∧ a ≤ a' ∧ a' ≤ a + (4 * bT d + 5) ∧ exN e ≤ 1 + 4 * bN d ∧ exB e := by
  have hT := bT_pos d
  have x0 := g_Next hG (by omega) 6
  by_cases c0 : nextS L a 6 = 0
  · have c0' : (nextS L a 6 == 0) = true := by simp [c0]
    obtain ⟨e1, a1, x1, q1, r1, s1, t1⟩ := hS L cols ps 2 (a + 1) _ hco hc hp (hG.step (a + 1) (bT d) (by omega) (by omega)) (by omega)
    have gO := g_Oper 17 [e1]
    simp only [exR] at gO
    refine ⟨.mk 4 17 0 null [] [] false [e1], a1, ?_, by omega, by omega, by simp only [exN, exNs]; omega, by simp only [exB, exBs]; exact ⟨Nat.zero_le _, Nat.zero_le _, t1, trivial⟩⟩
    rw [call_151]
    simp -implicitDefEqProofs only [go_sem, simprocAttr, Tryz.f151, x0, c0', x1, gO]
    all_goals rfl
  have b0 : (nextS L a 6 == 0) = false := by simpa using c0
  by_cases c1 : nextS L a 6 = 1
  · have c1' : (nextS L a 6 == 1) = true := by simp [c1]
    obtain ⟨e1, a1, x1, q1, r1, s1, t1⟩ := hS L cols ps 3 (a + 1) _ hco hc hp (hG.step (a + 1) (bT d) (by omega) (by omega)) (by omega)
    have gO := g_Oper 22 [e1]
    simp only [exR] at gO
    refine ⟨.mk 4 22 0 null [] [] false [e1], a1, ?_, by omega, by omega, by simp only [exN, exNs]; omega, by simp only [exB, exBs]; exact ⟨Nat.zero_le _, Nat.zero_le _, t1, trivial⟩⟩
    rw [call_151]
    simp -implicitDefEqProofs only [go_sem, simprocAttr, Tryz.f151, x0, b0, c1', x1, gO]
    all_goals rfl
  have b1 : (nextS L a 6 == 1) = false := by simpa using c1
  by_cases c2 : nextS L a 6 = 2
  · have c2' : (nextS L a 6 == 2) = true := by simp [c2]
    obtain ⟨e1, a1, x1, q1, r1, s1, t1⟩ := hS L cols ps 4 (a + 1) _ hco hc hp (hG.step (a + 1) (bT d) (by omega) (by omega)) (by omega)
    have gO := g_Oper 26 [e1]
    simp only [exR] at gO
    have y2 := g_Range (hG.step a1 1 (by omega) (by omega)) (by omega) 1 6 (by omega) (by omega) (by omega)
    refine ⟨.mk 4 26 (rngS L a1 1 6) null [] [] false [e1], (a1 + 1), ?_, by omega, by omega, by simp only [exN, exNs]; omega, by simp only [exB, exBs]; exact ⟨Nat.zero_le _, Nat.zero_le _, t1, trivial⟩⟩
    rw [call_151]
    simp -implicitDefEqProofs only [go_sem, simprocAttr, Tryz.f151, x0, b0, b1, c2', x1, gO, exC, y2]
    all_goals rfl
  have b2 : (nextS L a 6 == 2) = false := by simpa using c2
  by_cases c3 : nextS L a 6 = 3
  · have c3' : (nextS L a 6 == 3) = true := by simp [c3]
    obtain ⟨e1, a1, x1, q1, r1, s1, t1⟩ := hS L cols ps 4 (a + 1) _ hco hc hp (hG.step (a + 1) (bT d) (by omega) (by omega)) (by omega)
    obtain ⟨e2, a2, x2, q2, r2, s2, t2⟩ := hS L cols ps 4 a1 _ hco hc hp (hG.step a1 (bT d) (by omega) (by omega)) (by omega)
    have gO := g_Oper 13 [e1, e2]
    simp only [exR] at gO
    refine ⟨.mk 4 13 0 null [] [] false [e1, e2], a2, ?_, by omega, by omega, by simp only [exN, exNs]; omega, by simp only [exB, exBs]; exact ⟨Nat.zero_le _, Nat.zero_le _, t1, t2, trivial⟩⟩
    rw [call_151]
    simp -implicitDefEqProofs only [go_sem, simprocAttr, Tryz.f151, x0, b0, b1, b2, c3', x1, x2, gO]
    all_goals rfl
  have b3 : (nextS L a 6 == 3) = false := by simpa using c3
  · have y2 := g_Range (hG.step (a + 1) 1 (by omega) (by omega)) (by omega) 12 16 (by omega) (by omega) (by omega)
    obtain ⟨e1, a1, x1, q1, r1, s1, t1⟩ := hS L cols ps 2 (a + 1 + 1) _ hco hc hp (hG.step (a + 1 + 1) (bT d) (by omega) (by omega)) (by omega)
    obtain ⟨e2, a2, x2, q2, r2, s2, t2⟩ := hS L cols ps 2 a1 _ hco hc hp (hG.step a1 (bT d) (by omega) (by omega)) (by omega)
    have gO := g_Oper (rngS L (a + 1) 12 16) [e1, e2]
    simp only [exR] at gO
    refine ⟨.mk 4 (rngS L (a + 1) 12 16) 0 null [] [] false [e1, e2], a2, ?_, by omega, by omega, by simp only [exN, exNs]; omega, by simp only [exB, exBs]; exact ⟨Nat.zero_le _, Nat.zero_le _, t1, t2, trivial⟩⟩
    rw [call_151]
    simp -implicitDefEqProofs only [go_sem, simprocAttr, Tryz.f151, x0, b0, b1, b2, b3, y2, x1, x2, gO]
    all_goals rfl
theorem g_Scalar0 : ScalarOk 0 := by
  intro L cols ps kind a B hco hc hp hG hB
  simp only [bT] at hB
  obtain ⟨e, a', x, q1, q2, q3, q4⟩ := g_leaf hG (by omega) kind cols ps hco hc hp
  refine ⟨e, a', ?_, q1, by simp only [bT]; omega, by simpa [bN] using q3, q4⟩
  rw [call_96]
  simp -implicitDefEqProofs only [go_sem, simprocAttr, Tryz.f96, x, Int.cast_ofNat_Int]
theorem g_Scalar1 {d : Nat} (hd : d ≤ 1000) (hS : SubOk 148 d) (hT : SubOk 208 d) (hN : SubOk 209 d) : ScalarOk (d + 1) := by
  intro L cols ps kind a B hco hc hp hG hB
  have ht := bT_pos d
  have hn := bN_pos d
  simp only [bT] at hB ⊢
  have d0 : decide (((d + 1 : Nat) : Int) ≤ 0) = false := decide_eq_false (by omega)
  have f0 := g_Flip hG (by omega) 4
  cases hf : nextS L a 4 == 0 with
  | true =>
    rw [hf] at f0
    obtain ⟨e, a', x, q1, q2, q3, q4⟩ := g_leaf (hG.step (a + 1) (B - 1) (by omega) (by omega)) (by omega) kind cols ps hco hc hp
    refine ⟨e, a', ?_, by omega, by omega, by simp only [bN]; omega, q4⟩
    rw [call_96]
    simp -implicitDefEqProofs only [go_sem, simprocAttr, Tryz.f96, d0, f0, x]
  | false =>
    rw [hf] at f0
    have x0 := g_Next (hG.step (a + 1) (B - 1) (by omega) (by omega)) (by omega) 7
    by_cases c0 : nextS L (a + 1) 7 = 0
    · have c0' : (nextS L (a + 1) 7 == 0) = true := by simp [c0]
      have y1 := g_Range (hG.step (a + 1 + 1) 1 (by omega) (by omega)) (by omega) 1 2 (by omega) (by omega) (by omega)
      have yb := range_bounds L (a + 1 + 1) 1 2 (by omega) (by omega)
      have hcs : rngS L (a + 1 + 1) 1 2 = 1 ∨ rngS L (a + 1 + 1) 1 2 = 2 := by omega
      obtain ⟨e1, a1, x1, q1, r1, s1, t1⟩ := hS L cols ps 1 (a + 1 + 1 + 1) _ hco hc hp (hG.step (a + 1 + 1 + 1) (bT d) (by omega) (by omega)) (by omega)
      obtain ⟨e2, a2, x2, q2, r2, s2, t2⟩ := hS L cols ps kind a1 _ hco hc hp (hG.step a1 (bT d) (by omega) (by omega)) (by omega)
      rcases hcs with hn1 | hn1
      · rw [hn1] at y1
        obtain ⟨e3, a3, x3, q3, r3, s3, t3⟩ := hS L cols ps kind a2 _ hco hc hp (hG.step a2 (bT d) (by omega) (by omega)) (by omega)
        refine ⟨.mk 5 0 0 null [] [] false [e1, e2, e3], a3, ?_, by omega, by omega, by simp only [exN, exNs, bN]; omega, by simp only [exB, exBs]; exact ⟨Nat.zero_le _, Nat.zero_le _, t1, t2, t3, trivial⟩⟩
        rw [call_96]
        simp -implicitDefEqProofs only [go_sem, simprocAttr, Tryz.f96, d0, f0, x0, c0', y1, x1, x2, x3, small_room]
        rw [RL_eq]
        simp -implicitDefEqProofs only [go_sem, simprocAttr, d0, f0, x0, c0', y1, x1, x2, x3, small_room]
        rw [RL_eq]
        simp -implicitDefEqProofs only [go_sem, simprocAttr, d0, f0, x0, c0', y1, x1, x2, x3, small_room]
        all_goals rfl
      · rw [hn1] at y1
        obtain ⟨e3, a3, x3, q3, r3, s3, t3⟩ := hS L cols ps 1 a2 _ hco hc hp (hG.step a2 (bT d) (by omega) (by omega)) (by omega)
        obtain ⟨e4, a4, x4, q4, r4, s4, t4⟩ := hS L cols ps kind a3 _ hco hc hp (hG.step a3 (bT d) (by omega) (by omega)) (by omega)
        obtain ⟨e5, a5, x5, q5, r5, s5, t5⟩ := hS L cols ps kind a4 _ hco hc hp (hG.step a4 (bT d) (by omega) (by omega)) (by omega)
        refine ⟨.mk 5 0 0 null [] [] false [e1, e2, e3, e4, e5], a5, ?_, by omega, by omega, by simp only [exN, exNs, bN]; omega, by simp only [exB, exBs]; exact ⟨Nat.zero_le _, Nat.zero_le _, t1, t2, t3, t4, t5, trivial⟩⟩
        rw [call_96]
        simp -implicitDefEqProofs only [go_sem, simprocAttr, Tryz.f96, d0, f0, x0, c0', y1, x1, x2, x3, x4, x5, small_room]
        rw [RL_eq]
        simp -implicitDefEqProofs only [go_sem, simprocAttr, d0, f0, x0, c0', y1, x1, x2, x3, x4, x5, small_room]
        rw [RL_eq]
        simp -implicitDefEqProofs only [go_sem, simprocAttr, d0, f0, x0, c0', y1, x1, x2, x3, x4, x5, small_room]
        rw [RL_eq]
        simp -implicitDefEqProofs only [go_sem, simprocAttr, d0, f0, x0, c0', y1, x1, x2, x3, x4, x5, small_room]
        all_goals rfl
    have b0 : (nextS L (a + 1) 7 == 0) = false := by simpa using c0
    by_cases c1 : nextS L (a + 1) 7 = 1
    · have c1' : (nextS L (a + 1) 7 == 1) = true := by simp [c1]
      obtain ⟨e1, a1, x1, q1, r1, s1, t1⟩ := hS L cols ps kind (a + 1 + 1) _ hco hc hp (hG.step (a + 1 + 1) (bT d) (by omega) (by omega)) (by omega)
      obtain ⟨e2, a2, x2, q2, r2, s2, t2⟩ := hS L cols ps kind a1 _ hco hc hp (hG.step a1 (bT d) (by omega) (by omega)) (by omega)
      have gO := g_Oper 24 [e1, e2]
      simp only [exR] at gO
      refine ⟨.mk 4 24 0 null [] [] false [e1, e2], a2, ?_, by omega, by omega, by simp only [exN, exNs, bN]; omega, by simp only [exB, exBs]; exact ⟨Nat.zero_le _, Nat.zero_le _, t1, t2, trivial⟩⟩
      rw [call_96]
      simp -implicitDefEqProofs only [go_sem, simprocAttr, Tryz.f96, d0, f0, x0, b0, c1', x1, x2, gO]
      all_goals rfl
    have b1 : (nextS L (a + 1) 7 == 1) = false := by simpa using c1
    by_cases c2 : nextS L (a + 1) 7 = 2
    · have c2' : (nextS L (a + 1) 7 == 2) = true := by simp [c2]
      have y1 := g_Kind (hG.step (a + 1 + 1) 1 (by omega) (by omega)) (by omega)
      have y2 := r_CanCast (rngS L (a + 1 + 1) 1 4) kind
      cases hcan : canS (rngS L (a + 1 + 1) 1 4) kind with
      | true =>
        rw [hcan] at y2
        obtain ⟨e1, a1, x1, q1, r1, s1, t1⟩ := hS L cols ps (rngS L (a + 1 + 1) 1 4) (a + 1 + 1 + 1) _ hco hc hp (hG.step (a + 1 + 1 + 1) (bT d) (by omega) (by omega)) (by omega)
        have gO := g_Oper 27 [e1]
        simp only [exR] at gO
        refine ⟨.mk 4 27 kind null [] [] false [e1], a1, ?_, by omega, by omega, by simp only [exN, exNs, bN]; omega, by simp only [exB, exBs]; exact ⟨Nat.zero_le _, Nat.zero_le _, t1, trivial⟩⟩
        rw [call_96]
        simp -implicitDefEqProofs only [go_sem, simprocAttr, Tryz.f96, d0, f0, x0, b0, b1, c2', y1, y2, x1, gO, exC]
        all_goals rfl
      | false =>
        rw [hcan] at y2
        by_cases k1 : kind = 1
        · subst k1
          obtain ⟨e, a', x, q1, q2, q3, q4⟩ := g_truth hd hT L cols ps (a + 1 + 1 + 1) (B - 3) hco hc hp (hG.step (a + 1 + 1 + 1) (B - 3) (by omega) (by omega)) (by omega)
          refine ⟨e, a', ?_, by omega, by omega, by simp only [bN]; omega, q4⟩
          rw [call_96]
          simp -implicitDefEqProofs only [go_sem, simprocAttr, Tryz.f96, d0, f0, x0, b0, b1, c2', y1, y2, x]
          all_goals rfl
        have kb1 : (kind == 1) = false := by simpa using k1
        by_cases k2 : kind = 2
        · subst k2
          obtain ⟨e, a', x, q1, q2, q3, q4⟩ := g_number hd hN L cols ps (a + 1 + 1 + 1) (B - 3) hco hc hp (hG.step (a + 1 + 1 + 1) (B - 3) (by omega) (by omega)) (by omega)
          refine ⟨e, a', ?_, by omega, by omega, by simp only [bN]; omega, q4⟩
          rw [call_96]
          simp -implicitDefEqProofs only [go_sem, simprocAttr, Tryz.f96, d0, f0, x0, b0, b1, c2', y1, y2, x]
          all_goals rfl
        have kb2 : (kind == 2) = false := by simpa using k2
        by_cases k3 : kind = 3
        · subst k3
          have z0 := g_Next (hG.step (a + 1 + 1 + 1) 1 (by omega) (by omega)) (by omega) 4
          by_cases m0 : nextS L (a + 1 + 1 + 1) 4 = 0
          · have m0' : (nextS L (a + 1 + 1 + 1) 4 == 0) = true := by simp [m0]
            obtain ⟨pk, _, hp0⟩ := g_Pick (hG.step ((a + 1 + 1 + 1) + 1) 1 (by omega) (by omega)) (by omega) [20, 21] (by decide) (by decide)
            simp only [List.map] at hp0
            obtain ⟨e1, a1, x1, q1, r1, s1, t1⟩ := hS L cols ps 3 ((a + 1 + 1 + 1) + 1 + 1) _ hco hc hp (hG.step ((a + 1 + 1 + 1) + 1 + 1) (bT d) (by omega) (by omega)) (by omega)
            have gO := g_Oper pk [e1]
            simp only [exR] at gO
            refine ⟨.mk 4 pk 0 null [] [] false [e1], a1, ?_, by omega, by omega, by simp only [exN, exNs, bN]; omega, by simp only [exB, exBs]; exact ⟨Nat.zero_le _, Nat.zero_le _, t1, trivial⟩⟩
            rw [call_96]
            simp -implicitDefEqProofs only [go_sem, simprocAttr, Tryz.f96, d0, f0, x0, b0, b1, c2', y1, y2, z0, m0', hp0, x1, gO]
            all_goals rfl
          have mb0 : (nextS L (a + 1 + 1 + 1) 4 == 0) = false := by simpa using m0
          by_cases m1 : nextS L (a + 1 + 1 + 1) 4 = 1
          · have m1' : (nextS L (a + 1 + 1 + 1) 4 == 1) = true := by simp [m1]
            obtain ⟨e1, a1, x1, q1, r1, s1, t1⟩ := hS L cols ps 3 ((a + 1 + 1 + 1) + 1) _ hco hc hp (hG.step ((a + 1 + 1 + 1) + 1) (bT d) (by omega) (by omega)) (by omega)
            obtain ⟨e2, a2, x2, q2, r2, s2, t2⟩ := hS L cols ps 2 a1 _ hco hc hp (hG.step a1 (bT d) (by omega) (by omega)) (by omega)
            obtain ⟨e3, a3, x3, q3, r3, s3, t3⟩ := hS L cols ps 2 a2 _ hco hc hp (hG.step a2 (bT d) (by omega) (by omega)) (by omega)
            have gO := g_Oper 23 [e1, e2, e3]
            simp only [exR] at gO
            refine ⟨.mk 4 23 0 null [] [] false [e1, e2, e3], a3, ?_, by omega, by omega, by simp only [exN, exNs, bN]; omega, by simp only [exB, exBs]; exact ⟨Nat.zero_le _, Nat.zero_le _, t1, t2, t3, trivial⟩⟩
            rw [call_96]
            simp -implicitDefEqProofs only [go_sem, simprocAttr, Tryz.f96, d0, f0, x0, b0, b1, c2', y1, y2, z0, mb0, m1', x1, x2, x3, gO]
            all_goals rfl
          have mb1 : (nextS L (a + 1 + 1 + 1) 4 == 1) = false := by simpa using m1
          obtain ⟨e1, a1, x1, q1, r1, s1, t1⟩ := hS L cols ps 3 ((a + 1 + 1 + 1) + 1) _ hco hc hp (hG.step ((a + 1 + 1 + 1) + 1) (bT d) (by omega) (by omega)) (by omega)
          obtain ⟨e2, a2, x2, q2, r2, s2, t2⟩ := hS L cols ps 3 a1 _ hco hc hp (hG.step a1 (bT d) (by omega) (by omega)) (by omega)
          have gO := g_Oper 18 [e1, e2]
          simp only [exR] at gO
          refine ⟨.mk 4 18 0 null [] [] false [e1, e2], a2, ?_, by omega, by omega, by simp only [exN, exNs, bN]; omega, by simp only [exB, exBs]; exact ⟨Nat.zero_le _, Nat.zero_le _, t1, t2, trivial⟩⟩
          rw [call_96]
          simp -implicitDefEqProofs only [go_sem, simprocAttr, Tryz.f96, d0, f0, x0, b0, b1, c2', y1, y2, z0, mb0, mb1, x1, x2, gO]
          all_goals rfl
        have kb3 : (kind == 3) = false := by simpa using k3
        have z0 := g_Flip (hG.step (a + 1 + 1 + 1) 1 (by omega) (by omega)) (by omega) 2
        cases hz : nextS L (a + 1 + 1 + 1) 2 == 0 with
        | true =>
          rw [hz] at z0
          obtain ⟨pk, _, hp0⟩ := g_Pick (hG.step ((a + 1 + 1 + 1) + 1) 1 (by omega) (by omega)) (by omega) [12, 13] (by decide) (by decide)
          simp only [List.map] at hp0
          obtain ⟨e1, a1, x1, q1, r1, s1, t1⟩ := hS L cols ps 4 ((a + 1 + 1 + 1) + 1 + 1) _ hco hc hp (hG.step ((a + 1 + 1 + 1) + 1 + 1) (bT d) (by omega) (by omega)) (by omega)
          obtain ⟨e2, a2, x2, q2, r2, s2, t2⟩ := hS L cols ps 2 a1 _ hco hc hp (hG.step a1 (bT d) (by omega) (by omega)) (by omega)
          have gO := g_Oper pk [e1, e2]
          simp only [exR] at gO
          refine ⟨.mk 4 pk 0 null [] [] false [e1, e2], a2, ?_, by omega, by omega, by simp only [exN, exNs, bN]; omega, by simp only [exB, exBs]; exact ⟨Nat.zero_le _, Nat.zero_le _, t1, t2, trivial⟩⟩
          rw [call_96]
          simp -implicitDefEqProofs only [go_sem, simprocAttr, Tryz.f96, d0, f0, x0, b0, b1, c2', y1, y2, kb1, kb2, kb3, z0, hp0, x1, x2, gO]
          all_goals rfl
        | false =>
          rw [hz] at z0
          obtain ⟨e1, a1, x1, q1, r1, s1, t1⟩ := hS L cols ps 4 ((a + 1 + 1 + 1) + 1) _ hco hc hp (hG.step ((a + 1 + 1 + 1) + 1) (bT d) (by omega) (by omega)) (by omega)
          have gO := g_Oper 25 [e1]
          simp only [exR] at gO
          have w2 := g_Range (hG.step a1 1 (by omega) (by omega)) (by omega) 1 6 (by omega) (by omega) (by omega)
          refine ⟨.mk 4 25 (rngS L a1 1 6) null [] [] false [e1], (a1 + 1), ?_, by omega, by omega, by simp only [exN, exNs, bN]; omega, by simp only [exB, exBs]; exact ⟨Nat.zero_le _, Nat.zero_le _, t1, trivial⟩⟩
          rw [call_96]
          simp -implicitDefEqProofs only [go_sem, simprocAttr, Tryz.f96, d0, f0, x0, b0, b1, c2', y1, y2, kb1, kb2, kb3, z0, x1, gO, exC, w2]
          all_goals rfl
    have b2 : (nextS L (a + 1) 7 == 2) = false := by simpa using c2
    by_cases k1 : kind = 1
    · subst k1
      obtain ⟨e, a', x, q1, q2, q3, q4⟩ := g_truth hd hT L cols ps (a + 1 + 1) (B - 3) hco hc hp (hG.step (a + 1 + 1) (B - 3) (by omega) (by omega)) (by omega)
      refine ⟨e, a', ?_, by omega, by omega, by simp only [bN]; omega, q4⟩
      rw [call_96]
      simp -implicitDefEqProofs only [go_sem, simprocAttr, Tryz.f96, d0, f0, x0, b0, b1, b2, x]
      all_goals rfl
    have kb1 : (kind == 1) = false := by simpa using k1
    by_cases k2 : kind = 2
    · subst k2
      obtain ⟨e, a', x, q1, q2, q3, q4⟩ := g_number hd hN L cols ps (a + 1 + 1) (B - 3) hco hc hp (hG.step (a + 1 + 1) (B - 3) (by omega) (by omega)) (by omega)
      refine ⟨e, a', ?_, by omega, by omega, by simp only [bN]; omega, q4⟩
      rw [call_96]
      simp -implicitDefEqProofs only [go_sem, simprocAttr, Tryz.f96, d0, f0, x0, b0, b1, b2, x]
      all_goals rfl
    have kb2 : (kind == 2) = false := by simpa using k2
    by_cases k3 : kind = 3
    · subst k3
      have z0 := g_Next (hG.step (a + 1 + 1) 1 (by omega) (by omega)) (by omega) 4
      by_cases m0 : nextS L (a + 1 + 1) 4 = 0
      · have m0' : (nextS L (a + 1 + 1) 4 == 0) = true := by simp [m0]
        obtain ⟨pk, _, hp0⟩ := g_Pick (hG.step ((a + 1 + 1) + 1) 1 (by omega) (by omega)) (by omega) [20, 21] (by decide) (by decide)
        simp only [List.map] at hp0
        obtain ⟨e1, a1, x1, q1, r1, s1, t1⟩ := hS L cols ps 3 ((a + 1 + 1) + 1 + 1) _ hco hc hp (hG.step ((a + 1 + 1) + 1 + 1) (bT d) (by omega) (by omega)) (by omega)
        have gO := g_Oper pk [e1]
        simp only [exR] at gO
        refine ⟨.mk 4 pk 0 null [] [] false [e1], a1, ?_, by omega, by omega, by simp only [exN, exNs, bN]; omega, by simp only [exB, exBs]; exact ⟨Nat.zero_le _, Nat.zero_le _, t1, trivial⟩⟩
        rw [call_96]
        simp -implicitDefEqProofs only [go_sem, simprocAttr, Tryz.f96, d0, f0, x0, b0, b1, b2, z0, m0', hp0, x1, gO]
        all_goals rfl
      have mb0 : (nextS L (a + 1 + 1) 4 == 0) = false := by simpa using m0
      by_cases m1 : nextS L (a + 1 + 1) 4 = 1
      · have m1' : (nextS L (a + 1 + 1) 4 == 1) = true := by simp [m1]
        obtain ⟨e1, a1, x1, q1, r1, s1, t1⟩ := hS L cols ps 3 ((a + 1 + 1) + 1) _ hco hc hp (hG.step ((a + 1 + 1) + 1) (bT d) (by omega) (by omega)) (by omega)
        obtain ⟨e2, a2, x2, q2, r2, s2, t2⟩ := hS L cols ps 2 a1 _ hco hc hp (hG.step a1 (bT d) (by omega) (by omega)) (by omega)
        obtain ⟨e3, a3, x3, q3, r3, s3, t3⟩ := hS L cols ps 2 a2 _ hco hc hp (hG.step a2 (bT d) (by omega) (by omega)) (by omega)
        have gO := g_Oper 23 [e1, e2, e3]
        simp only [exR] at gO
        refine ⟨.mk 4 23 0 null [] [] false [e1, e2, e3], a3, ?_, by omega, by omega, by simp only [exN, exNs, bN]; omega, by simp only [exB, exBs]; exact ⟨Nat.zero_le _, Nat.zero_le _, t1, t2, t3, trivial⟩⟩
        rw [call_96]
        simp -implicitDefEqProofs only [go_sem, simprocAttr, Tryz.f96, d0, f0, x0, b0, b1, b2, z0, mb0, m1', x1, x2, x3, gO]
        all_goals rfl
      have mb1 : (nextS L (a + 1 + 1) 4 == 1) = false := by simpa using m1
      obtain ⟨e1, a1, x1, q1, r1, s1, t1⟩ := hS L cols ps 3 ((a + 1 + 1) + 1) _ hco hc hp (hG.step ((a + 1 + 1) + 1) (bT d) (by omega) (by omega)) (by omega)
      obtain ⟨e2, a2, x2, q2, r2, s2, t2⟩ := hS L cols ps 3 a1 _ hco hc hp (hG.step a1 (bT d) (by omega) (by omega)) (by omega)
      have gO := g_Oper 18 [e1, e2]
      simp only [exR] at gO
      refine ⟨.mk 4 18 0 null [] [] false [e1, e2], a2, ?_, by omega, by omega, by simp only [exN, exNs, bN]; omega, by simp only [exB, exBs]; exact ⟨Nat.zero_le _, Nat.zero_le _, t1, t2, trivial⟩⟩
      rw [call_96]
      simp -implicitDefEqProofs only [go_sem, simprocAttr, Tryz.f96, d0, f0, x0, b0, b1, b2, z0, mb0, mb1, x1, x2, gO]
      all_goals rfl
    have kb3 : (kind == 3) = false := by simpa using k3
    have z0 := g_Flip (hG.step (a + 1 + 1) 1 (by omega) (by omega)) (by omega) 2
    cases hz : nextS L (a + 1 + 1) 2 == 0 with
    | true =>
      rw [hz] at z0
      obtain ⟨pk, _, hp0⟩ := g_Pick (hG.step ((a + 1 + 1) + 1) 1 (by omega) (by omega)) (by omega) [12, 13] (by decide) (by decide)
      simp only [List.map] at hp0
      obtain ⟨e1, a1, x1, q1, r1, s1, t1⟩ := hS L cols ps 4 ((a + 1 + 1) + 1 + 1) _ hco hc hp (hG.step ((a + 1 + 1) + 1 + 1) (bT d) (by omega) (by omega)) (by omega)
      obtain ⟨e2, a2, x2, q2, r2, s2, t2⟩ := hS L cols ps 2 a1 _ hco hc hp (hG.step a1 (bT d) (by omega) (by omega)) (by omega)
      have gO := g_Oper pk [e1, e2]
      simp only [exR] at gO
      refine ⟨.mk 4 pk 0 null [] [] false [e1, e2], a2, ?_, by omega, by omega, by simp only [exN, exNs, bN]; omega, by simp only [exB, exBs]; exact ⟨Nat.zero_le _, Nat.zero_le _, t1, t2, trivial⟩⟩
      rw [call_96]
      simp -implicitDefEqProofs only [go_sem, simprocAttr, Tryz.f96, d0, f0, x0, b0, b1, b2, kb1, kb2, kb3, z0, hp0, x1, x2, gO]
      all_goals rfl
    | false =>
      rw [hz] at z0
      obtain ⟨e1, a1, x1, q1, r1, s1, t1⟩ := hS L cols ps 4 ((a + 1 + 1) + 1) _ hco hc hp (hG.step ((a + 1 + 1) + 1) (bT d) (by omega) (by omega)) (by omega)
      have gO := g_Oper 25 [e1]
      simp only [exR] at gO
      have w2 := g_Range (hG.step a1 1 (by omega) (by omega)) (by omega) 1 6 (by omega) (by omega) (by omega)
      refine ⟨.mk 4 25 (rngS L a1 1 6) null [] [] false [e1], (a1 + 1), ?_, by omega, by omega, by simp only [exN, exNs, bN]; omega, by simp only [exB, exBs]; exact ⟨Nat.zero_le _, Nat.zero_le _, t1, trivial⟩⟩
      rw [call_96]
      simp -implicitDefEqProofs only [go_sem, simprocAttr, Tryz.f96, d0, f0, x0, b0, b1, b2, kb1, kb2, kb3, z0, x1, gO, exC, w2]
      all_goals rfl
theorem g_Scalar : ∀ d : Nat, d ≤ 1000 → ScalarOk d
  | 0, _ => g_Scalar0
  | d + 1, h => g_Scalar1 (by omega) (sub_Scalar (by omega) (g_Scalar d (by omega))) (sub_truth (by omega) (g_Scalar d (by omega))) (sub_number (by omega) (g_Scalar d (by omega)))
theorem exR_allLen : ∀ l : List Ex, allLen 13 (exR l) = true
  | [] => rfl
  | e :: r => by simp only [exR, allLen, exR_allLen r, exC_len]; rfl
theorem exR_set : ∀ (l : List Ex) (i : Nat) (e : Ex), (exR l).set i (exC e) = exR (l.set i e)
  | [], _, _ => rfl
  | x :: r, 0, e => rfl
  | x :: r, i + 1, e => by simp only [exR, List.set_cons_succ, exR_set r i e]
theorem exNs_set {e x : Ex} {K : Nat} : ∀ (l : List Ex) (i : Nat), l[i]? = some x → exN e ≤ exN x + K → exNs (l.set i e) ≤ exNs l + K
  | [], _, h, _ => by simp at h
  | y :: r, 0, h, hk => by
    simp only [List.getElem?_cons_zero, Option.some.injEq] at h
    subst h
    simp only [List.set_cons_zero, exNs]; omega
  | y :: r, i + 1, h, hk => by
    simp only [List.getElem?_cons_succ] at h
    have := exNs_set r i h hk
    simp only [List.set_cons_succ, exNs]; omega
theorem exNs_app : ∀ a b : List Ex, exNs (a ++ b) = exNs a + exNs b
  | [], b => by simp [exNs]
  | e :: r, b => by simp only [List.cons_append, exNs, exNs_app r b]; omega
theorem exNs_drop : ∀ (l : List Ex) (n : Nat), exNs (l.drop n) ≤ exNs l
  | [], n => by simp [exNs]
  | e :: r, 0 => by simp
  | e :: r, n + 1 => by have := exNs_drop r n; simp only [List.drop_succ_cons, exNs]; omega
theorem exR_drop : ∀ (l : List Ex) (n : Nat), (exR l).drop n = exR (l.drop n)
  | [], n => by simp [exR]
  | e :: r, 0 => rfl
  | e :: r, n + 1 => by simp only [exR, List.drop_succ_cons, exR_drop r n]
section
variable {L : List Int}
theorem l_neg (c : Nat) (hc : c ≤ 100) (ks : List It) (H0 : List AV) (hH : locsL H0 = []) : ∀ (m j : Nat) (i a : Int) (e : Ex) (Bo : Code), Loop Tryz.f97 1 Bo → i = (j : Int) → c = j + m → exB e →
   ∃ e', exN e' = exN e + m ∧ exB e' ∧
   RL K (.run 97 1 (.code Bo :: .lp Bo (some ([3, 4, 100, 101], [])) 3 :: .blk 1 3 :: ks) [(3, .ptr 1 0), (4, .ptr 2 0), (100, I (c : Int)), (101, I i)] [.cells [LR L, I a], .cells (exC e), .cells H0]) =
   R K (.run 97 1 ks [(3, .ptr 1 0), (4, .ptr 2 0)] [.cells [LR L, I a], .cells (exC e'), .cells H0])
  | 0, j, i, a, e, Bo, hB, hi, hj, he => by
    subst hi
    have h1 : decide ((j : Int) < (c : Int)) = false := decide_eq_false (by omega)
    refine ⟨e, by omega, he, ?_⟩
    unfold Loop at hB
    simp -implicitDefEqProofs only [go_sem, simprocAttr, Tryz.f97, loopOf] at hB
    subst hB
    rw [RL_eq]
    simp -implicitDefEqProofs only [go_sem, simprocAttr, h1, hH]
  | m + 1, j, i, a, e, Bo, hB, hi, hj, he => by
    subst hi
    have hB' := hB
    have h1 : decide ((j : Int) < (c : Int)) = true := decide_eq_true (by omega)
    have h7 := next_id (i := j) (n := c) (by omega) (by omega)
    have gO := g_Oper 17 [e]
    simp only [exR] at gO
    obtain ⟨e', q, qb, ih⟩ := l_neg c hc ks H0 hH m (j + 1) _ a (.mk 4 17 0 null [] [] false [e]) Bo hB' rfl (by omega) (by simp only [exB, exBs]; exact ⟨Nat.zero_le _, Nat.zero_le _, he, trivial⟩)
    refine ⟨e', by rw [q]; simp only [exN, exNs]; omega, qb, ?_⟩
    unfold Loop at hB
    simp -implicitDefEqProofs only [go_sem, simprocAttr, Tryz.f97, loopOf] at hB
    subst hB
    rw [RL_eq]
    simp -implicitDefEqProofs only [go_sem, simprocAttr, h1, hH, h7, gO, splice]
    rw [ih]
theorem g_Spoiled : ∀ e : Ex, exN e ≤ 100000 → exB e → ∀ (a B : Int), Gd L a B → 40 * (exN e : Int) ≤ B → ∃ e' a', R K (.call 97 [.ptr 0 0, .agg (exC e)] (St L a)) = some (.agg (exC e'), St L a') ∧ a ≤ a' ∧ a' ≤ a + 40 * (exN e : Int) ∧ exN e' ≤ exN e + 30 ∧ exB e' := by
  refine Ex.ind fun e ih => ?_
  obtain ⟨k, op, n, v, src, nm, dd, args⟩ := e
  intro hN hbb a B hG hB
  simp only [Ex.args] at ih
  simp only [exN] at hN hB ⊢
  simp only [exB] at hbb
  obtain ⟨hb1, hb2, hb3⟩ := hbb
  have hlen := exNs_len args
  by_cases h0 : 0 < args.length
  · have d0 : decide ((0 : Int) < (args.length : Int)) = true := decide_eq_true (by omega)
    have f0 := g_Flip (hG.step a 1 (by omega) (by omega)) (by omega) 2
    cases hf : nextS L a 2 == 0 with
    | true =>
      rw [hf] at f0
      have x0 := g_Next (hG.step (a + 1) 1 (by omega) (by omega)) (by omega) (args.length : Int)
      have b0 := next_bounds L (a + 1) (args.length : Int) (by omega) (by omega)
      obtain ⟨x, hx⟩ := some_at (l := args) (i := (nextS L (a + 1) (args.length : Int)).toNat) (by omega)
      have hx2 := ex_get' hx
      have hg : at? (exR args) (nextS L (a + 1) (args.length : Int)) = some (exC x) := by
        unfold at?
        rw [if_pos b0.1]
        exact hx2
      have hxm := List.mem_of_getElem? hx
      have hxn := exN_mem hxm
      obtain ⟨e', a', r, q1, q2, q3, q4⟩ := ih x hxm (by omega) (exB_mem hb3 hxm) (a + 1 + 1) (B - 2) (hG.step _ _ (by omega) (by omega)) (by omega)
      have hset := exNs_set (e := e') args _ hx q3
      have hs : splice (exC x) 0 (exC e') = exC e' := by unfold splice; rw [exC_eq x, exC_eq e']; rfl
      have hr1 := room_small args.length (by omega)
      refine ⟨.mk k op n v src nm dd (args.set (nextS L (a + 1) (args.length : Int)).toNat e'), a', ?_, by omega, by omega, by simp only [exN]; omega, by simp only [exB]; exact ⟨hb1, hb2, exBs_set q4 _ hb3⟩⟩
      rw [call_97]
      simp -implicitDefEqProofs only [go_sem, simprocAttr, Tryz.f97, exC, d0, f0, x0, hg, hx2, r, hs, hr1, exR_len, exR_allLen, exR_set, exC_len, exC_take]
      all_goals rfl
    | false =>
      rw [hf] at f0
      have x0 := g_Next (hG.step (a + 1) 1 (by omega) (by omega)) (by omega) 10
      by_cases c0 : nextS L (a + 1) 10 = 0
      · have c0' : (nextS L (a + 1) 10 == 0) = true := by simp [c0]
        have y1 := g_Range (hG.step ((a + 1) + 1) 1 (by omega) (by omega)) (by omega) 0 11 (by omega) (by omega) (by omega)
        refine ⟨.mk (rngS L ((a + 1) + 1) 0 11) op n v src nm dd args, ((a + 1) + 1 + 1), ?_, by omega, by omega, by simp only [exN, exNs]; omega, by simp only [exB]; exact ⟨hb1, hb2, hb3⟩⟩
        rw [call_97]
        simp -implicitDefEqProofs only [go_sem, simprocAttr, Tryz.f97, d0, f0, exR_len, exC, x0, y1, c0']
        all_goals rfl
      have b0 : (nextS L (a + 1) 10 == 0) = false := by simpa using c0
      by_cases c1 : nextS L (a + 1) 10 = 1
      · have c1' : (nextS L (a + 1) 10 == 1) = true := by simp [c1]
        have y1 := g_Range (hG.step ((a + 1) + 1) 1 (by omega) (by omega)) (by omega) 0 28 (by omega) (by omega) (by omega)
        refine ⟨.mk k (rngS L ((a + 1) + 1) 0 28) n v src nm dd args, ((a + 1) + 1 + 1), ?_, by omega, by omega, by simp only [exN, exNs]; omega, by simp only [exB]; exact ⟨hb1, hb2, hb3⟩⟩
        rw [call_97]
        simp -implicitDefEqProofs only [go_sem, simprocAttr, Tryz.f97, d0, f0, exR_len, exC, x0, y1, b0, c1']
        all_goals rfl
      have b1 : (nextS L (a + 1) 10 == 1) = false := by simpa using c1
      by_cases c2 : nextS L (a + 1) 10 = 2
      · have c2' : (nextS L (a + 1) 10 == 2) = true := by simp [c2]
        obtain ⟨z, _, y1⟩ := g_Pick (hG.step ((a + 1) + 1) 1 (by omega) (by omega)) (by omega) [-1, 0, 1, 4, 5, 6, 7, 59, 60, 1099511627776] (by decide) (by decide)
        simp only [List.map] at y1
        refine ⟨.mk k op z v src nm dd args, ((a + 1) + 1 + 1), ?_, by omega, by omega, by simp only [exN, exNs]; omega, by simp only [exB]; exact ⟨hb1, hb2, hb3⟩⟩
        rw [call_97]
        simp -implicitDefEqProofs only [go_sem, simprocAttr, Tryz.f97, d0, f0, exR_len, exC, x0, y1, b0, b1, c2']
        all_goals rfl
      have b2 : (nextS L (a + 1) 10 == 2) = false := by simpa using c2
      by_cases c3 : nextS L (a + 1) 10 = 3
      · have c3' : (nextS L (a + 1) 10 == 3) = true := by simp [c3]
        obtain ⟨z, a1, y1, q1, q2, q3⟩ := g_Any (hG.step ((a + 1) + 1) 30 (by omega) (by omega)) (by omega)
        refine ⟨.mk k op n z src nm dd args, a1, ?_, by omega, by omega, by simp only [exN, exNs]; omega, by simp only [exB]; exact ⟨by have := q3.2; omega, hb2, hb3⟩⟩
        rw [call_97]
        simp -implicitDefEqProofs only [go_sem, simprocAttr, Tryz.f97, d0, f0, exR_len, exC, x0, y1, b0, b1, b2, c3']
        all_goals rfl
      have b3 : (nextS L (a + 1) 10 == 3) = false := by simpa using c3
      by_cases c4 : nextS L (a + 1) 10 = 4
      · have c4' : (nextS L (a + 1) 10 == 4) = true := by simp [c4]
        have y1 := g_Next (hG.step ((a + 1) + 1) 1 (by omega) (by omega)) (by omega) 6
        obtain ⟨z, hzm, hz⟩ := str_at (l := [[], [97], [98], [65], [97, 46, 98], [122, 122]]) (next_bounds L ((a + 1) + 1) 6 (by omega) (by omega))
        have hzl := (by decide : ∀ x ∈ ([[], [97], [98], [65], [97, 46, 98], [122, 122]] : List (List UInt8)), x.length ≤ 4) z hzm
        simp only [List.map] at hz
        refine ⟨.mk k op n v src z dd args, ((a + 1) + 1 + 1), ?_, by omega, by omega, by simp only [exN, exNs]; omega, by simp only [exB]; exact ⟨hb1, by omega, hb3⟩⟩
        rw [call_97]
        simp -implicitDefEqProofs only [go_sem, simprocAttr, Tryz.f97, d0, f0, exR_len, exC, x0, y1, hz, b0, b1, b2, b3, c4']
        all_goals rfl
      have b4 : (nextS L (a + 1) 10 == 4) = false := by simpa using c4
      by_cases c5 : nextS L (a + 1) 10 = 5
      · have c5' : (nextS L (a + 1) 10 == 5) = true := by simp [c5]
        have y1 := g_Next (hG.step ((a + 1) + 1) 1 (by omega) (by omega)) (by omega) 4
        obtain ⟨z, hzm, hz⟩ := str_at (l := [[], [116], [120], [84]]) (next_bounds L ((a + 1) + 1) 4 (by omega) (by omega))
        have hzl := (by decide : ∀ x ∈ ([[], [116], [120], [84]] : List (List UInt8)), x.length ≤ 4) z hzm
        simp only [List.map] at hz
        refine ⟨.mk k op n v z nm dd args, ((a + 1) + 1 + 1), ?_, by omega, by omega, by simp only [exN, exNs]; omega, by simp only [exB]; exact ⟨by omega, hb2, hb3⟩⟩
        rw [call_97]
        simp -implicitDefEqProofs only [go_sem, simprocAttr, Tryz.f97, d0, f0, exR_len, exC, x0, y1, hz, b0, b1, b2, b3, b4, c5']
        all_goals rfl
      have b5 : (nextS L (a + 1) 10 == 5) = false := by simpa using c5
      by_cases c6 : nextS L (a + 1) 10 = 6
      · have c6' : (nextS L (a + 1) 10 == 6) = true := by simp [c6]
        obtain ⟨z, a1, y1, q1, q2, q3⟩ := g_Any (hG.step ((a + 1) + 1) 30 (by omega) (by omega)) (by omega)
        have hr1 := room_small args.length (by omega)
        have hr2 := room_small (args.length + 1) (by omega)
        have gC := g_Constant z
        refine ⟨.mk k op n v src nm dd (args ++ [.mk 1 0 0 z [] [] false []]), a1, ?_, by omega, by omega, by simp only [exN, exNs_app, exNs]; omega, by simp only [exB]; exact ⟨hb1, hb2, exBs_app hb3 (by simp only [exBs, exB]; exact ⟨⟨by have := q3.2; simp only [List.length_nil]; omega, Nat.zero_le _, trivial⟩, trivial⟩)⟩⟩
        rw [call_97]
        simp -implicitDefEqProofs only [go_sem, simprocAttr, Tryz.f97, d0, f0, exR_len, exC, x0, y1, gC, hr1, hr2, exR_len, exR_allLen, b0, b1, b2, b3, b4, b5, c6']
        all_goals (rw [← exR_snoc]; rfl)
      have b6 : (nextS L (a + 1) 10 == 6) = false := by simpa using c6
      by_cases c7 : nextS L (a + 1) 10 = 7
      · have c7' : (nextS L (a + 1) 10 == 7) = true := by simp [c7]
        by_cases hl : 0 < args.length
        · have dl : decide ((0 : Int) < (args.length : Int)) = true := decide_eq_true (by omega)
          have g1 : ((1 : Int) ≤ (args.length : Int)) = True := eq_true (by omega)
          have g2 : (1 : Int).toNat = 1 := rfl
          have hdn := exNs_drop args 1
          refine ⟨.mk k op n v src nm dd (args.drop 1), ((a + 1) + 1), ?_, by omega, by omega, by simp only [exN]; omega, by simp only [exB]; exact ⟨hb1, hb2, exBs_drop 1 hb3⟩⟩
          have htk : (exR (args.drop 1)).take (args.length - 1) = exR (args.drop 1) := List.take_of_length_le (by rw [exR_len, List.length_drop]; omega)
          rw [call_97]
          simp -implicitDefEqProofs only [go_sem, simprocAttr, Tryz.f97, d0, f0, exR_len, exC, x0, b0, b1, b2, b3, b4, b5, b6, c7', dl, g1, g2, exR_len, exR_allLen, exR_drop, htk]
          all_goals rfl
        · exact absurd h0 hl
      have b7 : (nextS L (a + 1) 10 == 7) = false := by simpa using c7
      by_cases c8 : nextS L (a + 1) 10 = 8
      · have c8' : (nextS L (a + 1) 10 == 8) = true := by simp [c8]
        obtain ⟨z, hzm, y1⟩ := g_Pick (hG.step ((a + 1) + 1) 1 (by omega) (by omega)) (by omega) [3, 22, 23, 24, 25] (by decide) (by decide)
        have hzb : 0 ≤ z ∧ z ≤ 25 := (by decide : ∀ x ∈ ([3, 22, 23, 24, 25] : List Int), 0 ≤ x ∧ x ≤ 25) z hzm
        simp only [List.map] at y1
        obtain ⟨e', qn, qb, lk⟩ := l_neg (L := L) z.toNat (by omega) _ [I 0, I 0, I 0, I 0, I 0, .str [], .str [], .str [], .bool false, .nils, .nils, .nils, .nils] rfl z.toNat 0 0 ((a + 1) + 1 + 1) (.mk k op n v src nm dd args) _ rfl rfl (by omega) (by simp only [exB]; exact ⟨hb1, hb2, hb3⟩)
        rw [Int.toNat_of_nonneg hzb.1] at lk
        simp only [exC] at lk
        refine ⟨e', ((a + 1) + 1 + 1), ?_, by omega, by omega, by rw [qn]; simp only [exN]; omega, qb⟩
        rw [call_97]
        simp -implicitDefEqProofs only [go_sem, simprocAttr, Tryz.f97, d0, f0, exR_len, exC, x0, y1, b0, b1, b2, b3, b4, b5, b6, b7, c8']
        rw [lk]
        simp -implicitDefEqProofs only [go_sem, simprocAttr, exC_len, exC_take]
      have b8 : (nextS L (a + 1) 10 == 8) = false := by simpa using c8
      refine ⟨.mk k op n v src nm true args, ((a + 1) + 1), ?_, by omega, by omega, by simp only [exN]; omega, by simp only [exB]; exact ⟨hb1, hb2, hb3⟩⟩
      rw [call_97]
      simp -implicitDefEqProofs only [go_sem, simprocAttr, Tryz.f97, d0, f0, exR_len, exC, x0, b0, b1, b2, b3, b4, b5, b6, b7, b8]
      all_goals rfl
  · have d0 : decide ((0 : Int) < (args.length : Int)) = false := decide_eq_false (by omega)
    have x0 := g_Next (hG.step a 1 (by omega) (by omega)) (by omega) 10
    by_cases c0 : nextS L a 10 = 0
    · have c0' : (nextS L a 10 == 0) = true := by simp [c0]
      have y1 := g_Range (hG.step (a + 1) 1 (by omega) (by omega)) (by omega) 0 11 (by omega) (by omega) (by omega)
      refine ⟨.mk (rngS L (a + 1) 0 11) op n v src nm dd args, (a + 1 + 1), ?_, by omega, by omega, by simp only [exN, exNs]; omega, by simp only [exB]; exact ⟨hb1, hb2, hb3⟩⟩
      rw [call_97]
      simp -implicitDefEqProofs only [go_sem, simprocAttr, Tryz.f97, d0, exR_len, exC, x0, y1, c0']
      all_goals rfl
    have b0 : (nextS L a 10 == 0) = false := by simpa using c0
    by_cases c1 : nextS L a 10 = 1
    · have c1' : (nextS L a 10 == 1) = true := by simp [c1]
      have y1 := g_Range (hG.step (a + 1) 1 (by omega) (by omega)) (by omega) 0 28 (by omega) (by omega) (by omega)
      refine ⟨.mk k (rngS L (a + 1) 0 28) n v src nm dd args, (a + 1 + 1), ?_, by omega, by omega, by simp only [exN, exNs]; omega, by simp only [exB]; exact ⟨hb1, hb2, hb3⟩⟩
      rw [call_97]
      simp -implicitDefEqProofs only [go_sem, simprocAttr, Tryz.f97, d0, exR_len, exC, x0, y1, b0, c1']
      all_goals rfl
    have b1 : (nextS L a 10 == 1) = false := by simpa using c1
    by_cases c2 : nextS L a 10 = 2
    · have c2' : (nextS L a 10 == 2) = true := by simp [c2]
      obtain ⟨z, _, y1⟩ := g_Pick (hG.step (a + 1) 1 (by omega) (by omega)) (by omega) [-1, 0, 1, 4, 5, 6, 7, 59, 60, 1099511627776] (by decide) (by decide)
      simp only [List.map] at y1
      refine ⟨.mk k op z v src nm dd args, (a + 1 + 1), ?_, by omega, by omega, by simp only [exN, exNs]; omega, by simp only [exB]; exact ⟨hb1, hb2, hb3⟩⟩
      rw [call_97]
      simp -implicitDefEqProofs only [go_sem, simprocAttr, Tryz.f97, d0, exR_len, exC, x0, y1, b0, b1, c2']
      all_goals rfl
    have b2 : (nextS L a 10 == 2) = false := by simpa using c2
    by_cases c3 : nextS L a 10 = 3
    · have c3' : (nextS L a 10 == 3) = true := by simp [c3]
      obtain ⟨z, a1, y1, q1, q2, q3⟩ := g_Any (hG.step (a + 1) 30 (by omega) (by omega)) (by omega)
      refine ⟨.mk k op n z src nm dd args, a1, ?_, by omega, by omega, by simp only [exN, exNs]; omega, by simp only [exB]; exact ⟨by have := q3.2; omega, hb2, hb3⟩⟩
      rw [call_97]
      simp -implicitDefEqProofs only [go_sem, simprocAttr, Tryz.f97, d0, exR_len, exC, x0, y1, b0, b1, b2, c3']
      all_goals rfl
    have b3 : (nextS L a 10 == 3) = false := by simpa using c3
    by_cases c4 : nextS L a 10 = 4
    · have c4' : (nextS L a 10 == 4) = true := by simp [c4]
      have y1 := g_Next (hG.step (a + 1) 1 (by omega) (by omega)) (by omega) 6
      obtain ⟨z, hzm, hz⟩ := str_at (l := [[], [97], [98], [65], [97, 46, 98], [122, 122]]) (next_bounds L (a + 1) 6 (by omega) (by omega))
      have hzl := (by decide : ∀ x ∈ ([[], [97], [98], [65], [97, 46, 98], [122, 122]] : List (List UInt8)), x.length ≤ 4) z hzm
      simp only [List.map] at hz
      refine ⟨.mk k op n v src z dd args, (a + 1 + 1), ?_, by omega, by omega, by simp only [exN, exNs]; omega, by simp only [exB]; exact ⟨hb1, by omega, hb3⟩⟩
      rw [call_97]
      simp -implicitDefEqProofs only [go_sem, simprocAttr, Tryz.f97, d0, exR_len, exC, x0, y1, hz, b0, b1, b2, b3, c4']
      all_goals rfl
    have b4 : (nextS L a 10 == 4) = false := by simpa using c4
    by_cases c5 : nextS L a 10 = 5
    · have c5' : (nextS L a 10 == 5) = true := by simp [c5]
      have y1 := g_Next (hG.step (a + 1) 1 (by omega) (by omega)) (by omega) 4
      obtain ⟨z, hzm, hz⟩ := str_at (l := [[], [116], [120], [84]]) (next_bounds L (a + 1) 4 (by omega) (by omega))
      have hzl := (by decide : ∀ x ∈ ([[], [116], [120], [84]] : List (List UInt8)), x.length ≤ 4) z hzm
      simp only [List.map] at hz
      refine ⟨.mk k op n v z nm dd args, (a + 1 + 1), ?_, by omega, by omega, by simp only [exN, exNs]; omega, by simp only [exB]; exact ⟨by omega, hb2, hb3⟩⟩
      rw [call_97]
      simp -implicitDefEqProofs only [go_sem, simprocAttr, Tryz.f97, d0, exR_len, exC, x0, y1, hz, b0, b1, b2, b3, b4, c5']
      all_goals rfl
    have b5 : (nextS L a 10 == 5) = false := by simpa using c5
    by_cases c6 : nextS L a 10 = 6
    · have c6' : (nextS L a 10 == 6) = true := by simp [c6]
      obtain ⟨z, a1, y1, q1, q2, q3⟩ := g_Any (hG.step (a + 1) 30 (by omega) (by omega)) (by omega)
      have hr1 := room_small args.length (by omega)
      have hr2 := room_small (args.length + 1) (by omega)
      have gC := g_Constant z
      refine ⟨.mk k op n v src nm dd (args ++ [.mk 1 0 0 z [] [] false []]), a1, ?_, by omega, by omega, by simp only [exN, exNs_app, exNs]; omega, by simp only [exB]; exact ⟨hb1, hb2, exBs_app hb3 (by simp only [exBs, exB]; exact ⟨⟨by have := q3.2; simp only [List.length_nil]; omega, Nat.zero_le _, trivial⟩, trivial⟩)⟩⟩
      rw [call_97]
      simp -implicitDefEqProofs only [go_sem, simprocAttr, Tryz.f97, d0, exR_len, exC, x0, y1, gC, hr1, hr2, exR_len, exR_allLen, b0, b1, b2, b3, b4, b5, c6']
      all_goals (rw [← exR_snoc]; rfl)
    have b6 : (nextS L a 10 == 6) = false := by simpa using c6
    by_cases c7 : nextS L a 10 = 7
    · have c7' : (nextS L a 10 == 7) = true := by simp [c7]
      refine ⟨.mk k op n v src nm dd args, (a + 1), ?_, by omega, by omega, by simp only [exN]; omega, by simp only [exB]; exact ⟨hb1, hb2, hb3⟩⟩
      rw [call_97]
      simp -implicitDefEqProofs only [go_sem, simprocAttr, Tryz.f97, d0, exR_len, exC, x0, b0, b1, b2, b3, b4, b5, b6, c7']
      all_goals rfl
    have b7 : (nextS L a 10 == 7) = false := by simpa using c7
    by_cases c8 : nextS L a 10 = 8
    · have c8' : (nextS L a 10 == 8) = true := by simp [c8]
      obtain ⟨z, hzm, y1⟩ := g_Pick (hG.step (a + 1) 1 (by omega) (by omega)) (by omega) [3, 22, 23, 24, 25] (by decide) (by decide)
      have hzb : 0 ≤ z ∧ z ≤ 25 := (by decide : ∀ x ∈ ([3, 22, 23, 24, 25] : List Int), 0 ≤ x ∧ x ≤ 25) z hzm
      simp only [List.map] at y1
      obtain ⟨e', qn, qb, lk⟩ := l_neg (L := L) z.toNat (by omega) _ [I 0, I 0, I 0, I 0, I 0, .str [], .str [], .str [], .bool false, .nils, .nils, .nils, .nils] rfl z.toNat 0 0 (a + 1 + 1) (.mk k op n v src nm dd args) _ rfl rfl (by omega) (by simp only [exB]; exact ⟨hb1, hb2, hb3⟩)
      rw [Int.toNat_of_nonneg hzb.1] at lk
      simp only [exC] at lk
      refine ⟨e', (a + 1 + 1), ?_, by omega, by omega, by rw [qn]; simp only [exN]; omega, qb⟩
      rw [call_97]
      simp -implicitDefEqProofs only [go_sem, simprocAttr, Tryz.f97, d0, exR_len, exC, x0, y1, b0, b1, b2, b3, b4, b5, b6, b7, c8']
      rw [lk]
      simp -implicitDefEqProofs only [go_sem, simprocAttr, exC_len, exC_take]
    have b8 : (nextS L a 10 == 8) = false := by simpa using c8
    refine ⟨.mk k op n v src nm true args, (a + 1), ?_, by omega, by omega, by simp only [exN]; omega, by simp only [exB]; exact ⟨hb1, hb2, hb3⟩⟩
    rw [call_97]
    simp -implicitDefEqProofs only [go_sem, simprocAttr, Tryz.f97, d0, exR_len, exC, x0, b0, b1, b2, b3, b4, b5, b6, b7, b8]
    all_goals rfl
theorem ints_snoc (l : List Int) (x : Int) : (l.map fun x => [I x]) ++ [[I x]] = (l ++ [x]).map fun x => [I x] := by rw [List.map_append]; rfl
theorem cels_snoc (l : List Cel) (x : Cel) : l.map celC ++ [celC x] = (l ++ [x]).map celC := by rw [List.map_append]; rfl
theorem l_Kinds (c : Nat) (hc : c ≤ 100) (ks : List It) : ∀ (m j : Nat) (i a B : Int) (l : List Int) (Bo : Code), Loop Tryz.f95 0 Bo → Gd L a B → m ≤ B → i = (j : Int) → c = j + m → l.length = j →
   ∃ (l' : List Int) (a' : Int), a ≤ a' ∧ a' ≤ a + m ∧ l'.length = c ∧
   RL K (.run 95 1 (.code Bo :: .lp Bo (some ([0, 3, 5, 6], [])) 2 :: .blk 0 2 :: ks) [(0, .ptr 0 0), (3, .own 1 l.length), (5, I (c : Int)), (6, I i)] [.cells [LR L, I a], .rows 1 (l.map fun x => [I x]) false]) =
   R K (.run 95 1 ks [(3, .own 1 l'.length)] [.cells [LR L, I a'], .rows 1 (l'.map fun x => [I x]) false])
  | 0, j, i, a, B, l, Bo, hB, hG, hm, hi, hj, hl => by
    subst hi
    have h1 : decide ((j : Int) < (c : Int)) = false := decide_eq_false (by omega)
    refine ⟨l, a, by omega, by omega, by omega, ?_⟩
    unfold Loop at hB
    simp -implicitDefEqProofs only [go_sem, simprocAttr, Tryz.f95, loopOf] at hB
    subst hB
    rw [RL_eq]
    simp -implicitDefEqProofs only [go_sem, simprocAttr, h1]
  | m + 1, j, i, a, B, l, Bo, hB, hG, hm, hi, hj, hl => by
    subst hi
    have hB' := hB
    have h1 : decide ((j : Int) < (c : Int)) = true := decide_eq_true (by omega)
    have h7 := next_id (i := j) (n := c) (by omega) (by omega)
    have x0 := g_Kind hG (by omega)
    have hr := room_small (l.length + 1) (by omega)
    obtain ⟨l', a', q1, q2, q3, ih⟩ := l_Kinds c hc ks m (j + 1) _ (a + 1) (B - 1) (l ++ [rngS L a 1 4]) Bo hB' (hG.step _ _ (by omega) (by omega)) (by omega) rfl (by omega) (by simp; omega)
    refine ⟨l', a', by omega, by omega, q3, ?_⟩
    unfold Loop at hB
    simp -implicitDefEqProofs only [go_sem, simprocAttr, Tryz.f95, loopOf] at hB
    subst hB
    rw [RL_eq]
    simp -implicitDefEqProofs only [go_sem, simprocAttr, h1, h7, x0, hr]
    rw [← ih]
    simp only [← ints_snoc, List.length_append, List.length_cons, List.length_nil]
theorem g_Kinds {a B : Int} (h : Gd L a B) (hB : 5 ≤ B) : ∃ (l : List Int) (a' : Int), R K (.call 95 [.ptr 0 0] (St L a)) = some (.own 1 l.length, [.cells [LR L, I a'], .rows 1 (l.map fun x => [I x]) false]) ∧ a ≤ a' ∧ a' ≤ a + 5 ∧ l.length ≤ 3 := by
  have x0 := g_Next h (by omega) 4
  have b0 := next_bounds L a 4 (by omega) (by omega)
  have e1 : ((nextS L a 4).toNat : Int) = nextS L a 4 := by omega
  obtain ⟨l', a', q1, q2, q3, lk⟩ := l_Kinds (L := L) (nextS L a 4).toNat (by omega) _ (nextS L a 4).toNat 0 0 (a + 1) (B - 1) [] _ rfl (h.step _ _ (by omega) (by omega)) (by omega) rfl (by omega) rfl
  rw [e1] at lk
  simp only [List.length_nil, List.map] at lk
  refine ⟨l', a', ?_, by omega, by omega, by omega⟩
  rw [call_95]
  simp -implicitDefEqProofs only [go_sem, simprocAttr, Tryz.f95, x0]
  rw [lk]
  simp -implicitDefEqProofs only [go_sem, simprocAttr]
theorem l_cols (c : Nat) (hc : c ≤ 5) (ks : List It) (H0 : List AV) (hH : locsL H0 = []) : ∀ (m j : Nat) (i a B : Int) (l : List Cel) (Bo : Code), Loop Tryz.f40 0 Bo → Gd L a B → 2 * m ≤ B → i = (j : Int) → c = j + m → l.length = j → (∀ c ∈ l, CelOk c) →
   ∃ (l' : List Cel) (a' : Int), a ≤ a' ∧ a' ≤ a + 2 * m ∧ l'.length = c ∧ (∀ c ∈ l', CelOk c) ∧
   RL K (.run 40 1 (.code Bo :: .lp Bo (some ([0, 4, 5, 10, 11], [])) 3 :: .blk 0 3 :: ks) [(0, .ptr 0 0), (4, .ptr 1 0), (5, .own 2 l.length), (10, I (c : Int)), (11, I i)] [.cells [LR L, I a], .cells H0, .rows 3 (l.map celC) false]) =
   R K (.run 40 1 ks [(0, .ptr 0 0), (4, .ptr 1 0), (5, .own 2 l'.length)] [.cells [LR L, I a'], .cells H0, .rows 3 (l'.map celC) false])
  | 0, j, i, a, B, l, Bo, hB, hG, hm, hi, hj, hl, hco => by
    subst hi
    have h1 : decide ((j : Int) < (c : Int)) = false := decide_eq_false (by omega)
    refine ⟨l, a, by omega, by omega, by omega, hco, ?_⟩
    unfold Loop at hB
    simp -implicitDefEqProofs only [go_sem, simprocAttr, Tryz.f40, loopOf] at hB
    subst hB
    rw [RL_eq]
    simp -implicitDefEqProofs only [go_sem, simprocAttr, h1, hH]
  | m + 1, j, i, a, B, l, Bo, hB, hG, hm, hi, hj, hl, hco => by
    subst hi
    have hB' := hB
    have h1 : decide ((j : Int) < (c : Int)) = true := decide_eq_true (by omega)
    have h7 := next_id (i := j) (n := c) (by omega) (by omega)
    have w1 : wrapI .i64 (97 + (j : Int)) = 97 + (j : Int) := wrap_id (by omega) (by omega)
    have x0 := g_Next hG (by omega) 2
    obtain ⟨z, hzm, hz⟩ := str_at (l := [[], [116]]) (next_bounds L a 2 (by omega) (by omega))
    have hzl := (by decide : ∀ x ∈ ([[], [116]] : List (List UInt8)), x.length ≤ 4) z hzm
    have hrb := range_bounds L (a + 1) 1 4 (by omega) (by omega)
    have hnl : (Utf8.encode (wrapI .i32 (97 + (j : Int)))).data.toList.length ≤ 4 := (by decide : ∀ j : Nat, j < 6 → (Utf8.encode (wrapI .i32 (97 + (j : Int)))).data.toList.length ≤ 4) j (by omega)
    simp only [List.map] at hz
    have x1 := g_Kind (hG.step (a + 1) 1 (by omega) (by omega)) (by omega)
    have hr := room_small (l.length + 1) (by omega)
    generalize hname : (Utf8.encode (wrapI .i32 (97 + (j : Int)))).data.toList = nm at hnl
    obtain ⟨l', a', q1, q2, q3, q4, ih⟩ := l_cols c hc ks H0 hH m (j + 1) _ (a + 1 + 1) (B - 2) (l ++ [⟨z, nm, rngS L (a + 1) 1 4⟩]) Bo hB' (hG.step _ _ (by omega) (by omega)) (by omega) rfl (by omega) (by simp; omega) (by
      intro c hcm
      rcases List.mem_append.1 hcm with hcm | hcm
      · exact hco c hcm
      · simp only [List.mem_cons, List.not_mem_nil, or_false] at hcm; subst hcm; exact ⟨by simp only; omega, by simp only; omega, by simp only; omega⟩)
    refine ⟨l', a', by omega, by omega, q3, q4, ?_⟩
    unfold Loop at hB
    simp -implicitDefEqProofs only [go_sem, simprocAttr, Tryz.f40, loopOf] at hB
    subst hB
    rw [RL_eq]
    simp -implicitDefEqProofs only [go_sem, simprocAttr, h1, hH, h7, w1, x0, hz, hname, x1, hr]
    rw [← ih]
    simp only [← cels_snoc, celC, List.length_append, List.length_cons, List.length_nil]
theorem l_spoil (cols : List Cel) (ps : List Int) (c : Nat) (hc : c ≤ 2) (ks : List It) (H0 : List AV) (hH : locsL H0 = []) : ∀ (m j : Nat) (i a B : Int) (e : Ex) (Bo : Code), Loop Tryz.f40 2 Bo → Gd L a B → 40000 * m ≤ B → i = (j : Int) → c = j + m → exN e ≤ 800 + 30 * j → exB e →
   ∃ (e' : Ex) (a' : Int), a ≤ a' ∧ a' ≤ a + 40000 * m ∧ exN e' ≤ 800 + 30 * c ∧ exB e' ∧
   RL K (.run 40 1 (.code Bo :: .lp Bo (some ([0, 4, 5, 7, 8, 42, 43], [])) 5 :: .blk 2 5 :: ks) [(0, .ptr 0 0), (4, .ptr 1 0), (5, .own 2 cols.length), (7, .own 3 ps.length), (8, .ptr 4 0), (42, I (c : Int)), (43, I i)] [.cells [LR L, I a], .cells H0, .rows 3 (cols.map celC) false, .rows 1 (ps.map fun x => [I x]) false, .cells (exC e)]) =
   R K (.run 40 1 ks [(0, .ptr 0 0), (4, .ptr 1 0), (5, .own 2 cols.length), (7, .own 3 ps.length), (8, .ptr 4 0)] [.cells [LR L, I a'], .cells H0, .rows 3 (cols.map celC) false, .rows 1 (ps.map fun x => [I x]) false, .cells (exC e')])
  | 0, j, i, a, B, e, Bo, hB, hG, hm, hi, hj, he, heb => by
    subst hi
    have h1 : decide ((j : Int) < (c : Int)) = false := decide_eq_false (by omega)
    refine ⟨e, a, by omega, by omega, by omega, heb, ?_⟩
    unfold Loop at hB
    simp -implicitDefEqProofs only [go_sem, simprocAttr, Tryz.f40, loopOf] at hB
    subst hB
    rw [RL_eq]
    simp -implicitDefEqProofs only [go_sem, simprocAttr, h1, hH]
  | m + 1, j, i, a, B, e, Bo, hB, hG, hm, hi, hj, he, heb => by
    subst hi
    have hB' := hB
    have h1 : decide ((j : Int) < (c : Int)) = true := decide_eq_true (by omega)
    have h7 := next_id (i := j) (n := c) (by omega) (by omega)
    obtain ⟨e1, a1, x0, r1, r2, r3, r4⟩ := g_Spoiled e (by omega) heb a B hG (by omega)
    obtain ⟨e', a', q1, q2, q3, q4, ih⟩ := l_spoil cols ps c hc ks H0 hH m (j + 1) _ a1 (B - 40000) e1 Bo hB' (hG.step _ _ (by omega) (by omega)) (by omega) rfl (by omega) (by omega) r4
    refine ⟨e', a', by omega, by omega, q3, q4, ?_⟩
    unfold Loop at hB
    simp -implicitDefEqProofs only [go_sem, simprocAttr, Tryz.f40, loopOf] at hB
    subst hB
    rw [RL_eq]
    simp -implicitDefEqProofs only [go_sem, simprocAttr, h1, hH, h7, x0, splice]
    rw [← ih]
theorem g_scalar {a B : Int} (h : Gd L a B) (hB : 200000 ≤ B) : ∃ (cols : List Cel) (ps : List Int) (e : Ex) (a' : Int), R K (.call 40 [.ptr 0 0] (St L a)) = some (.tup [colsC cols, LR ps, .agg (exC e)], St L a') ∧ a ≤ a' ∧ a' ≤ a + 200000 ∧ cols.length ≤ 5 ∧ ps.length ≤ 4 ∧ exN e ≤ 860 ∧ exB e ∧ (∀ c ∈ cols, CelOk c) := by
  have x0 := g_Next h (by omega) 5
  have b0 := next_bounds L a 5 (by omega) (by omega)
  have e0 : ((nextS L a 5).toNat : Int) = nextS L a 5 := by omega
  obtain ⟨cols, a1, q1, q2, q3, q4, lk⟩ := l_cols (L := L) (nextS L a 5).toNat (by omega) _ [I 0, I 0, I 0, I 0, I 0, .str [], .str [], .str [], .bool false, .nils, .nils, .nils, .nils] rfl (nextS L a 5).toNat 0 0 (a + 1) (B - 1) [] _ rfl (h.step _ _ (by omega) (by omega)) (by omega) rfl (by omega) rfl (by simp)
  rw [e0] at lk
  simp only [List.length_nil, List.map] at lk
  obtain ⟨ps, a2, x1, r1, r2, r3⟩ := g_Kinds (h.step a1 5 (by omega) (by omega)) (by omega)
  have x2 := g_Kind (h.step a2 1 (by omega) (by omega)) (by omega)
  have x3 := g_Next (h.step (a2 + 1) 1 (by omega) (by omega)) (by omega) 5
  have b3 := next_bounds L (a2 + 1) 5 (by omega) (by omega)
  have e3 : ((nextS L (a2 + 1) 5).toNat : Int) = nextS L (a2 + 1) 5 := by omega
  have hd : (nextS L (a2 + 1) 5).toNat ≤ 4 := by omega
  have hbt : ∀ d : Nat, d ≤ 4 → bT d ≤ 20000 ∧ bN d ≤ 800 := by decide
  have hb := hbt _ hd
  obtain ⟨e, a3, x4, s1, s2, s3, s4⟩ := g_Scalar (nextS L (a2 + 1) 5).toNat (by omega) L cols ps (rngS L a2 1 4) (a2 + 1 + 1) 20000 q4 (by omega) (by omega) (h.step _ _ (by omega) (by omega)) hb.1
  rw [e3] at x4
  obtain ⟨z, hzm, x5⟩ := g_Pick (h.step a3 1 (by omega) (by omega)) (by omega) [0, 0, 1, 2] (by decide) (by decide)
  have hzb : 0 ≤ z ∧ z ≤ 2 := (by decide : ∀ x ∈ ([0, 0, 1, 2] : List Int), 0 ≤ x ∧ x ≤ 2) z hzm
  simp only [List.map] at x5
  obtain ⟨e', a4, t1, t2, t3, t4, lk2⟩ := l_spoil (L := L) cols ps z.toNat (by omega) _ [I 0, I 0, I 0, I 0, I 0, .str [], .str [], .str [], .bool false, .nils, .nils, .nils, .nils] rfl z.toNat 0 0 (a3 + 1) 80000 e _ rfl (h.step _ _ (by omega) (by omega)) (by omega) rfl (by omega) (by omega) s4
  rw [Int.toNat_of_nonneg hzb.1] at lk2
  have x6 := g_Flip (h.step a4 1 (by omega) (by omega)) (by omega) 20
  cases hf : nextS L a4 20 == 0 with
  | false =>
    rw [hf] at x6
    refine ⟨cols, ps, e', a4 + 1, ?_, by omega, by omega, by omega, by omega, by omega, t4, q4⟩
    rw [call_40]
    simp -implicitDefEqProofs only [go_sem, simprocAttr, Tryz.f40, x0]
    rw [lk]
    simp -implicitDefEqProofs only [go_sem, simprocAttr, x1, x2, x3, x4, x5]
    rw [lk2]
    simp -implicitDefEqProofs only [go_sem, simprocAttr, x6]
  | true =>
    rw [hf] at x6
    obtain ⟨y, _, x7⟩ := g_Pick (h.step (a4 + 1) 1 (by omega) (by omega)) (by omega) [0, 5] (by decide) (by decide)
    simp only [List.map] at x7
    have hr := room_small (ps.length + 1) (by omega)
    refine ⟨cols, ps ++ [y], e', a4 + 1 + 1, ?_, by omega, by omega, by omega, by simp; omega, by omega, t4, q4⟩
    rw [call_40]
    simp -implicitDefEqProofs only [go_sem, simprocAttr, Tryz.f40, x0]
    rw [lk]
    simp -implicitDefEqProofs only [go_sem, simprocAttr, x1, x2, x3, x4, x5]
    rw [lk2]
    simp -implicitDefEqProofs only [go_sem, simprocAttr, x6, x7, hr]
    all_goals rw [ints_snoc]
end
theorem drop_ex {l : List Ex} {i : Nat} {x : Ex} (h : l[i]? = some x) : l.drop i = x :: l.drop (i + 1) := drop_get h
theorem l_sizeOf (args : List Ex) (hN : exNs args ≤ 1000000) (ih : ∀ a ∈ args, exN a ≤ 1000000 → R K (.call 112 [.agg (exC a)] []) = some (.tup [I (exN a : Int), I (exD a : Int)], [])) (H0 : List AV) (hH : locsL H0 = []) (ks : List It) : ∀ (m j : Nat) (i : Int) (c d : Nat) (Bo : Code), Loop Tryz.f112 0 Bo → i = (j : Int) → args.length = j + m → c + exNs (args.drop j) ≤ 2000000 → d ≤ 1000000 →
   RL K (.run 112 0 (.code Bo :: .lp Bo (some ([2, 3, 9, 10, 11], [])) 1 :: .blk 0 1 :: ks) [(2, I (c : Int)), (3, I (d : Int)), (9, .rows (exR args)), (10, I (args.length : Int)), (11, I i)] [.cells H0]) =
   R K (.run 112 0 ks [(2, I ((c + exNs (args.drop j) : Nat) : Int)), (3, I ((max d (exDs (args.drop j)) : Nat) : Int))] [.cells H0])
  | 0, j, i, c, d, Bo, hB, hi, hj, hc, hd => by
    subst hi
    have h1 : decide ((j : Int) < (args.length : Int)) = false := decide_eq_false (by omega)
    rw [List.drop_of_length_le (by omega)]
    simp only [exNs, exDs, Nat.add_zero, Nat.max_zero]
    unfold Loop at hB
    simp -implicitDefEqProofs only [go_sem, simprocAttr, Tryz.f112, loopOf] at hB
    subst hB
    rw [RL_eq]
    simp -implicitDefEqProofs only [go_sem, simprocAttr, h1, hH]
  | m + 1, j, i, c, d, Bo, hB, hi, hj, hc, hd => by
    subst hi
    have hB' := hB
    have h1 : decide ((j : Int) < (args.length : Int)) = true := decide_eq_true (by omega)
    have hl := exNs_len args
    have h7 := next_id (i := j) (n := args.length) (by omega) (by omega)
    obtain ⟨x, hx⟩ := some_at (l := args) (i := j) (by omega)
    have hg := ex_get hx
    have hxm := List.mem_of_getElem? hx
    have hxn := exN_mem hxm
    have hxd := exD_le x
    have r := ih x hxm (by omega)
    rw [drop_ex hx] at hc ⊢
    simp only [exNs, exDs] at hc ⊢
    have w1 : wrapI .i64 ((c : Int) + (exN x : Int)) = ((c + exN x : Nat) : Int) := by rw [wrap_id (by omega) (by omega)]; omega
    have w2 : (if (d : Int) < (exD x : Int) then (exD x : Int) else (d : Int)) = ((max d (exD x) : Nat) : Int) := by split <;> omega
    have ih2 := l_sizeOf args hN ih H0 hH ks m (j + 1) _ (c + exN x) (max d (exD x)) Bo hB' rfl (by omega) (by omega) (by omega)
    rw [Nat.add_assoc, Nat.max_assoc] at ih2
    unfold Loop at hB
    simp -implicitDefEqProofs only [go_sem, simprocAttr, Tryz.f112, loopOf] at hB
    subst hB
    rw [RL_eq]
    simp -implicitDefEqProofs only [go_sem, simprocAttr, h1, hH, h7, hg, exC_len, exC_take, r, w1, w2]
    rw [ih2]
theorem r_sizeOf : ∀ e : Ex, exN e ≤ 1000000 → R K (.call 112 [.agg (exC e)] []) = some (.tup [I (exN e : Int), I (exD e : Int)], []) := by
  refine Ex.ind fun e ih => ?_
  obtain ⟨k, op, n, v, src, nm, dd, args⟩ := e
  intro hN
  simp only [Ex.args] at ih
  simp only [exN] at hN
  have hl := exNs_len args
  have hd : exDs args ≤ exNs args := by
    have := exD_le (.mk 0 0 0 null [] [] false args)
    simp only [exD, exN] at this; omega
  have lk := fun ks B hB => l_sizeOf args (by omega) ih (exC (.mk k op n v src nm dd args)) (exC_locs _) ks args.length 0 0 1 0 B hB rfl (by omega) (by rw [List.drop_zero]; omega) (by omega)
  simp only [List.drop_zero, exC, Int.cast_ofNat_Int, Int.natCast_zero, Int.natCast_one] at lk
  have w : wrapI .i64 (((max 0 (exDs args) : Nat) : Int) + 1) = ((exD (.mk k op n v src nm dd args) : Nat) : Int) := by
    rw [wrap_id (by omega) (by omega)]; simp only [exD]; omega
  have e1 : exN (.mk k op n v src nm dd args) = 1 + exNs args := rfl
  rw [e1]
  rw [call_112]
  simp -implicitDefEqProofs only [go_sem, simprocAttr, Tryz.f112, exC, exR_len]
  rw [lk _ _ ?_]
  · simp -implicitDefEqProofs only [go_sem, simprocAttr, w]
  · rfl
def smallS (e : Ex) : Bool := decide (exN e ≤ 400) && decide (exD e ≤ 24)
def Counts (f : Tk) (ok : Bool) (q : Nat) : Prop := ∃ p' : Nat, R K f = some (.bool ok, [.cells [I (p' : Int)]]) ∧ (ok = true → p' = q) ∧ p' ≤ 401
def okL (p t : Nat) (l : List Ex) : Bool := decide (p + exNs l ≤ 400) && decide (t + 1 + exDs l ≤ 25)
theorem l_sizes (args : List Ex) (ih : ∀ a ∈ args, ∀ p t : Nat, p ≤ 400 → t ≤ 30 → Counts (.call 155 [.agg (exC a), I (t : Int), .ptr 0 0] [.cells [I (p : Int)]]) (decide (p + exN a ≤ 400) && decide (t + exD a ≤ 25)) (p + exN a)) (t : Nat) (ht : t ≤ 24) (H0 : List AV) (hH : locsL H0 = []) (hlen : args.length ≤ 1000000) (ks : List It) : ∀ (m j : Nat) (i : Int) (p : Nat) (Bo : Code), Loop Tryz.f155 0 Bo → i = (j : Int) → args.length = j + m → p ≤ 400 →
   ∃ p' : Nat, p' ≤ 401 ∧
   RL K (.run 155 1 (.code Bo :: .lp Bo (some ([1, 2, 23, 24, 25], [])) 2 :: .blk 0 2 :: ks) [(1, I (t : Int)), (2, .ptr 0 0), (23, .rows (exR args)), (24, I (args.length : Int)), (25, I i)] [.cells [I (p : Int)], .cells H0]) =
   if okL p t (args.drop j) = true then R K (.run 155 1 ks [] [.cells [I ((p + exNs (args.drop j) : Nat) : Int)], .cells H0]) else some (.bool false, [.cells [I (p' : Int)]])
  | 0, j, i, p, Bo, hB, hi, hj, hp => by
    subst hi
    have h1 : decide ((j : Int) < (args.length : Int)) = false := decide_eq_false (by omega)
    rw [List.drop_of_length_le (by omega)]
    have hk : okL p t [] = true := by
      unfold okL exNs exDs
      rw [Bool.and_eq_true]
      exact ⟨decide_eq_true (by omega), decide_eq_true (by omega)⟩
    refine ⟨0, by omega, ?_⟩
    rw [if_pos hk]
    simp only [exNs, Nat.add_zero]
    unfold Loop at hB
    simp -implicitDefEqProofs only [go_sem, simprocAttr, Tryz.f155, loopOf] at hB
    subst hB
    rw [RL_eq]
    simp -implicitDefEqProofs only [go_sem, simprocAttr, h1, hH]
  | m + 1, j, i, p, Bo, hB, hi, hj, hp => by
    subst hi
    have hB' := hB
    have h1 : decide ((j : Int) < (args.length : Int)) = true := decide_eq_true (by omega)
    have h7 := next_id (i := j) (n := args.length) (by omega) (by omega)
    obtain ⟨x, hx⟩ := some_at (l := args) (i := j) (by omega)
    have hg := ex_get hx
    have w1 : wrapI .i64 ((t : Int) + 1) = ((t + 1 : Nat) : Int) := by rw [wrap_id (by omega) (by omega)]; omega
    obtain ⟨p1, r, q1, q2⟩ := ih x (List.mem_of_getElem? hx) p (t + 1) hp (by omega)
    rw [drop_ex hx]
    cases hok : (decide (p + exN x ≤ 400) && decide (t + 1 + exD x ≤ 25)) with
    | false =>
      rw [hok] at r
      have hk : okL p t (x :: args.drop (j + 1)) = false := by
        rw [Bool.and_eq_false_iff, decide_eq_false_iff_not, decide_eq_false_iff_not] at hok
        unfold okL exNs exDs
        rw [Bool.and_eq_false_iff, decide_eq_false_iff_not, decide_eq_false_iff_not]
        omega
      refine ⟨p1, q2, ?_⟩
      rw [if_neg (by rw [hk]; simp)]
      unfold Loop at hB
      simp -implicitDefEqProofs only [go_sem, simprocAttr, Tryz.f155, loopOf] at hB
      subst hB
      rw [RL_eq]
      simp -implicitDefEqProofs only [go_sem, simprocAttr, h1, hH, h7, hg, exC_len, exC_take, w1, r]
    | true =>
      rw [hok] at r
      have hp1 := q1 hok
      simp only [Bool.and_eq_true, decide_eq_true_eq] at hok
      obtain ⟨p2, s1, ih2⟩ := l_sizes args ih t ht H0 hH hlen ks m (j + 1) _ p1 Bo hB' rfl (by omega) (by omega)
      have hk : okL p t (x :: args.drop (j + 1)) = okL p1 t (args.drop (j + 1)) := by
        rw [Bool.eq_iff_iff]
        simp only [okL, Bool.and_eq_true, decide_eq_true_eq]
        simp only [exNs, exDs]
        omega
      rw [hk]
      refine ⟨p2, s1, ?_⟩
      have hn : p + exNs (x :: args.drop (j + 1)) = p1 + exNs (args.drop (j + 1)) := by simp only [exNs]; omega
      rw [hn]
      unfold Loop at hB
      simp -implicitDefEqProofs only [go_sem, simprocAttr, Tryz.f155, loopOf] at hB
      subst hB
      rw [RL_eq]
      simp -implicitDefEqProofs only [go_sem, simprocAttr, h1, hH, h7, hg, exC_len, exC_take, w1, r]
      rw [ih2]
end Go.Ab
