/- What is proved: contracts of the program's and the reference's functions in the evaluator, and plain laws on them. Conditions: as each states. -/
import Derived.Test.YtnckdofnpjaibaaGreatDoorMQ1
set_option linter.unusedSimpArgs false
set_option linter.unusedVariables false
set_option maxRecDepth 100000
namespace Go.Ab
open Go Go.Proofs
theorem c_sizes : ∀ e : Ex, exN e ≤ 1000000 → ∀ p t : Nat, p ≤ 400 → t ≤ 30 → Counts (.call 155 [.agg (exC e), I (t : Int), .ptr 0 0] [.cells [I (p : Int)]]) (decide (p + exN e ≤ 400) && decide (t + exD e ≤ 25)) (p + exN e) := by
  refine Ex.ind fun e ih => ?_
  obtain ⟨k, op, n, v, src, nm, dd, args⟩ := e
  intro hN p t hp ht
  simp only [Ex.args] at ih
  simp only [exN] at hN
  have hl := exNs_len args
  have ih : ∀ a ∈ args, ∀ p t : Nat, p ≤ 400 → t ≤ 30 → Counts (.call 155 [.agg (exC a), I (t : Int), .ptr 0 0] [.cells [I (p : Int)]]) (decide (p + exN a ≤ 400) && decide (t + exD a ≤ 25)) (p + exN a) := fun a ha => ih a ha (by have := exN_mem ha; omega)
  have w1 : wrapI .i64 ((p : Int) + 1) = ((p + 1 : Nat) : Int) := by rw [wrap_id (by omega) (by omega)]; omega
  have ep := exD_le (.mk k op n v src nm dd args)
  by_cases h1 : p + 1 ≤ 400
  · have d1 : decide ((400 : Int) < ((p + 1 : Nat) : Int)) = false := decide_eq_false (by omega)
    by_cases h2 : t ≤ 24
    · have d2 : decide ((24 : Int) < (t : Int)) = false := decide_eq_false (by omega)
      obtain ⟨p', s1, lk⟩ := l_sizes args ih t h2 (exC (.mk k op n v src nm dd args)) (exC_locs _) (by omega) [.code _] args.length 0 0 (p + 1) _ rfl rfl (by omega) h1
      simp only [List.drop_zero, exC] at lk
      have hk : (decide (p + exN (.mk k op n v src nm dd args) ≤ 400) && decide (t + exD (.mk k op n v src nm dd args) ≤ 25)) = okL (p + 1) t args := by
        rw [Bool.eq_iff_iff]
        simp only [okL, Bool.and_eq_true, decide_eq_true_eq]
        simp only [exN, exD]
        omega
      rw [hk]
      cases hok : okL (p + 1) t args with
      | true =>
        rw [if_pos hok] at lk
        refine ⟨p + 1 + exNs args, ?_, fun _ => by simp only [exN]; omega, ?_⟩
        · rw [call_155]
          simp -implicitDefEqProofs only [go_sem, simprocAttr, Tryz.f155, exC, exR_len, w1, d1, d2]
          rw [lk]
          simp -implicitDefEqProofs only [go_sem, simprocAttr]
        · simp only [okL, Bool.and_eq_true, decide_eq_true_eq] at hok; omega
      | false =>
        rw [if_neg (by rw [hok]; simp)] at lk
        refine ⟨p', ?_, fun h => by simp at h, s1⟩
        rw [call_155]
        simp -implicitDefEqProofs only [go_sem, simprocAttr, Tryz.f155, exC, exR_len, w1, d1, d2]
        rw [lk]
    · have d2 : decide ((24 : Int) < (t : Int)) = true := decide_eq_true (by omega)
      have hk : (decide (p + exN (.mk k op n v src nm dd args) ≤ 400) && decide (t + exD (.mk k op n v src nm dd args) ≤ 25)) = false := by
        simp only [Bool.and_eq_false_iff, decide_eq_false_iff_not]
        simp only [exN, exD]; omega
      rw [hk]
      refine ⟨p + 1, ?_, fun h => by simp at h, by omega⟩
      rw [call_155]
      simp -implicitDefEqProofs only [go_sem, simprocAttr, Tryz.f155, exC, exR_len, w1, d1, d2]
  · have d1 : decide ((400 : Int) < ((p + 1 : Nat) : Int)) = true := decide_eq_true (by omega)
    have hk : (decide (p + exN (.mk k op n v src nm dd args) ≤ 400) && decide (t + exD (.mk k op n v src nm dd args) ≤ 25)) = false := by
      simp only [Bool.and_eq_false_iff, decide_eq_false_iff_not]
      simp only [exN, exD]; omega
    rw [hk]
    refine ⟨p + 1, ?_, fun h => by simp at h, by omega⟩
    rw [call_155]
    simp -implicitDefEqProofs only [go_sem, simprocAttr, Tryz.f155, exC, exR_len, w1, d1]
theorem c_small (e : Ex) (hN : exN e ≤ 1000000) : R K (.call 104 [.agg (exC e)] []) = some (.bool (smallS e), []) := by
  obtain ⟨p', r, _, _⟩ := c_sizes e hN 0 1 (by omega) (by omega)
  have hk : (decide (0 + exN e ≤ 400) && decide (1 + exD e ≤ 25)) = smallS e := by
    rw [Bool.eq_iff_iff]
    simp only [smallS, Bool.and_eq_true, decide_eq_true_eq]
    omega
  rw [hk] at r
  simp only [Int.natCast_zero, Int.natCast_one] at r
  rw [call_104]
  simp -implicitDefEqProofs only [go_sem, simprocAttr, Tryz.f104, r]
def namesB : List UInt8 := (([110, 111, 116, 32, 97, 110, 100, 32, 111, 114, 32, 101, 113, 117, 97, 108, 32, 117, 110, 101, 113, 117, 97, 108, 32, 108, 101, 115, 115, 32, 97, 116, 109, 111, 115, 116] : List UInt8).append [32, 103, 114, 101, 97, 116, 101, 114, 32, 97, 116, 108, 101, 97, 115, 116, 32, 115, 97, 109, 101, 32, 110, 117, 108, 108, 32, 97, 100, 100, 32, 115, 117, 98, 32, 109, 117]).append (([108, 32, 100, 105, 118, 32, 109, 111, 100, 32, 110, 101, 103, 32, 99, 111, 110, 99, 97, 116, 32, 108, 105, 107, 101, 32, 108, 111, 119, 101, 114, 32, 117, 112, 112, 101, 114] : List UInt8).append [32, 108, 101, 110, 103, 116, 104, 32, 112, 97, 114, 116, 32, 99, 111, 97, 108, 101, 115, 99, 101, 32, 116, 114, 117, 110, 99, 32, 117, 110, 105, 116, 32, 99, 97, 115, 116])
def opNames : List (List UInt8) := [[110, 111, 116], [97, 110, 100], [111, 114], [101, 113, 117, 97, 108], [117, 110, 101, 113, 117, 97, 108], [108, 101, 115, 115], [97, 116, 109, 111, 115, 116], [103, 114, 101, 97, 116, 101, 114], [97, 116, 108, 101, 97, 115, 116], [115, 97, 109, 101], [110, 117, 108, 108], [97, 100, 100], [115, 117, 98], [109, 117, 108], [100, 105, 118], [109, 111, 100], [110, 101, 103], [99, 111, 110, 99, 97, 116], [108, 105, 107, 101], [108, 111, 119, 101, 114], [117, 112, 112, 101, 114], [108, 101, 110, 103, 116, 104], [112, 97, 114, 116], [99, 111, 97, 108, 101, 115, 99, 101], [116, 114, 117, 110, 99], [117, 110, 105, 116], [99, 97, 115, 116]]
theorem names_len : opNames.length = 27 := by decide
theorem names_ne : ∀ s ∈ opNames, s ≠ [] := by decide
theorem names_fields : Lib.fields namesB = opNames := by decide +kernel
def opNameS (op : Int) : List UInt8 := if within op 1 27 = true then (opNames[(op - 1).toNat]?).getD [] else []
theorem opName_at {op : Int} (h : within op 1 27 = true) : at? (opNames.map fun s => [AV.str s]) (op - 1) = some [.str (opNameS op)] := by
  have hb := (wit_iff op 1 27).1 h
  have hl := names_len
  obtain ⟨x, hx⟩ := some_at (l := opNames) (i := (op - 1).toNat) (by omega)
  unfold at? opNameS
  rw [if_pos (by omega), if_pos h, hx, List.getElem?_map, hx]
  rfl
theorem opName_ne {op : Int} (h : within op 1 27 = true) : opNameS op ≠ [] := by
  have hb := (wit_iff op 1 27).1 h
  have hl := names_len
  obtain ⟨x, hx⟩ := some_at (l := opNames) (i := (op - 1).toNat) (by omega)
  unfold opNameS
  rw [if_pos h, hx]
  exact names_ne x (List.mem_of_getElem? hx)
theorem p_names : R K (.call 267 [.str namesB] []) = some (.rows (opNames.map fun s => [.str s]), []) := R_prim (by
  show (if (decide (namesB.length < 4294967281) && namesB.all fun b => decide (b.toNat < 128)) = true then some (AV.rows ((Lib.fields namesB).map fun l => [.str l])) else none) = _
  rw [names_fields]
  exact if_pos (by decide +kernel))
theorem c_opName (op : Int) : R K (.call 212 [I op] []) = some (.str (opNameS op), []) := by
  have hn := p_names
  unfold namesB at hn
  cases h : within op 1 27 with
  | false =>
    have e : opNameS op = [] := by unfold opNameS; rw [if_neg (by rw [h]; simp)]
    rw [e]
    rw [call_212]
    simp -implicitDefEqProofs only [go_sem, simprocAttr, Tryz.f212, c_within, h]
  | true =>
    have hb := (wit_iff op 1 27).1 h
    have hg := opName_at h
    have w : wrapI .i64 (op - 1) = op - 1 := wrap_id (by omega) (by omega)
    rw [call_212]
    simp -implicitDefEqProofs only [go_sem, simprocAttr, Tryz.f212, c_within, h, hn, w, hg]
def hasNS (op : Int) : Bool := within op 25 27
theorem c_usesN (op : Int) : R K (.call 213 [I op] []) = some (.bool (hasNS op), []) := by
  rw [call_213]
  simp -implicitDefEqProofs only [go_sem, simprocAttr, Tryz.f213, c_within]
  all_goals rfl
def arityS (op : Int) : Int := if op = 1 ∨ op = 11 ∨ op = 17 ∨ op = 20 ∨ op = 21 ∨ op = 22 ∨ op = 25 ∨ op = 26 ∨ op = 27 then 1 else if op = 23 then 3 else if op = 24 then -1 else 2
theorem c_arity (op : Int) : R K (.call 268 [I op] []) = some (I (arityS op), []) := by
  rw [call_268]
  simp -implicitDefEqProofs only [go_sem, simprocAttr, Tryz.f268]
  repeat' ((first | apply split_cond | apply split_yes | apply split_no) <;> intro hc <;> simp -implicitDefEqProofs only [hc, go_sem, simprocAttr])
  all_goals (simp only [beq_iff_eq, beq_eq_false_iff_ne] at *; simp_all [arityS])
def argsOk (k op len : Int) : Bool := if k = 4 then (if 0 ≤ arityS op then len == arityS op else decide (2 ≤ len)) else if k = 5 then decide (3 ≤ len) && (len.tmod 2 == 1) else if k = 6 then decide (2 ≤ len) else len == 0
theorem c_rightArgs (e : Ex) : R K (.call 214 [.agg (exC e)] []) = some (.bool (argsOk e.k e.op (e.args.length : Int)), []) := by
  have ha := c_arity e.op
  by_cases h4 : e.k = 4
  · have e1 : argsOk e.k e.op (e.args.length : Int) = if 0 ≤ arityS e.op then (e.args.length : Int) == arityS e.op else decide (2 ≤ (e.args.length : Int)) := by unfold argsOk; rw [if_pos h4]
    rw [e1]
    by_cases h0 : 0 ≤ arityS e.op
    · have d0 : decide (0 ≤ arityS e.op) = true := decide_eq_true h0
      rw [if_pos h0]
      rw [call_214]
      simp -implicitDefEqProofs only [go_sem, simprocAttr, Tryz.f214, exC_eq, exR_len, h4, ha, d0]
    · have d0 : decide (0 ≤ arityS e.op) = false := decide_eq_false h0
      rw [if_neg h0]
      rw [call_214]
      simp -implicitDefEqProofs only [go_sem, simprocAttr, Tryz.f214, exC_eq, exR_len, h4, ha, d0]
  have b4 : (e.k == 4) = false := by simpa using h4
  by_cases h5 : e.k = 5
  · have e1 : argsOk e.k e.op (e.args.length : Int) = (decide (3 ≤ (e.args.length : Int)) && ((e.args.length : Int).tmod 2 == 1)) := by unfold argsOk; rw [if_neg h4, if_pos h5]
    rw [e1]
    by_cases h3 : (3 : Int) ≤ e.args.length
    · have d3 : decide ((3 : Int) ≤ e.args.length) = true := decide_eq_true h3
      rw [call_214]
      simp -implicitDefEqProofs only [go_sem, simprocAttr, Tryz.f214, exC_eq, exR_len, h5, d3]
    · have d3 : decide ((3 : Int) ≤ e.args.length) = false := decide_eq_false h3
      rw [call_214]
      simp -implicitDefEqProofs only [go_sem, simprocAttr, Tryz.f214, exC_eq, exR_len, h5, d3]
  have b5 : (e.k == 5) = false := by simpa using h5
  by_cases h6 : e.k = 6
  · have e1 : argsOk e.k e.op (e.args.length : Int) = decide (2 ≤ (e.args.length : Int)) := by unfold argsOk; rw [if_neg h4, if_neg h5, if_pos h6]
    rw [e1]
    rw [call_214]
    simp -implicitDefEqProofs only [go_sem, simprocAttr, Tryz.f214, exC_eq, exR_len, h6]
  have b6 : (e.k == 6) = false := by simpa using h6
  have e1 : argsOk e.k e.op (e.args.length : Int) = ((e.args.length : Int) == 0) := by unfold argsOk; rw [if_neg h4, if_neg h5, if_neg h6]
  rw [e1]
  rw [call_214]
  simp -implicitDefEqProofs only [go_sem, simprocAttr, Tryz.f214, exC_eq, exR_len, b4, b5, b6]
def rightNS (op n : Int) : Bool := if op = 25 ∨ op = 26 then within n 1 6 else if op = 27 then within n 1 4 else true
theorem c_rightN (op n : Int) : R K (.call 158 [I op, I n] []) = some (.bool (rightNS op n), []) := by
  rw [call_158]
  simp -implicitDefEqProofs only [go_sem, simprocAttr, Tryz.f158, c_within]
  repeat' ((first | apply split_cond | apply split_yes | apply split_no) <;> intro hc <;> simp -implicitDefEqProofs only [hc, go_sem, simprocAttr, c_within])
  all_goals (simp only [beq_iff_eq, beq_eq_false_iff_ne] at *; simp_all [rightNS])
theorem fault_eq (v : Val) (hk : within v.k 1 4 = true) : faultS v = if formS v = false then 3 else if 100 < v.s.length then 2 else if rangeS v = false then 1 else 0 := by
  obtain ⟨k, n, s⟩ := v
  have hb := (wit_iff k 1 4).1 hk
  have : k = 1 ∨ k = 2 ∨ k = 3 ∨ k = 4 := by omega
  by_cases hs : s = []
  · subst hs
    rcases this with rfl | rfl | rfl | rfl <;> simp [faultS, formS, rangeS, within, ok7]
    all_goals (congr 1; exact propext (by omega))
  · rcases this with rfl | rfl | rfl | rfl <;> simp [faultS, formS, rangeS, within, hs]
theorem c_Check (k n : Int) (s : List UInt8) (hk : within k 1 4 = true) : R K (.call 64 [I k, V k n s] []) = some (I (faultS ⟨k, n, s⟩), []) := by
  have hf := c_form k n s
  have hb := (wit_iff k 1 4).1 hk
  have k0 : (k == 0) = false := by simp; omega
  rw [fault_eq _ hk]
  cases h1 : formS ⟨k, n, s⟩ with
  | false =>
    rw [h1] at hf
    rw [if_pos rfl]
    rw [call_64]
    simp -implicitDefEqProofs only [go_sem, simprocAttr, Tryz.f64, c_within, hk, hf]
  | true =>
    rw [h1] at hf
    rw [if_neg (by simp)]
    by_cases h2 : 100 < s.length
    · have d2 : decide ((100 : Int) < (s.length : Int)) = true := decide_eq_true (by omega)
      rw [if_pos h2]
      rw [call_64]
      simp -implicitDefEqProofs only [go_sem, simprocAttr, Tryz.f64, c_within, hk, hf, bne, k0, beq_self_eq_true, d2]
    · have d2 : decide ((100 : Int) < (s.length : Int)) = false := decide_eq_false (by omega)
      have hr := c_range k n s (by omega)
      rw [if_neg h2]
      cases h3 : rangeS ⟨k, n, s⟩ with
      | false =>
        rw [h3] at hr
        rw [if_pos rfl]
        rw [call_64]
        simp -implicitDefEqProofs only [go_sem, simprocAttr, Tryz.f64, c_within, hk, hf, bne, k0, beq_self_eq_true, d2, hr]
      | true =>
        rw [h3] at hr
        rw [if_neg (by simp)]
        rw [call_64]
        simp -implicitDefEqProofs only [go_sem, simprocAttr, Tryz.f64, c_within, hk, hf, bne, k0, beq_self_eq_true, d2, hr]
def nullB (v : Val) : Bool := v.k == 0 && (v.n == 0 && v.s == [])
def partBad (e : Ex) : Bool := (e.k != 4 && e.op != 0) || ((!(e.k == 2 || (e.k == 4 && hasNS e.op)) && e.n != 0) || ((e.k != 1 && !nullB e.v) || ((e.k != 3 && !(e.src ++ e.nm == [])) || (e.d || !argsOk e.k e.op (e.args.length : Int)))))
def exF (e : Ex) : Int := if within e.k 1 6 = false ∨ (e.k = 4 ∧ within e.op 1 27 = false) then 4 else if partBad e = true then 3 else 0
def formOfS (e : Ex) : Int := if exF e ≠ 0 then exF e else if e.k = 1 then faultS e.v else 0
theorem form_of0 (e : Ex) (h : e.v.k = 0) : faultS e.v = if formS e.v = false then 3 else 0 := by
  generalize e.v = v at h
  obtain ⟨k, n, s⟩ := v
  simp only at h
  subst h
  by_cases hs : s = []
  · subst hs; by_cases hn : n = 0 <;> simp [faultS, formS, within, ok7, hn]
  · simp [faultS, formS, within, hs]
theorem fault_out (v : Val) (h0 : v.k ≠ 0) (h : within v.k 1 4 = false) : faultS v = 3 := by
  have : within v.k 0 4 = false := by
    refine within_no fun hb => ?_
    have : within v.k 1 4 = true := (wit_iff _ _ _).2 (by omega)
    rw [this] at h; simp at h
  simp [faultS, this]
theorem c_formOf1 (e : Ex) (h1 : e.src.length ≤ 1000000) (h2 : e.nm.length ≤ 1000000) (q : e.k = 1) : R K (.call 156 [.agg (exC e)] []) = some (I (formOfS e), []) := by
  have hra := c_rightArgs e
  rw [exC_eq] at hra
  have ho := c_opName e.op
  have hu := c_usesN e.op
  have hs : (e.src.length + e.nm.length ≤ strMax) = True := eq_true (by unfold strMax; omega)
  have hk : within e.k 1 6 = true := by rw [q]; decide
  by_cases v0 : e.v.k = 0
  · have hf := c_form e.v.k e.v.n e.v.s
    have hq := form_of0 e v0
    have b0 : (e.v.k == 0) = true := by simp [v0]
    cases hff : formS e.v with
    | false =>
      rw [Val.eta, hff] at hf
      rw [hff] at hq
      cases hd : e.d with
      | true =>
        rw [call_156]
        simp -implicitDefEqProofs only [go_sem, simprocAttr, Tryz.f156, exC_eq, c_within, hk, q, bne, hs, hra, b0, hf, hd]
        repeat' ((first | apply split_cond | apply split_yes | apply split_no) <;> intro hc <;> simp -implicitDefEqProofs only [hc, go_sem, simprocAttr, exC_eq, c_within, hk, q, bne, hs, hra, b0, hf, hd])
        all_goals simp_all [formOfS, exF, partBad, nullB, within, bne]
      | false =>
        rw [hd, q] at hra
        rw [call_156]
        simp -implicitDefEqProofs only [go_sem, simprocAttr, Tryz.f156, exC_eq, c_within, hk, q, bne, hs, hra, b0, hf, hd]
        repeat' ((first | apply split_cond | apply split_yes | apply split_no) <;> intro hc <;> simp -implicitDefEqProofs only [hc, go_sem, simprocAttr, exC_eq, c_within, hk, q, bne, hs, hra, b0, hf, hd])
        all_goals simp_all [formOfS, exF, partBad, nullB, within, bne]
    | true =>
      rw [Val.eta, hff] at hf
      rw [hff] at hq
      cases hd : e.d with
      | true =>
        rw [call_156]
        simp -implicitDefEqProofs only [go_sem, simprocAttr, Tryz.f156, exC_eq, c_within, hk, q, bne, hs, hra, b0, hf, hd]
        repeat' ((first | apply split_cond | apply split_yes | apply split_no) <;> intro hc <;> simp -implicitDefEqProofs only [hc, go_sem, simprocAttr, exC_eq, c_within, hk, q, bne, hs, hra, b0, hf, hd])
        all_goals simp_all [formOfS, exF, partBad, nullB, within, bne]
      | false =>
        rw [hd, q] at hra
        rw [call_156]
        simp -implicitDefEqProofs only [go_sem, simprocAttr, Tryz.f156, exC_eq, c_within, hk, q, bne, hs, hra, b0, hf, hd]
        repeat' ((first | apply split_cond | apply split_yes | apply split_no) <;> intro hc <;> simp -implicitDefEqProofs only [hc, go_sem, simprocAttr, exC_eq, c_within, hk, q, bne, hs, hra, b0, hf, hd])
        all_goals simp_all [formOfS, exF, partBad, nullB, within, bne]
  · have b0 : (e.v.k == 0) = false := by simpa using v0
    cases hw : within e.v.k 1 4 with
    | false =>
      have hq := fault_out e.v v0 hw
      cases hd : e.d with
      | true =>
        rw [call_156]
        simp -implicitDefEqProofs only [go_sem, simprocAttr, Tryz.f156, exC_eq, c_within, hk, q, bne, hs, hra, b0, hw, hd]
        repeat' ((first | apply split_cond | apply split_yes | apply split_no) <;> intro hc <;> simp -implicitDefEqProofs only [hc, go_sem, simprocAttr, exC_eq, c_within, hk, q, bne, hs, hra, b0, hw, hd])
        all_goals simp_all [formOfS, exF, partBad, nullB, bne]
      | false =>
        rw [hd, q] at hra
        rw [call_156]
        simp -implicitDefEqProofs only [go_sem, simprocAttr, Tryz.f156, exC_eq, c_within, hk, q, bne, hs, hra, b0, hw, hd]
        repeat' ((first | apply split_cond | apply split_yes | apply split_no) <;> intro hc <;> simp -implicitDefEqProofs only [hc, go_sem, simprocAttr, exC_eq, c_within, hk, q, bne, hs, hra, b0, hw, hd])
        all_goals simp_all [formOfS, exF, partBad, nullB, bne]
    | true =>
      have hch := c_Check e.v.k e.v.n e.v.s hw
      rw [Val.eta] at hch
      cases hd : e.d with
      | true =>
        rw [call_156]
        simp -implicitDefEqProofs only [go_sem, simprocAttr, Tryz.f156, exC_eq, c_within, hk, q, bne, hs, hra, b0, hw, hch, hd]
        repeat' ((first | apply split_cond | apply split_yes | apply split_no) <;> intro hc <;> simp -implicitDefEqProofs only [hc, go_sem, simprocAttr, exC_eq, c_within, hk, q, bne, hs, hra, b0, hw, hch, hd])
        all_goals simp_all [formOfS, exF, partBad, nullB, bne]
      | false =>
        rw [hd, q] at hra
        rw [call_156]
        simp -implicitDefEqProofs only [go_sem, simprocAttr, Tryz.f156, exC_eq, c_within, hk, q, bne, hs, hra, b0, hw, hch, hd]
        repeat' ((first | apply split_cond | apply split_yes | apply split_no) <;> intro hc <;> simp -implicitDefEqProofs only [hc, go_sem, simprocAttr, exC_eq, c_within, hk, q, bne, hs, hra, b0, hw, hch, hd])
        all_goals simp_all [formOfS, exF, partBad, nullB, bne]
theorem c_formOf2 (e : Ex) (h1 : e.src.length ≤ 1000000) (h2 : e.nm.length ≤ 1000000) (q : e.k = 2) : R K (.call 156 [.agg (exC e)] []) = some (I (formOfS e), []) := by
  have hra := c_rightArgs e
  rw [exC_eq] at hra
  have ho := c_opName e.op
  have hu := c_usesN e.op
  have hs : (e.src.length + e.nm.length ≤ strMax) = True := eq_true (by unfold strMax; omega)
  have hk : within e.k 1 6 = true := by rw [q]; decide
  cases hd : e.d with
  | true =>
    rw [call_156]
    simp -implicitDefEqProofs only [go_sem, simprocAttr, Tryz.f156, exC_eq, c_within, hk, q, bne, hs, hu, hra, hd]
    repeat' ((first | apply split_cond | apply split_yes | apply split_no) <;> intro hc <;> simp -implicitDefEqProofs only [hc, go_sem, simprocAttr, exC_eq, c_within, hk, q, bne, hs, hu, hra, hd])
    all_goals simp_all [formOfS, exF, partBad, nullB, within, bne]
  | false =>
    rw [hd, q] at hra
    rw [call_156]
    simp -implicitDefEqProofs only [go_sem, simprocAttr, Tryz.f156, exC_eq, c_within, hk, q, bne, hs, hu, hra, hd]
    repeat' ((first | apply split_cond | apply split_yes | apply split_no) <;> intro hc <;> simp -implicitDefEqProofs only [hc, go_sem, simprocAttr, exC_eq, c_within, hk, q, bne, hs, hu, hra, hd])
    all_goals simp_all [formOfS, exF, partBad, nullB, within, bne]
theorem c_formOf3 (e : Ex) (h1 : e.src.length ≤ 1000000) (h2 : e.nm.length ≤ 1000000) (q : e.k = 3) : R K (.call 156 [.agg (exC e)] []) = some (I (formOfS e), []) := by
  have hra := c_rightArgs e
  rw [exC_eq] at hra
  have ho := c_opName e.op
  have hu := c_usesN e.op
  have hs : (e.src.length + e.nm.length ≤ strMax) = True := eq_true (by unfold strMax; omega)
  have hk : within e.k 1 6 = true := by rw [q]; decide
  cases hd : e.d with
  | true =>
    rw [call_156]
    simp -implicitDefEqProofs only [go_sem, simprocAttr, Tryz.f156, exC_eq, c_within, hk, q, bne, hs, hu, hra, hd]
    repeat' ((first | apply split_cond | apply split_yes | apply split_no) <;> intro hc <;> simp -implicitDefEqProofs only [hc, go_sem, simprocAttr, exC_eq, c_within, hk, q, bne, hs, hu, hra, hd])
    all_goals simp_all [formOfS, exF, partBad, nullB, within, bne]
  | false =>
    rw [hd, q] at hra
    rw [call_156]
    simp -implicitDefEqProofs only [go_sem, simprocAttr, Tryz.f156, exC_eq, c_within, hk, q, bne, hs, hu, hra, hd]
    repeat' ((first | apply split_cond | apply split_yes | apply split_no) <;> intro hc <;> simp -implicitDefEqProofs only [hc, go_sem, simprocAttr, exC_eq, c_within, hk, q, bne, hs, hu, hra, hd])
    all_goals simp_all [formOfS, exF, partBad, nullB, within, bne]
theorem c_formOf4 (e : Ex) (h1 : e.src.length ≤ 1000000) (h2 : e.nm.length ≤ 1000000) (q : e.k = 4) : R K (.call 156 [.agg (exC e)] []) = some (I (formOfS e), []) := by
  have hra := c_rightArgs e
  rw [exC_eq] at hra
  have ho := c_opName e.op
  have hu := c_usesN e.op
  have hs : (e.src.length + e.nm.length ≤ strMax) = True := eq_true (by unfold strMax; omega)
  have hk : within e.k 1 6 = true := by rw [q]; decide
  cases hw : within e.op 1 27 with
  | false =>
    have e1 : opNameS e.op = [] := by unfold opNameS; rw [if_neg (by rw [hw]; simp)]
    rw [e1] at ho
    cases hd : e.d with
    | true =>
      rw [call_156]
      simp -implicitDefEqProofs only [go_sem, simprocAttr, Tryz.f156, exC_eq, c_within, hk, q, bne, hs, hu, hra, ho, hd]
      repeat' ((first | apply split_cond | apply split_yes | apply split_no) <;> intro hc <;> simp -implicitDefEqProofs only [hc, go_sem, simprocAttr, exC_eq, c_within, hk, q, bne, hs, hu, hra, ho, hd])
      all_goals simp_all [formOfS, exF, partBad, nullB, bne]
    | false =>
      rw [hd, q] at hra
      rw [call_156]
      simp -implicitDefEqProofs only [go_sem, simprocAttr, Tryz.f156, exC_eq, c_within, hk, q, bne, hs, hu, hra, ho, hd]
      repeat' ((first | apply split_cond | apply split_yes | apply split_no) <;> intro hc <;> simp -implicitDefEqProofs only [hc, go_sem, simprocAttr, exC_eq, c_within, hk, q, bne, hs, hu, hra, ho, hd])
      all_goals simp_all [formOfS, exF, partBad, nullB, bne]
  | true =>
    have e1 : (opNameS e.op == []) = false := by simpa using opName_ne hw
    cases hd : e.d with
    | true =>
      rw [call_156]
      simp -implicitDefEqProofs only [go_sem, simprocAttr, Tryz.f156, exC_eq, c_within, hk, q, bne, hs, hu, hra, ho, e1, hd]
      repeat' ((first | apply split_cond | apply split_yes | apply split_no) <;> intro hc <;> simp -implicitDefEqProofs only [hc, go_sem, simprocAttr, exC_eq, c_within, hk, q, bne, hs, hu, hra, ho, e1, hd])
      all_goals simp_all [formOfS, exF, partBad, nullB, bne]
    | false =>
      rw [hd, q] at hra
      rw [call_156]
      simp -implicitDefEqProofs only [go_sem, simprocAttr, Tryz.f156, exC_eq, c_within, hk, q, bne, hs, hu, hra, ho, e1, hd]
      repeat' ((first | apply split_cond | apply split_yes | apply split_no) <;> intro hc <;> simp -implicitDefEqProofs only [hc, go_sem, simprocAttr, exC_eq, c_within, hk, q, bne, hs, hu, hra, ho, e1, hd])
      all_goals simp_all [formOfS, exF, partBad, nullB, bne]
theorem c_formOf5 (e : Ex) (h1 : e.src.length ≤ 1000000) (h2 : e.nm.length ≤ 1000000) (q : e.k = 5) : R K (.call 156 [.agg (exC e)] []) = some (I (formOfS e), []) := by
  have hra := c_rightArgs e
  rw [exC_eq] at hra
  have ho := c_opName e.op
  have hu := c_usesN e.op
  have hs : (e.src.length + e.nm.length ≤ strMax) = True := eq_true (by unfold strMax; omega)
  have hk : within e.k 1 6 = true := by rw [q]; decide
  cases hd : e.d with
  | true =>
    rw [call_156]
    simp -implicitDefEqProofs only [go_sem, simprocAttr, Tryz.f156, exC_eq, c_within, hk, q, bne, hs, hu, hra, hd]
    repeat' ((first | apply split_cond | apply split_yes | apply split_no) <;> intro hc <;> simp -implicitDefEqProofs only [hc, go_sem, simprocAttr, exC_eq, c_within, hk, q, bne, hs, hu, hra, hd])
    all_goals simp_all [formOfS, exF, partBad, nullB, within, bne]
  | false =>
    rw [hd, q] at hra
    rw [call_156]
    simp -implicitDefEqProofs only [go_sem, simprocAttr, Tryz.f156, exC_eq, c_within, hk, q, bne, hs, hu, hra, hd]
    repeat' ((first | apply split_cond | apply split_yes | apply split_no) <;> intro hc <;> simp -implicitDefEqProofs only [hc, go_sem, simprocAttr, exC_eq, c_within, hk, q, bne, hs, hu, hra, hd])
    all_goals simp_all [formOfS, exF, partBad, nullB, within, bne]
theorem c_formOf6 (e : Ex) (h1 : e.src.length ≤ 1000000) (h2 : e.nm.length ≤ 1000000) (q : e.k = 6) : R K (.call 156 [.agg (exC e)] []) = some (I (formOfS e), []) := by
  have hra := c_rightArgs e
  rw [exC_eq] at hra
  have ho := c_opName e.op
  have hu := c_usesN e.op
  have hs : (e.src.length + e.nm.length ≤ strMax) = True := eq_true (by unfold strMax; omega)
  have hk : within e.k 1 6 = true := by rw [q]; decide
  cases hd : e.d with
  | true =>
    rw [call_156]
    simp -implicitDefEqProofs only [go_sem, simprocAttr, Tryz.f156, exC_eq, c_within, hk, q, bne, hs, hu, hra, hd]
    repeat' ((first | apply split_cond | apply split_yes | apply split_no) <;> intro hc <;> simp -implicitDefEqProofs only [hc, go_sem, simprocAttr, exC_eq, c_within, hk, q, bne, hs, hu, hra, hd])
    all_goals simp_all [formOfS, exF, partBad, nullB, within, bne]
  | false =>
    rw [hd, q] at hra
    rw [call_156]
    simp -implicitDefEqProofs only [go_sem, simprocAttr, Tryz.f156, exC_eq, c_within, hk, q, bne, hs, hu, hra, hd]
    repeat' ((first | apply split_cond | apply split_yes | apply split_no) <;> intro hc <;> simp -implicitDefEqProofs only [hc, go_sem, simprocAttr, exC_eq, c_within, hk, q, bne, hs, hu, hra, hd])
    all_goals simp_all [formOfS, exF, partBad, nullB, within, bne]
theorem c_formOf (e : Ex) (h1 : e.src.length ≤ 1000000) (h2 : e.nm.length ≤ 1000000) : R K (.call 156 [.agg (exC e)] []) = some (I (formOfS e), []) := by
  by_cases hk : within e.k 1 6 = false
  · have e1 : formOfS e = 4 := by simp [formOfS, exF, hk]
    rw [e1]
    rw [call_156]
    simp -implicitDefEqProofs only [go_sem, simprocAttr, Tryz.f156, exC_eq, c_within, hk]
  have hk : within e.k 1 6 = true := by simpa using hk
  have hb := (wit_iff e.k 1 6).1 hk
  have hc6 : e.k = 1 ∨ e.k = 2 ∨ e.k = 3 ∨ e.k = 4 ∨ e.k = 5 ∨ e.k = 6 := by omega
  rcases hc6 with q | q | q | q | q | q
  · exact c_formOf1 e h1 h2 q
  · exact c_formOf2 e h1 h2 q
  · exact c_formOf3 e h1 h2 q
  · exact c_formOf4 e h1 h2 q
  · exact c_formOf5 e h1 h2 q
  · exact c_formOf6 e h1 h2 q
attribute [go_sem] List.append_eq
theorem r_has (fs c : List UInt8) (h : fs.length ≤ 100) : R K (.call 270 [.str c, .ptr 0 0] [.cells [.str fs]]) = some (.bool (Lib.contains fs c), [.cells [.str fs]]) := by
  have p : R K (.call 271 [.str fs, .str c] []) = some (.bool (Lib.contains fs c), []) := R_prim (by
    show (if decide (fs.length < 4294967281) = true then some (AV.bool (Lib.contains fs c)) else none) = _
    exact if_pos (decide_eq_true (by omega)))
  rw [call_270]
  simp -implicitDefEqProofs only [go_sem, simprocAttr, Tryz.f270, p]
def onlyB (o n v c a : Bool) (e : Ex) : Bool := (o || e.op == 0) && ((n || e.n == 0) && ((v || nullB e.v) && ((c || (e.src == [] && e.nm == [])) && (!e.d && (a || ((e.args.length : Int) == 0))))))
theorem r_only_v (e : Ex) : R K (.call 219 [.agg (exC e), .str [118]] []) = some (.bool (onlyB false false true false false e), []) := by
  have zo := r_has [118] [111] (by decide)
  rw [show Lib.contains [118] [111] = false from by decide] at zo
  have zn := r_has [118] [110] (by decide)
  rw [show Lib.contains [118] [110] = false from by decide] at zn
  have zv := r_has [118] [118] (by decide)
  rw [show Lib.contains [118] [118] = true from by decide] at zv
  have zc := r_has [118] [99] (by decide)
  rw [show Lib.contains [118] [99] = false from by decide] at zc
  have zd := r_has [118] [100] (by decide)
  rw [show Lib.contains [118] [100] = false from by decide] at zd
  have za := r_has [118] [97] (by decide)
  rw [show Lib.contains [118] [97] = false from by decide] at za
  have zs := r_has [118] [115] (by decide)
  rw [show Lib.contains [118] [115] = false from by decide] at zs
  have zg := r_has [118] [103] (by decide)
  rw [show Lib.contains [118] [103] = false from by decide] at zg
  have zr := r_has [118] [114] (by decide)
  rw [show Lib.contains [118] [114] = false from by decide] at zr
  cases hd2 : e.d with
  | true =>
    rw [call_219]
    simp -implicitDefEqProofs only [go_sem, simprocAttr, Tryz.f219, exC_eq, exR_len, hd2, zo, zn, zv, zc, zd, za, zs, zg, zr]
    repeat' ((first | apply split_cond | apply split_yes | apply split_no) <;> intro hc <;> simp -implicitDefEqProofs only [hc, go_sem, simprocAttr, exC_eq, exR_len, hd2, zo, zn, zv, zc, zd, za, zs, zg, zr])
    all_goals simp_all [onlyB, nullB]
  | false =>
    rw [call_219]
    simp -implicitDefEqProofs only [go_sem, simprocAttr, Tryz.f219, exC_eq, exR_len, hd2, zo, zn, zv, zc, zd, za, zs, zg, zr]
    repeat' ((first | apply split_cond | apply split_yes | apply split_no) <;> intro hc <;> simp -implicitDefEqProofs only [hc, go_sem, simprocAttr, exC_eq, exR_len, hd2, zo, zn, zv, zc, zd, za, zs, zg, zr])
    all_goals simp_all [onlyB, nullB]
theorem r_only_n (e : Ex) : R K (.call 219 [.agg (exC e), .str [110]] []) = some (.bool (onlyB false true false false false e), []) := by
  have zo := r_has [110] [111] (by decide)
  rw [show Lib.contains [110] [111] = false from by decide] at zo
  have zn := r_has [110] [110] (by decide)
  rw [show Lib.contains [110] [110] = true from by decide] at zn
  have zv := r_has [110] [118] (by decide)
  rw [show Lib.contains [110] [118] = false from by decide] at zv
  have zc := r_has [110] [99] (by decide)
  rw [show Lib.contains [110] [99] = false from by decide] at zc
  have zd := r_has [110] [100] (by decide)
  rw [show Lib.contains [110] [100] = false from by decide] at zd
  have za := r_has [110] [97] (by decide)
  rw [show Lib.contains [110] [97] = false from by decide] at za
  have zs := r_has [110] [115] (by decide)
  rw [show Lib.contains [110] [115] = false from by decide] at zs
  have zg := r_has [110] [103] (by decide)
  rw [show Lib.contains [110] [103] = false from by decide] at zg
  have zr := r_has [110] [114] (by decide)
  rw [show Lib.contains [110] [114] = false from by decide] at zr
  cases hd2 : e.d with
  | true =>
    rw [call_219]
    simp -implicitDefEqProofs only [go_sem, simprocAttr, Tryz.f219, exC_eq, exR_len, hd2, zo, zn, zv, zc, zd, za, zs, zg, zr]
    repeat' ((first | apply split_cond | apply split_yes | apply split_no) <;> intro hc <;> simp -implicitDefEqProofs only [hc, go_sem, simprocAttr, exC_eq, exR_len, hd2, zo, zn, zv, zc, zd, za, zs, zg, zr])
    all_goals simp_all [onlyB, nullB]
  | false =>
    rw [call_219]
    simp -implicitDefEqProofs only [go_sem, simprocAttr, Tryz.f219, exC_eq, exR_len, hd2, zo, zn, zv, zc, zd, za, zs, zg, zr]
    repeat' ((first | apply split_cond | apply split_yes | apply split_no) <;> intro hc <;> simp -implicitDefEqProofs only [hc, go_sem, simprocAttr, exC_eq, exR_len, hd2, zo, zn, zv, zc, zd, za, zs, zg, zr])
    all_goals simp_all [onlyB, nullB]
theorem r_only_c (e : Ex) : R K (.call 219 [.agg (exC e), .str [99]] []) = some (.bool (onlyB false false false true false e), []) := by
  have zo := r_has [99] [111] (by decide)
  rw [show Lib.contains [99] [111] = false from by decide] at zo
  have zn := r_has [99] [110] (by decide)
  rw [show Lib.contains [99] [110] = false from by decide] at zn
  have zv := r_has [99] [118] (by decide)
  rw [show Lib.contains [99] [118] = false from by decide] at zv
  have zc := r_has [99] [99] (by decide)
  rw [show Lib.contains [99] [99] = true from by decide] at zc
  have zd := r_has [99] [100] (by decide)
  rw [show Lib.contains [99] [100] = false from by decide] at zd
  have za := r_has [99] [97] (by decide)
  rw [show Lib.contains [99] [97] = false from by decide] at za
  have zs := r_has [99] [115] (by decide)
  rw [show Lib.contains [99] [115] = false from by decide] at zs
  have zg := r_has [99] [103] (by decide)
  rw [show Lib.contains [99] [103] = false from by decide] at zg
  have zr := r_has [99] [114] (by decide)
  rw [show Lib.contains [99] [114] = false from by decide] at zr
  cases hd2 : e.d with
  | true =>
    rw [call_219]
    simp -implicitDefEqProofs only [go_sem, simprocAttr, Tryz.f219, exC_eq, exR_len, hd2, zo, zn, zv, zc, zd, za, zs, zg, zr]
    repeat' ((first | apply split_cond | apply split_yes | apply split_no) <;> intro hc <;> simp -implicitDefEqProofs only [hc, go_sem, simprocAttr, exC_eq, exR_len, hd2, zo, zn, zv, zc, zd, za, zs, zg, zr])
    all_goals simp_all [onlyB, nullB]
  | false =>
    rw [call_219]
    simp -implicitDefEqProofs only [go_sem, simprocAttr, Tryz.f219, exC_eq, exR_len, hd2, zo, zn, zv, zc, zd, za, zs, zg, zr]
    repeat' ((first | apply split_cond | apply split_yes | apply split_no) <;> intro hc <;> simp -implicitDefEqProofs only [hc, go_sem, simprocAttr, exC_eq, exR_len, hd2, zo, zn, zv, zc, zd, za, zs, zg, zr])
    all_goals simp_all [onlyB, nullB]
theorem r_only_a (e : Ex) : R K (.call 219 [.agg (exC e), .str [97]] []) = some (.bool (onlyB false false false false true e), []) := by
  have zo := r_has [97] [111] (by decide)
  rw [show Lib.contains [97] [111] = false from by decide] at zo
  have zn := r_has [97] [110] (by decide)
  rw [show Lib.contains [97] [110] = false from by decide] at zn
  have zv := r_has [97] [118] (by decide)
  rw [show Lib.contains [97] [118] = false from by decide] at zv
  have zc := r_has [97] [99] (by decide)
  rw [show Lib.contains [97] [99] = false from by decide] at zc
  have zd := r_has [97] [100] (by decide)
  rw [show Lib.contains [97] [100] = false from by decide] at zd
  have za := r_has [97] [97] (by decide)
  rw [show Lib.contains [97] [97] = true from by decide] at za
  have zs := r_has [97] [115] (by decide)
  rw [show Lib.contains [97] [115] = false from by decide] at zs
  have zg := r_has [97] [103] (by decide)
  rw [show Lib.contains [97] [103] = false from by decide] at zg
  have zr := r_has [97] [114] (by decide)
  rw [show Lib.contains [97] [114] = false from by decide] at zr
  cases hd2 : e.d with
  | true =>
    rw [call_219]
    simp -implicitDefEqProofs only [go_sem, simprocAttr, Tryz.f219, exC_eq, exR_len, hd2, zo, zn, zv, zc, zd, za, zs, zg, zr]
    repeat' ((first | apply split_cond | apply split_yes | apply split_no) <;> intro hc <;> simp -implicitDefEqProofs only [hc, go_sem, simprocAttr, exC_eq, exR_len, hd2, zo, zn, zv, zc, zd, za, zs, zg, zr])
    all_goals simp_all [onlyB, nullB]
  | false =>
    rw [call_219]
    simp -implicitDefEqProofs only [go_sem, simprocAttr, Tryz.f219, exC_eq, exR_len, hd2, zo, zn, zv, zc, zd, za, zs, zg, zr]
    repeat' ((first | apply split_cond | apply split_yes | apply split_no) <;> intro hc <;> simp -implicitDefEqProofs only [hc, go_sem, simprocAttr, exC_eq, exR_len, hd2, zo, zn, zv, zc, zd, za, zs, zg, zr])
    all_goals simp_all [onlyB, nullB]
theorem r_only_oa (e : Ex) : R K (.call 219 [.agg (exC e), .str [111, 97]] []) = some (.bool (onlyB true false false false true e), []) := by
  have zo := r_has [111, 97] [111] (by decide)
  rw [show Lib.contains [111, 97] [111] = true from by decide] at zo
  have zn := r_has [111, 97] [110] (by decide)
  rw [show Lib.contains [111, 97] [110] = false from by decide] at zn
  have zv := r_has [111, 97] [118] (by decide)
  rw [show Lib.contains [111, 97] [118] = false from by decide] at zv
  have zc := r_has [111, 97] [99] (by decide)
  rw [show Lib.contains [111, 97] [99] = false from by decide] at zc
  have zd := r_has [111, 97] [100] (by decide)
  rw [show Lib.contains [111, 97] [100] = false from by decide] at zd
  have za := r_has [111, 97] [97] (by decide)
  rw [show Lib.contains [111, 97] [97] = true from by decide] at za
  have zs := r_has [111, 97] [115] (by decide)
  rw [show Lib.contains [111, 97] [115] = false from by decide] at zs
  have zg := r_has [111, 97] [103] (by decide)
  rw [show Lib.contains [111, 97] [103] = false from by decide] at zg
  have zr := r_has [111, 97] [114] (by decide)
  rw [show Lib.contains [111, 97] [114] = false from by decide] at zr
  cases hd2 : e.d with
  | true =>
    rw [call_219]
    simp -implicitDefEqProofs only [go_sem, simprocAttr, Tryz.f219, exC_eq, exR_len, hd2, zo, zn, zv, zc, zd, za, zs, zg, zr]
    repeat' ((first | apply split_cond | apply split_yes | apply split_no) <;> intro hc <;> simp -implicitDefEqProofs only [hc, go_sem, simprocAttr, exC_eq, exR_len, hd2, zo, zn, zv, zc, zd, za, zs, zg, zr])
    all_goals simp_all [onlyB, nullB]
  | false =>
    rw [call_219]
    simp -implicitDefEqProofs only [go_sem, simprocAttr, Tryz.f219, exC_eq, exR_len, hd2, zo, zn, zv, zc, zd, za, zs, zg, zr]
    repeat' ((first | apply split_cond | apply split_yes | apply split_no) <;> intro hc <;> simp -implicitDefEqProofs only [hc, go_sem, simprocAttr, exC_eq, exR_len, hd2, zo, zn, zv, zc, zd, za, zs, zg, zr])
    all_goals simp_all [onlyB, nullB]
theorem r_only_ona (e : Ex) : R K (.call 219 [.agg (exC e), .str [111, 110, 97]] []) = some (.bool (onlyB true true false false true e), []) := by
  have zo := r_has [111, 110, 97] [111] (by decide)
  rw [show Lib.contains [111, 110, 97] [111] = true from by decide] at zo
  have zn := r_has [111, 110, 97] [110] (by decide)
  rw [show Lib.contains [111, 110, 97] [110] = true from by decide] at zn
  have zv := r_has [111, 110, 97] [118] (by decide)
  rw [show Lib.contains [111, 110, 97] [118] = false from by decide] at zv
  have zc := r_has [111, 110, 97] [99] (by decide)
  rw [show Lib.contains [111, 110, 97] [99] = false from by decide] at zc
  have zd := r_has [111, 110, 97] [100] (by decide)
  rw [show Lib.contains [111, 110, 97] [100] = false from by decide] at zd
  have za := r_has [111, 110, 97] [97] (by decide)
  rw [show Lib.contains [111, 110, 97] [97] = true from by decide] at za
  have zs := r_has [111, 110, 97] [115] (by decide)
  rw [show Lib.contains [111, 110, 97] [115] = false from by decide] at zs
  have zg := r_has [111, 110, 97] [103] (by decide)
  rw [show Lib.contains [111, 110, 97] [103] = false from by decide] at zg
  have zr := r_has [111, 110, 97] [114] (by decide)
  rw [show Lib.contains [111, 110, 97] [114] = false from by decide] at zr
  cases hd2 : e.d with
  | true =>
    rw [call_219]
    simp -implicitDefEqProofs only [go_sem, simprocAttr, Tryz.f219, exC_eq, exR_len, hd2, zo, zn, zv, zc, zd, za, zs, zg, zr]
    repeat' ((first | apply split_cond | apply split_yes | apply split_no) <;> intro hc <;> simp -implicitDefEqProofs only [hc, go_sem, simprocAttr, exC_eq, exR_len, hd2, zo, zn, zv, zc, zd, za, zs, zg, zr])
    all_goals simp_all [onlyB, nullB]
  | false =>
    rw [call_219]
    simp -implicitDefEqProofs only [go_sem, simprocAttr, Tryz.f219, exC_eq, exR_len, hd2, zo, zn, zv, zc, zd, za, zs, zg, zr]
    repeat' ((first | apply split_cond | apply split_yes | apply split_no) <;> intro hc <;> simp -implicitDefEqProofs only [hc, go_sem, simprocAttr, exC_eq, exR_len, hd2, zo, zn, zv, zc, zd, za, zs, zg, zr])
    all_goals simp_all [onlyB, nullB]
def argsLo (op : Int) : Int := if op = 24 then 2 else if op = 23 then 3 else if op = 1 ∨ op = 11 ∨ op = 17 ∨ 20 ≤ op then 1 else 2
def argsHi (op : Int) : Int := if op = 24 then 1152921504606846976 else if op = 23 then 3 else if op = 1 ∨ op = 11 ∨ op = 17 ∨ 20 ≤ op then 1 else 2
theorem r_ArgsOf (op : Int) : R K (.call 220 [I op] []) = some (.tup [I (argsLo op), I (argsHi op)], []) := by
  rw [call_220]
  simp -implicitDefEqProofs only [go_sem, simprocAttr, Tryz.f220]
  repeat' ((first | apply split_cond | apply split_yes | apply split_no) <;> intro hc <;> simp -implicitDefEqProofs only [hc, go_sem, simprocAttr])
  all_goals (simp only [beq_iff_eq, beq_eq_false_iff_ne, decide_eq_true_eq, decide_eq_false_iff_not] at *; simp_all [argsLo, argsHi])
theorem r_numbered (op : Int) : R K (.call 175 [I op] []) = some (.bool (decide (25 ≤ op)), []) := by
  rw [call_175]
  simp -implicitDefEqProofs only [go_sem, simprocAttr, Tryz.f175]
theorem args_eq (op len : Int) (hw : within op 1 27 = true) (h : len ≤ 1000000) : within len (argsLo op) (argsHi op) = argsOk 4 op len := by
  have hb := (wit_iff op 1 27).1 hw
  have hc : op = 24 ∨ op = 23 ∨ (op = 1 ∨ op = 11 ∨ op = 17 ∨ 20 ≤ op ∧ op ≤ 22 ∨ 25 ≤ op) ∨ (op ≠ 24 ∧ op ≠ 23 ∧ ¬(op = 1 ∨ op = 11 ∨ op = 17 ∨ 20 ≤ op)) := by omega
  rw [Bool.eq_iff_iff, wit_iff]
  unfold argsOk
  rw [if_pos rfl]
  rcases hc with rfl | rfl | hc | hc
  · simp [argsLo, argsHi, arityS]; omega
  · simp [argsLo, argsHi, arityS]; omega
  · have e1 : arityS op = 1 := by unfold arityS; rw [if_pos (by omega)]
    have e2 : argsLo op = 1 := by unfold argsLo; rw [if_neg (by omega), if_neg (by omega), if_pos (by omega)]
    have e3 : argsHi op = 1 := by unfold argsHi; rw [if_neg (by omega), if_neg (by omega), if_pos (by omega)]
    rw [e1, e2, e3]; simp; omega
  · have e1 : arityS op = 2 := by unfold arityS; rw [if_neg (by omega), if_neg (by omega), if_neg (by omega)]
    have e2 : argsLo op = 2 := by unfold argsLo; rw [if_neg (by omega), if_neg (by omega), if_neg (by omega)]
    have e3 : argsHi op = 2 := by unfold argsHi; rw [if_neg (by omega), if_neg (by omega), if_neg (by omega)]
    rw [e1, e2, e3]; simp; omega
theorem app_nil (a b : List UInt8) : (a ++ b == []) = (a == [] && b == []) := by cases a <;> cases b <;> rfl
theorem r_form1 (e : Ex) (q : e.k = 1) : R K (.call 165 [.agg (exC e)] []) = some (I (exF e), []) := by
  have ho := r_only_v e
  rw [exC_eq, q] at ho
  have hk : within 1 1 6 = true := by decide
  have hw : within e.k 1 6 = true := by rw [q]; decide
  have hw' : within 1 1 6 = true := by decide
  cases hx : onlyB false false true false false e with
  | true =>
    rw [hx] at ho
    rw [call_165]
    simp -implicitDefEqProofs only [go_sem, simprocAttr, Tryz.f165, exC_eq, exR_len, r_within, q, hw', ho]
    all_goals simp_all [exF, partBad, argsOk, onlyB, app_nil, bne]
  | false =>
    rw [hx] at ho
    rw [call_165]
    simp -implicitDefEqProofs only [go_sem, simprocAttr, Tryz.f165, exC_eq, exR_len, r_within, q, hw', ho]
    all_goals simp_all [exF, partBad, argsOk, onlyB, app_nil, bne]
theorem r_form2 (e : Ex) (q : e.k = 2) : R K (.call 165 [.agg (exC e)] []) = some (I (exF e), []) := by
  have ho := r_only_n e
  rw [exC_eq, q] at ho
  have hk : within 1 1 6 = true := by decide
  have hw : within e.k 1 6 = true := by rw [q]; decide
  have hw' : within 2 1 6 = true := by decide
  cases hx : onlyB false true false false false e with
  | true =>
    rw [hx] at ho
    rw [call_165]
    simp -implicitDefEqProofs only [go_sem, simprocAttr, Tryz.f165, exC_eq, exR_len, r_within, q, hw', ho]
    all_goals simp_all [exF, partBad, argsOk, onlyB, app_nil, bne]
  | false =>
    rw [hx] at ho
    rw [call_165]
    simp -implicitDefEqProofs only [go_sem, simprocAttr, Tryz.f165, exC_eq, exR_len, r_within, q, hw', ho]
    all_goals simp_all [exF, partBad, argsOk, onlyB, app_nil, bne]
theorem r_form3 (e : Ex) (q : e.k = 3) : R K (.call 165 [.agg (exC e)] []) = some (I (exF e), []) := by
  have ho := r_only_c e
  rw [exC_eq, q] at ho
  have hk : within 1 1 6 = true := by decide
  have hw : within e.k 1 6 = true := by rw [q]; decide
  have hw' : within 3 1 6 = true := by decide
  cases hx : onlyB false false false true false e with
  | true =>
    rw [hx] at ho
    rw [call_165]
    simp -implicitDefEqProofs only [go_sem, simprocAttr, Tryz.f165, exC_eq, exR_len, r_within, q, hw', ho]
    all_goals simp_all [exF, partBad, argsOk, onlyB, app_nil, bne]
  | false =>
    rw [hx] at ho
    rw [call_165]
    simp -implicitDefEqProofs only [go_sem, simprocAttr, Tryz.f165, exC_eq, exR_len, r_within, q, hw', ho]
    all_goals simp_all [exF, partBad, argsOk, onlyB, app_nil, bne]
theorem r_form5 (e : Ex) (q : e.k = 5) : R K (.call 165 [.agg (exC e)] []) = some (I (exF e), []) := by
  have ho := r_only_a e
  rw [exC_eq, q] at ho
  have hk : within 1 1 6 = true := by decide
  have hw : within e.k 1 6 = true := by rw [q]; decide
  have hw' : within 5 1 6 = true := by decide
  have hne : (e.args.length : Int) = 0 → ¬ ((3 : Int) ≤ e.args.length) := by omega
  cases hx : onlyB false false false false true e with
  | true =>
    rw [hx] at ho
    rw [call_165]
    simp -implicitDefEqProofs only [go_sem, simprocAttr, Tryz.f165, exC_eq, exR_len, r_within, q, hw', ho]
    repeat' ((first | apply split_cond | apply split_yes | apply split_no) <;> intro hc <;> simp -implicitDefEqProofs only [hc, go_sem, simprocAttr, exC_eq, exR_len, r_within, q, hw', ho])
    all_goals simp_all [exF, partBad, argsOk, onlyB, app_nil, bne]
  | false =>
    rw [hx] at ho
    rw [call_165]
    simp -implicitDefEqProofs only [go_sem, simprocAttr, Tryz.f165, exC_eq, exR_len, r_within, q, hw', ho]
    all_goals simp_all [exF, partBad, argsOk, onlyB, app_nil, bne]
theorem r_form6 (e : Ex) (q : e.k = 6) : R K (.call 165 [.agg (exC e)] []) = some (I (exF e), []) := by
  have ho := r_only_a e
  rw [exC_eq, q] at ho
  have hk : within 1 1 6 = true := by decide
  have hw : within e.k 1 6 = true := by rw [q]; decide
  have hw' : within 6 1 6 = true := by decide
  have hne : (e.args.length : Int) = 0 → ¬ ((2 : Int) ≤ e.args.length) := by omega
  cases hx : onlyB false false false false true e with
  | true =>
    rw [hx] at ho
    rw [call_165]
    simp -implicitDefEqProofs only [go_sem, simprocAttr, Tryz.f165, exC_eq, exR_len, r_within, q, hw', ho]
    repeat' ((first | apply split_cond | apply split_yes | apply split_no) <;> intro hc <;> simp -implicitDefEqProofs only [hc, go_sem, simprocAttr, exC_eq, exR_len, r_within, q, hw', ho])
    all_goals simp_all [exF, partBad, argsOk, onlyB, app_nil, bne]
  | false =>
    rw [hx] at ho
    rw [call_165]
    simp -implicitDefEqProofs only [go_sem, simprocAttr, Tryz.f165, exC_eq, exR_len, r_within, q, hw', ho]
    all_goals simp_all [exF, partBad, argsOk, onlyB, app_nil, bne]
theorem r_form4 (e : Ex) (q : e.k = 4) (hl : (e.args.length : Int) ≤ 1000000) : R K (.call 165 [.agg (exC e)] []) = some (I (exF e), []) := by
  have ho := r_only_oa e
  have hn := r_only_ona e
  have ha := r_ArgsOf e.op
  have hu := r_numbered e.op
  rw [exC_eq, q] at ho hn
  have hw : within e.k 1 6 = true := by rw [q]; decide
  have hw' : within 4 1 6 = true := by decide
  cases hop : within e.op 1 27 with
  | false =>
    have e1 : exF e = 4 := by simp [exF, q, hop]
    rw [e1]
    rw [call_165]
    simp -implicitDefEqProofs only [go_sem, simprocAttr, Tryz.f165, exC_eq, exR_len, r_within, q, hw', hop]
  | true =>
    have hg := args_eq e.op (e.args.length : Int) hop hl
    have hb := (wit_iff e.op 1 27).1 hop
    have hnn : hasNS e.op = decide (25 ≤ e.op) := by
      rw [Bool.eq_iff_iff, decide_eq_true_eq]; unfold hasNS; rw [wit_iff]; omega
    have e1 : exF e = if partBad e = true then 3 else 0 := by unfold exF; rw [if_neg (by rw [hw, hop]; simp)]
    have e2 : partBad e = !((onlyB true false false false true e || (onlyB true true false false true e && decide (25 ≤ e.op))) && argsOk 4 e.op (e.args.length : Int)) := by
      unfold partBad onlyB
      rw [q, hnn, app_nil]
      simp only [bne]
      generalize decide (25 ≤ e.op) = b1
      generalize e.d = b2
      generalize nullB e.v = b3
      generalize (e.n == 0) = b4
      generalize (e.src == []) = b5
      generalize (e.nm == []) = b6
      generalize argsOk 4 e.op (e.args.length : Int) = b7
      generalize (e.op == 0) = b8
      generalize ((e.args.length : Int) == 0) = b9
      revert b1 b2 b3 b4 b5 b6 b7 b8 b9
      decide
    rw [e1, e2]
    cases hx : onlyB true false false false true e with
    | true =>
      rw [hx] at ho
      cases hz : argsOk 4 e.op (e.args.length : Int) with
      | true =>
        rw [hz] at hg
        rw [call_165]
        simp -implicitDefEqProofs only [go_sem, simprocAttr, Tryz.f165, exC_eq, exR_len, r_within, q, hw', hop, ho, hn, ha, hu, hg]
      | false =>
        rw [hz] at hg
        rw [call_165]
        simp -implicitDefEqProofs only [go_sem, simprocAttr, Tryz.f165, exC_eq, exR_len, r_within, q, hw', hop, ho, hn, ha, hu, hg]
    | false =>
      rw [hx] at ho
      cases hy : onlyB true true false false true e with
      | false =>
        rw [hy] at hn
        rw [call_165]
        simp -implicitDefEqProofs only [go_sem, simprocAttr, Tryz.f165, exC_eq, exR_len, r_within, q, hw', hop, ho, hn, ha, hu, hg]
      | true =>
        rw [hy] at hn
        cases h25 : decide (25 ≤ e.op) with
        | false => 
          rw [h25] at hu
          rw [call_165]
          simp -implicitDefEqProofs only [go_sem, simprocAttr, Tryz.f165, exC_eq, exR_len, r_within, q, hw', hop, ho, hn, ha, hu, hg]
        | true =>
          rw [h25] at hu
          cases hz : argsOk 4 e.op (e.args.length : Int) with
          | true =>
            rw [hz] at hg
            rw [call_165]
            simp -implicitDefEqProofs only [go_sem, simprocAttr, Tryz.f165, exC_eq, exR_len, r_within, q, hw', hop, ho, hn, ha, hu, hg]
          | false =>
            rw [hz] at hg
            rw [call_165]
            simp -implicitDefEqProofs only [go_sem, simprocAttr, Tryz.f165, exC_eq, exR_len, r_within, q, hw', hop, ho, hn, ha, hu, hg]
theorem r_scalarForm (e : Ex) (hl : (e.args.length : Int) ≤ 1000000) : R K (.call 165 [.agg (exC e)] []) = some (I (exF e), []) := by
  by_cases hk : within e.k 1 6 = false
  · have e1 : exF e = 4 := by simp [exF, hk]
    rw [e1]
    rw [call_165]
    simp -implicitDefEqProofs only [go_sem, simprocAttr, Tryz.f165, exC_eq, exR_len, r_within, hk]
  have hk : within e.k 1 6 = true := by simpa using hk
  have hb := (wit_iff e.k 1 6).1 hk
  have hc6 : e.k = 1 ∨ e.k = 2 ∨ e.k = 3 ∨ e.k = 4 ∨ e.k = 5 ∨ e.k = 6 := by omega
  rcases hc6 with q | q | q | q | q | q
  · exact r_form1 e q
  · exact r_form2 e q
  · exact r_form3 e q
  · exact r_form4 e q hl
  · exact r_form5 e q
  · exact r_form6 e q
def findC (s m : List UInt8) : List Cel → Nat → Int
  | [], _ => -1
  | c :: r, i => if c.src = s ∧ c.nm = m then (i : Int) else findC s m r (i + 1)
theorem r_found1 (s m : List UInt8) (c : Cel) : R K (.call 226 [.agg (celC c), .ptr 0 0, .ptr 1 0] [.cells [.str s], .cells [.str m]]) = some (.bool ((c.src == s) && (c.nm == m)), [.cells [.str s], .cells [.str m]]) := by
  cases h : c.src == s with
  | true =>
    rw [call_226]
    simp -implicitDefEqProofs only [go_sem, simprocAttr, Tryz.f226, celC, h]
  | false =>
    rw [call_226]
    simp -implicitDefEqProofs only [go_sem, simprocAttr, Tryz.f226, celC, h]
theorem l_found (s m : List UInt8) (cols : List Cel) (hc : cols.length ≤ 1000000) (ks : List It) : ∀ (q j : Nat) (i : Int) (Bo : Code), Loop Tryz.f225 0 Bo → i = (j : Int) → cols.length = j + q →
   RL K (.run 225 2 (.code Bo :: .lp Bo (some ([0, 1, 7, 8], [])) 2 :: .blk 0 2 :: ks) [(0, colsC cols), (1, .fn 226 [.ptr 0 0, .ptr 1 0]), (7, I (cols.length : Int)), (8, I i)] [.cells [.str s], .cells [.str m]]) =
   if findC s m (cols.drop j) j = -1 then R K (.run 225 2 ks [] [.cells [.str s], .cells [.str m]]) else some (I (findC s m (cols.drop j) j), [.cells [.str s], .cells [.str m]])
  | 0, j, i, Bo, hB, hi, hj => by
    subst hi
    have h1 : decide ((j : Int) < (cols.length : Int)) = false := decide_eq_false (by omega)
    rw [List.drop_of_length_le (by omega)]
    rw [if_pos (show findC s m [] j = -1 from rfl)]
    unfold Loop at hB
    simp -implicitDefEqProofs only [go_sem, simprocAttr, Tryz.f225, loopOf] at hB
    subst hB
    rw [RL_eq]
    simp -implicitDefEqProofs only [go_sem, simprocAttr, h1]
  | q + 1, j, i, Bo, hB, hi, hj => by
    subst hi
    have hB' := hB
    have h1 : decide ((j : Int) < (cols.length : Int)) = true := decide_eq_true (by omega)
    have h7 := next_id (i := j) (n := cols.length) (by omega) (by omega)
    obtain ⟨c, hc'⟩ := some_at (l := cols) (i := j) (by omega)
    have hg := cel_get hc'
    have hx := r_found1 s m c
    rw [drop_get hc']
    have ih := l_found s m cols hc ks q (j + 1) _ Bo hB' rfl (by omega)
    cases hk : ((c.src == s) && (c.nm == m)) with
    | true =>
      rw [hk] at hx
      simp only [Bool.and_eq_true, beq_iff_eq] at hk
      have e1 : findC s m (c :: cols.drop (j + 1)) j = (j : Int) := by unfold findC; rw [if_pos hk]
      rw [e1, if_neg (by omega)]
      unfold Loop at hB
      simp -implicitDefEqProofs only [go_sem, simprocAttr, Tryz.f225, loopOf] at hB
      subst hB
      rw [RL_eq]
      simp only [celC] at hx hg
      simp -implicitDefEqProofs only [go_sem, simprocAttr, h1, h7, hg, hx]
    | false =>
      rw [hk] at hx
      have hk : ¬ (c.src = s ∧ c.nm = m) := by
        intro h; rw [beq_iff_eq.2 h.1, beq_iff_eq.2 h.2] at hk; simp at hk
      have e1 : findC s m (c :: cols.drop (j + 1)) j = findC s m (cols.drop (j + 1)) (j + 1) := by conv => lhs; unfold findC; rw [if_neg hk]
      rw [e1]
      unfold Loop at hB
      simp -implicitDefEqProofs only [go_sem, simprocAttr, Tryz.f225, loopOf] at hB
      subst hB
      rw [RL_eq]
      simp only [celC] at hx hg
      simp -implicitDefEqProofs only [go_sem, simprocAttr, h1, h7, hg, hx]
      rw [ih]
theorem r_found (cols : List Cel) (hc : cols.length ≤ 1000000) (s m : List UInt8) : R K (.call 169 [colsC cols, .str s, .str m] []) = some (I (findC s m cols 0), []) := by
  have hi : R K (.call 225 [colsC cols, .fn 226 [.ptr 0 0, .ptr 1 0]] [.cells [.str s], .cells [.str m]]) = some (I (findC s m cols 0), [.cells [.str s], .cells [.str m]]) := by
    have lk := fun ks B hB => l_found s m cols hc ks cols.length 0 0 B hB rfl (by omega)
    simp only [List.drop_zero] at lk
    rw [call_225]
    simp -implicitDefEqProofs only [go_sem, simprocAttr, Tryz.f225]
    rw [lk _ _ ?_]
    · split
      · rename_i h
        rw [h]
        simp -implicitDefEqProofs only [go_sem, simprocAttr]
      · rfl
    · rfl
  rw [call_169]
  simp -implicitDefEqProofs only [go_sem, simprocAttr, Tryz.f169, hi]
theorem index_hd (c : UInt8) (r : List UInt8) : Lib.index (c :: r) [c] = 0 := by
  unfold Lib.index
  simp
theorem index_tl {b c : UInt8} (h : b ≠ c) (r : List UInt8) : Lib.index (b :: r) [c] = if Lib.index r [c] = -1 then -1 else Lib.index r [c] + 1 := by
  rw [Lib.index]
  have : ([c].isPrefixOf (b :: r)) = false := by simp [List.isPrefixOf]; exact fun e => h e.symm
  simp [this]
theorem index_app {c : UInt8} : ∀ (a r : List UInt8), c ∉ a → Lib.index (a ++ c :: r) [c] = (a.length : Int)
  | [], r, _ => index_hd c r
  | b :: a, r, h => by
    simp only [List.mem_cons, not_or] at h
    rw [List.cons_append, index_tl (fun e => h.1 e.symm), index_app a r h.2, if_neg (by omega)]
    simp
theorem index_out {c : UInt8} : ∀ (a : List UInt8), c ∉ a → Lib.index a [c] = -1
  | [], _ => rfl
  | b :: a, h => by
    simp only [List.mem_cons, not_or] at h
    rw [index_tl (fun e => h.1 e.symm), index_out a h.2, if_pos rfl]
theorem cut_app {c : UInt8} (a r : List UInt8) (h : c ∉ a) : Lib.cut (a ++ c :: r) [c] = (a, r, true) := by
  unfold Lib.cut
  rw [index_app a r h, if_pos (by omega)]
  simp only [Int.toNat_natCast, List.length_cons, List.length_nil, Prod.mk.injEq, and_true]
  refine ⟨List.take_left, ?_⟩
  rw [← List.drop_drop, List.drop_left]
  rfl
theorem cut_out {c : UInt8} (a : List UInt8) (h : c ∉ a) : Lib.cut a [c] = (a, [], false) := by
  unfold Lib.cut
  rw [index_out a h, if_neg (by omega)]
theorem cut_split (c : UInt8) (s : List UInt8) : (∃ a r, c ∉ a ∧ s = a ++ c :: r) ∨ c ∉ s := by
  induction s with
  | nil => exact .inr (by simp)
  | cons b r ih =>
    by_cases h : b = c
    · subst h; exact .inl ⟨[], r, by simp, rfl⟩
    · rcases ih with ⟨a, r', h1, rfl⟩ | h1
      · exact .inl ⟨b :: a, r', by simp only [List.mem_cons, not_or]; exact ⟨fun e => h e.symm, h1⟩, rfl⟩
      · exact .inr (by simp only [List.mem_cons, not_or]; exact ⟨fun e => h e.symm, h1⟩)
def esc : List UInt8 → List UInt8
  | [] => []
  | c :: r => if c = 39 then 39 :: 39 :: esc r else c :: esc r
theorem replK_esc : ∀ (s : List UInt8) (k : Nat), s.count 39 ≤ k → Lib.replaceK [39] [39, 39] k s = esc s
  | [], k, _ => by cases k <;> simp [Lib.replaceK, Lib.index, esc]
  | c :: r, k, h => by
    by_cases hc : c = 39
    · subst hc
      rw [List.count_cons_self] at h
      obtain ⟨k, rfl⟩ : ∃ j, k = j + 1 := ⟨k - 1, by omega⟩
      rw [Lib.replaceK_hit _ _ _ _ 0 (index_hd 39 r), esc, if_pos rfl]
      simp only [List.take_zero, List.nil_append, Nat.zero_add, List.length_cons, List.length_nil, List.drop_succ_cons, List.drop_zero]
      rw [replK_esc r k (by omega)]
      rfl
    · rw [List.count_cons_of_ne hc] at h
      have ih := replK_esc r k h
      rw [esc, if_neg hc, ← ih]
      cases k with
      | zero => rfl
      | succ k =>
        rw [Lib.replaceK, Lib.replaceK, index_tl hc]
        have hg := Lib.index_ge r [39]
        by_cases hm : Lib.index r [39] = -1
        · simp [hm]
        · have e1 : (Lib.index r [39] + 1).toNat = (Lib.index r [39]).toNat + 1 := by omega
          have e2 : (Lib.index r [39] + 1 == -1) = false := by rw [beq_eq_false_iff_ne]; omega
          have e3 : (Lib.index r [39] == -1) = false := by rw [beq_eq_false_iff_ne]; omega
          simp only [if_neg hm, e1, e2, e3, Bool.false_eq_true, if_false, List.take_succ_cons, List.cons_append, Nat.succ_add, List.drop_succ_cons, Nat.add_right_comm _ 1]
theorem count_one : ∀ (f : Nat) (s : List UInt8), s.length < f → Lib.countFrom [39] f s = s.count 39
  | f + 1, [], _ => by simp [Lib.countFrom, Lib.index]
  | f + 1, c :: r, h => by
    simp only [List.length_cons] at h
    by_cases hc : c = 39
    · subst hc
      rw [Lib.countFrom, index_hd, List.count_cons_self]
      simp only [Int.toNat_zero, Nat.zero_add, List.length_cons, List.length_nil, List.drop_succ_cons, List.drop_zero]
      rw [count_one f r (by omega)]
      simp; omega
    · have ih := count_one (f + 1) r (by omega)
      rw [List.count_cons_of_ne hc, ← ih, Lib.countFrom, Lib.countFrom, index_tl hc]
      have hg := Lib.index_ge r [39]
      by_cases hm : Lib.index r [39] = -1
      · simp [hm]
      · have e1 : (Lib.index r [39] + 1).toNat = (Lib.index r [39]).toNat + 1 := by omega
        have e2 : (Lib.index r [39] + 1 == -1) = false := by rw [beq_eq_false_iff_ne]; omega
        have e3 : (Lib.index r [39] == -1) = false := by rw [beq_eq_false_iff_ne]; omega
        simp only [if_neg hm, e1, e2, e3, Bool.false_eq_true, if_false, List.drop_succ_cons, List.length_cons, List.length_nil, Nat.add_right_comm _ 1]
theorem replace_esc (s : List UInt8) : Lib.replaceAll s [39] [39, 39] = esc s := by
  have e : Lib.count s [39] = s.count 39 := count_one _ s (by omega)
  unfold Lib.replaceAll Lib.replace Lib.replaceNum
  rw [if_neg (by decide), if_pos (.inl (by omega)), e, replK_esc s _ (Nat.le_refl _)]
def isD (c : UInt8) : Bool := decide (48 ≤ c.toNat) && decide (c.toNat ≤ 57)
def isN (c : UInt8) : Bool := decide (97 ≤ c.toNat) && decide (c.toNat ≤ 122) || (isD c || (decide (c.toNat = 95) || decide (c.toNat = 46)))
theorem isD_isN {c : UInt8} (h : isD c = true) : isN c = true := by simp [isN, h]
theorem dec_isD (u : Nat) : (Lib.decDigits u).all isD = true := by
  induction u using Nat.strongRecOn with
  | _ u ih =>
    have hb : ∀ d : Nat, d < 10 → isD (UInt8.ofNat (48 + d)) = true := fun d hd => by
      have : (UInt8.ofNat (48 + d)).toNat = 48 + d := by simp [UInt8.toNat_ofNat']; omega
      simp only [isD, this, Bool.and_eq_true, decide_eq_true_eq]; omega
    rw [Lib.decDigits]
    split
    · rename_i h
      rw [List.all_cons, hb u h]; rfl
    · rename_i h
      rw [List.all_append, ih (u / 10) (by omega), List.all_cons, hb (u % 10) (by omega)]; rfl
theorem itoa_pos {n : Int} (h : 0 ≤ n) : (Lib.itoa n).all isD = true := by
  obtain ⟨u, rfl⟩ := Int.eq_ofNat_of_zero_le h
  rw [Lib.itoa_nonneg]; exact dec_isD u
theorem itoa_minus {n : Int} (h : n < 0) : ∃ d, Lib.itoa n = 45 :: d ∧ d.all isD = true := by
  obtain ⟨u, hu⟩ : ∃ u : Nat, n = -(u : Int) := ⟨n.natAbs, by omega⟩
  subst hu
  rw [Lib.itoa_neg u (by omega)]
  exact ⟨_, rfl, dec_isD u⟩
theorem all_not {p : UInt8 → Bool} {s : List UInt8} {c : UInt8} (h : s.all p = true) (hc : p c = false) : c ∉ s := fun hm => by
  have := List.all_eq_true.1 h c hm
  rw [hc] at this; simp at this
theorem take_all {p : UInt8 → Bool} : ∀ (s r : List UInt8), s.all p = true → (∀ c, r.head? = some c → p c = false) → (s ++ r).takeWhile p = s ∧ (s ++ r).dropWhile p = r
  | [], [], _, _ => ⟨rfl, rfl⟩
  | [], c :: r, _, h => by
    have := h c rfl
    simp [List.takeWhile, List.dropWhile, this]
  | b :: s, r, h, h2 => by
    simp only [List.all_cons, Bool.and_eq_true] at h
    obtain ⟨i1, i2⟩ := take_all s r h.2 h2
    simp [List.takeWhile, List.dropWhile, h.1, i1, i2]
def argG : List UInt8 → Int → Bool → List UInt8 → List (List UInt8)
  | [], _, _, cur => [cur]
  | c :: r, d, q, cur =>
    if c = 39 then argG r d (!q) (cur ++ [c])
    else if q = true then argG r d q (cur ++ [c])
    else if c = 40 then argG r (d + 1) q (cur ++ [c])
    else if c = 41 then argG r (d - 1) q (cur ++ [c])
    else if c = 44 ∧ d = 0 then cur :: argG r d q []
    else argG r d q (cur ++ [c])
def Bal (s : List UInt8) : Prop := ∀ (r : List UInt8) (d : Int) (cur : List UInt8), 0 ≤ d → argG (s ++ r) d false cur = argG r d false (cur ++ s)
theorem Bal.app {s t : List UInt8} (h1 : Bal s) (h2 : Bal t) : Bal (s ++ t) := fun r d cur hd => by
  rw [List.append_assoc, h1 _ d cur hd, h2 r d _ hd, List.append_assoc]
theorem bal_nil : Bal [] := fun r d cur _ => by simp
def plainC (c : UInt8) : Bool := decide (c ≠ 39) && (decide (c ≠ 40) && (decide (c ≠ 41) && decide (c ≠ 44)))
theorem bal_plain : ∀ (s : List UInt8), s.all plainC = true → Bal s
  | [], _ => bal_nil
  | c :: s, h => fun r d cur hd => by
    simp only [List.all_cons, Bool.and_eq_true, plainC, decide_eq_true_eq] at h
    obtain ⟨⟨h1, h2, h3, h4⟩, h5⟩ := h
    rw [List.cons_append, argG, if_neg h1, if_neg (by simp), if_neg h2, if_neg h3, if_neg (by simp [h4]), bal_plain s h5 r d _ hd, List.append_assoc]
    rfl
theorem quo_esc : ∀ (s r : List UInt8) (d : Int) (cur : List UInt8), argG (esc s ++ 39 :: r) d true cur = argG r d false (cur ++ esc s ++ [39])
  | [], r, d, cur => by simp [esc, argG]
  | c :: s, r, d, cur => by
    by_cases hc : c = 39
    · subst hc
      rw [esc, if_pos rfl]
      simp only [List.cons_append]
      rw [argG, if_pos rfl, argG, if_pos rfl]
      simp only [Bool.not_true, Bool.not_false]
      rw [quo_esc s r d]
      simp
    · rw [esc, if_neg hc]
      simp only [List.cons_append]
      rw [argG, if_neg hc, if_pos rfl, quo_esc s r d]
      simp
theorem bal_quo (s : List UInt8) : Bal (39 :: (esc s ++ [39])) := fun r d cur hd => by
  simp only [List.cons_append, List.append_assoc]
  rw [argG, if_pos rfl]
  simp only [Bool.not_false, List.nil_append]
  rw [quo_esc s r d]
  simp
theorem bal_in (s : List UInt8) (h : ∀ (r : List UInt8) (d : Int) (cur : List UInt8), 1 ≤ d → argG (s ++ r) d false cur = argG r d false (cur ++ s)) : Bal (40 :: (s ++ [41])) := fun r d cur hd => by
  simp only [List.cons_append, List.append_assoc]
  rw [argG, if_neg (by decide), if_neg (by simp), if_pos rfl, h _ (d + 1) _ (by omega)]
  simp only [List.nil_append]
  rw [argG, if_neg (by decide), if_neg (by simp), if_neg (by decide), if_pos rfl]
  simp
theorem deep_comma (r : List UInt8) (d : Int) (cur : List UInt8) (h : 1 ≤ d) : argG (44 :: r) d false cur = argG r d false (cur ++ [44]) := by
  rw [argG, if_neg (by decide), if_neg (by simp), if_neg (by decide), if_neg (by decide), if_neg (by omega)]
theorem top_comma (r : List UInt8) (cur : List UInt8) : argG (44 :: r) 0 false cur = cur :: argG r 0 false [] := by
  rw [argG, if_neg (by decide), if_neg (by simp), if_neg (by decide), if_neg (by decide), if_pos ⟨rfl, rfl⟩]
def quoAt : List UInt8 → Nat → Nat
  | [], _ => 0
  | c :: r, i => if c = 39 then (match r with
    | [] => i + 1
    | d :: r' => if d = 39 then quoAt r' (i + 2) else i + 1) else quoAt r (i + 1)
def quotedS (t : List UInt8) : Nat := quoAt (t.drop 1) 1
theorem quoAt_esc : ∀ (s r : List UInt8) (i : Nat), (∀ c, r.head? = some c → c ≠ 39) → quoAt (esc s ++ 39 :: r) i = i + (esc s).length + 1
  | [], [], i, _ => by simp [esc, quoAt]
  | [], c :: r, i, h => by
    have := h c rfl
    simp [esc, quoAt, this]
  | c :: s, r, i, h => by
    by_cases hc : c = 39
    · subst hc
      rw [esc, if_pos rfl]
      simp only [List.cons_append]
      rw [quoAt, if_pos rfl]
      simp only [if_true]
      rw [quoAt_esc s r _ h]
      simp only [List.length_cons]; omega
    · rw [esc, if_neg hc]
      simp only [List.cons_append]
      rw [quoAt.eq_def]
      simp only [if_neg hc]
      rw [quoAt_esc s r _ h]
      simp only [List.length_cons]; omega
theorem isN_ne {c : UInt8} (h : isN c = true) : c ≠ 39 ∧ c ≠ 64 ∧ c ≠ 45 ∧ c ≠ 63 ∧ c ≠ 58 ∧ c ≠ 40 ∧ c ≠ 41 ∧ c ≠ 44 := by
  refine ⟨?_, ?_, ?_, ?_, ?_, ?_, ?_, ?_⟩ <;> (rintro rfl; revert h; decide)
theorem isN_plain {c : UInt8} (h : isN c = true) : plainC c = true := by
  have := isN_ne h
  simp [plainC, this]
theorem read_yes {t : List UInt8} (h : (readS t).2 = 0) : rightS (readS t).1 = true ∧ showS (readS t).1 = t := by
  unfold readS at *
  split at h
  · rename_i hh; rw [if_pos hh]; exact hh
  · simp at h
theorem rep_all {c : UInt8} {p : UInt8 → Bool} (h : p c = true) : ∀ n : Nat, (Lib.repeatL [c] n).all p = true
  | 0 => by simp [Lib.repeatL]
  | n + 1 => by
    have := rep_all h n
    rw [Lib.repeatL, List.all_append, this]
    simp [h]
theorem pad_plain {n : Int} {d : Nat} (h : 0 ≤ n) : (padS n d).all plainC = true := by
  unfold padS
  rw [List.all_append, rep_all (by decide), Bool.true_and]
  exact List.all_eq_true.2 fun x hx => isN_plain (isD_isN (List.all_eq_true.1 (itoa_pos h) x hx))
theorem dtext_plain {n : Int} (h0 : 0 ≤ n) (h1 : n ≤ 253402300799) : (dtextS n).all plainC = true := by
  have hb := date_bounds h0 h1
  unfold dtextS
  simp only [List.all_append, Bool.and_eq_true]
  refine ⟨⟨⟨⟨⟨⟨⟨⟨⟨⟨?_, ?_⟩, ?_⟩, ?_⟩, ?_⟩, ?_⟩, ?_⟩, ?_⟩, ?_⟩, ?_⟩, ?_⟩
  all_goals first
    | (exact pad_plain (by omega))
    | decide
theorem show_cases {v : Val} (h : rightS v = true) : (showS v ≠ [] ∧ (showS v).all isN = true) ∨ (∃ d, showS v = 45 :: d ∧ d.all isD = true) ∨ (showS v = 39 :: (esc v.s ++ [39])) ∨ (∃ d, showS v = 64 :: d ∧ d.length = 19 ∧ d.all plainC = true) := by
  have hp := plain_of_right h
  have hk := plain_kinds v
  rw [hp] at hk
  rcases hk with q | q | q | q | q
  · left
    have : showS v = bNull := by simp [showS, hp, q]
    rw [this]; exact ⟨by decide, by decide⟩
  · left
    have : showS v = Lib.formatBool (v.n == 1) := by simp [showS, hp, q]
    rw [this, fmt_bool]
    cases v.n == 1 <;> exact ⟨by decide, by decide⟩
  · have : showS v = Lib.itoa v.n := by simp [showS, hp, q]
    rw [this]
    by_cases hn : 0 ≤ v.n
    · left
      refine ⟨?_, List.all_eq_true.2 fun y hy => isD_isN (List.all_eq_true.1 (itoa_pos hn) y hy)⟩
      obtain ⟨c, r, e, _⟩ := itoa_first v.n
      rw [e]; simp
    · exact .inr (.inl (itoa_minus (by omega)))
  · have : showS v = [39] ++ Lib.replaceAll v.s [39] [39, 39] ++ [39] := by simp [showS, hp, q]
    rw [this, replace_esc]
    exact .inr (.inr (.inl rfl))
  · have : showS v = [64] ++ dtextS v.n := by simp [showS, hp, q]
    have hb := plain_moment (v := v) (by rw [hp]; exact q)
    rw [hp] at hb
    rw [this]
    exact .inr (.inr (.inr ⟨dtextS v.n, rfl, dtext_len hb.1 hb.2, dtext_plain hb.1 hb.2⟩))
theorem show_shape {v : Val} (h : rightS v = true) : (showS v ≠ [] ∧ (showS v).all isN = true) ∨ (∃ d, showS v = 45 :: d ∧ d.all isD = true) ∨ (∃ s, showS v = 39 :: (esc s ++ [39])) ∨ (∃ d, showS v = 64 :: d ∧ d.length = 19 ∧ d.all plainC = true) := by
  rcases show_cases h with h | h | h | h
  · exact .inl h
  · exact .inr (.inl h)
  · exact .inr (.inr (.inl ⟨_, h⟩))
  · exact .inr (.inr (.inr h))
def mkV (v : Val) : Ex := .mk 1 0 0 v [] [] false []
def mkP (n : Int) : Ex := .mk 2 0 n null [] [] false []
def mkC (s m : List UInt8) : Ex := .mk 3 0 0 null s m false []
def mkO (k op n : Int) (l : List Ex) : Ex := .mk k op n null [] [] false l
def HeadOk (k op n : Int) : Prop := (k = 4 ∧ within op 1 27 = true ∧ (hasNS op = false → n = 0) ∧ rightNS op n = true) ∨ ((k = 5 ∨ k = 6) ∧ op = 0 ∧ n = 0)
def ownE (e : Ex) : Int :=
  if formOfS e ≠ 0 then formOfS e
  else if (e.k = 2 ∧ within e.n 0 59 = false) ∨ (e.k = 4 ∧ rightNS e.op e.n = false) then 1
  else if e.k = 3 ∧ (e.nm = [] ∨ e.nm.all isN = false ∨ e.src.all isN = false) then 5 else 0
mutual
/-- The error of an expression's text. -/
def txE : Ex → Int
  | .mk k op n v src nm d args => if txL args ≠ 0 then txL args else ownE (.mk k op n v src nm d args)
def txL : List Ex → Int
  | [] => 0
  | e :: r => if txE e ≠ 0 then txE e else txL r
end
theorem null_of {v : Val} (h : nullB v = true) : v = null := by
  obtain ⟨k, n, s⟩ := v
  simp only [nullB, Bool.and_eq_true, beq_iff_eq] at h
  obtain ⟨h1, h2, h3⟩ := h
  subst h1; subst h2; subst h3; rfl
inductive Shape (e : Ex) : Prop where
  | val (v : Val) (h : e = mkV v) (hr : rightS v = true)
  | par (n : Int) (h : e = mkP n) (h0 : 0 ≤ n) (h1 : n ≤ 59)
  | col (s m : List UInt8) (h : e = mkC s m) (h0 : m ≠ []) (h1 : m.all isN = true) (h2 : s.all isN = true)
  | opr (k op n : Int) (l : List Ex) (h : e = mkO k op n l) (h0 : HeadOk k op n) (h1 : argsOk k op (l.length : Int) = true)
theorem own_parts (e : Ex) (h : ownE e = 0) : within e.k 1 6 = true ∧ (e.k = 4 → within e.op 1 27 = true) ∧ partBad e = false ∧ (e.k = 1 → faultS e.v = 0) ∧ (e.k = 2 → within e.n 0 59 = true) ∧ (e.k = 4 → rightNS e.op e.n = true) ∧ (e.k = 3 → e.nm ≠ [] ∧ e.nm.all isN = true ∧ e.src.all isN = true) := by
  unfold ownE at h
  by_cases h1 : formOfS e = 0
  rotate_left
  · rw [if_pos h1] at h; exact absurd h h1
  rw [if_neg (by simpa using h1)] at h
  unfold formOfS at h1
  have hx : exF e = 0 := by
    by_cases q : exF e = 0
    · exact q
    · rw [if_pos q] at h1; exact absurd h1 q
  rw [if_neg (by simpa using hx)] at h1
  unfold exF at hx
  split at hx
  · simp at hx
  rename_i hk
  split at hx
  · simp at hx
  rename_i hp
  simp only [not_or, not_and, Bool.not_eq_false] at hk
  split at h
  · simp at h
  rename_i hq
  simp only [not_or, not_and, Bool.not_eq_false] at hq
  split at h
  · simp at h
  rename_i hr
  simp only [not_or, not_and, Bool.not_eq_false] at hr
  refine ⟨hk.1, hk.2, by simpa using hp, fun q => ?_, hq.1, hq.2, hr⟩
  rw [if_pos q] at h1; exact h1
theorem own_shape (e : Ex) (h : ownE e = 0) : Shape e := by
  obtain ⟨hk, hop, hp, q1, q2, q4, q3⟩ := own_parts e h
  clear h
  obtain ⟨k, op, n, v, src, nm, d, args⟩ := e
  simp only [partBad, Ex.k, Ex.op, Ex.n, Ex.v, Ex.src, Ex.nm, Ex.args, Ex.d, Bool.or_eq_false_iff, Bool.and_eq_false_iff, bne_eq_false_iff_eq, Bool.not_eq_false', beq_iff_eq, beq_eq_false_iff_ne, Bool.or_eq_true, Bool.and_eq_true] at *
  have hb := (wit_iff _ _ _).1 hk
  obtain ⟨p1, p2, p3, p4, p5, p6⟩ := hp
  subst p5
  have hc6 : k = 1 ∨ k = 2 ∨ k = 3 ∨ k = 4 ∨ k = 5 ∨ k = 6 := by omega
  have sn : k ≠ 3 → src = [] ∧ nm = [] := fun q => by
    rcases p4 with p4 | p4
    · exact absurd p4 q
    · exact List.append_eq_nil_iff.1 p4
  have op0 : k ≠ 4 → op = 0 := fun q => by rcases p1 with p1 | p1; exact absurd p1 q; exact p1
  have v0 : k ≠ 1 → v = null := fun q => by rcases p3 with p3 | p3; exact absurd p3 q; exact null_of p3
  have n0 : k ≠ 2 → (k = 4 → hasNS op = false) → n = 0 := fun q1 q2 => by
    rcases p2 with (p2 | ⟨p2, p2'⟩) | p2
    · exact absurd p2 q1
    · have := q2 p2; rw [this] at p2'; simp at p2'
    · exact p2
  have a0 : k = 1 ∨ k = 2 ∨ k = 3 → args = [] := fun q => by
    have : (args.length : Int) = 0 := by
      have := p6
      unfold argsOk at this
      rw [if_neg (by omega), if_neg (by omega), if_neg (by omega)] at this
      simpa using this
    exact List.eq_nil_of_length_eq_zero (by omega)
  rcases hc6 with q | q | q | q | q | q
  · obtain ⟨rfl, rfl⟩ := sn (by omega)
    obtain rfl := n0 (by omega) (by omega)
    obtain rfl := op0 (by omega)
    obtain rfl := a0 (by omega)
    subst q
    exact .val v rfl ((fault_right v).1 (q1 rfl))
  · obtain ⟨rfl, rfl⟩ := sn (by omega)
    obtain rfl := op0 (by omega)
    obtain rfl := a0 (by omega)
    obtain rfl := v0 (by omega)
    subst q
    have := (wit_iff _ _ _).1 (q2 rfl)
    exact .par n rfl this.1 this.2
  · obtain rfl := n0 (by omega) (by omega)
    obtain rfl := op0 (by omega)
    obtain rfl := a0 (by omega)
    obtain rfl := v0 (by omega)
    subst q
    obtain ⟨h1, h2, h3⟩ := q3 rfl
    exact .col src nm rfl h1 h2 h3
  · obtain ⟨rfl, rfl⟩ := sn (by omega)
    obtain rfl := v0 (by omega)
    subst q
    exact .opr 4 op n args rfl (.inl ⟨rfl, hop rfl, fun hn => n0 (by omega) fun _ => hn, q4 rfl⟩) p6
  · obtain ⟨rfl, rfl⟩ := sn (by omega)
    obtain rfl := n0 (by omega) (by omega)
    obtain rfl := op0 (by omega)
    obtain rfl := v0 (by omega)
    subst q
    exact .opr 5 0 0 args rfl (.inr ⟨.inl rfl, rfl, rfl⟩) p6
  · obtain ⟨rfl, rfl⟩ := sn (by omega)
    obtain rfl := n0 (by omega) (by omega)
    obtain rfl := op0 (by omega)
    obtain rfl := v0 (by omega)
    subst q
    exact .opr 6 0 0 args rfl (.inr ⟨.inr rfl, rfl, rfl⟩) p6
theorem own_val {v : Val} (h : rightS v = true) : ownE (mkV v) = 0 := by
  have := (fault_right v).2 h
  simp [ownE, formOfS, exF, partBad, mkV, Ex.k, Ex.op, Ex.n, Ex.v, Ex.src, Ex.nm, Ex.args, Ex.d, argsOk, within, this]
theorem own_par {n : Int} (h0 : 0 ≤ n) (h1 : n ≤ 59) : ownE (mkP n) = 0 := by
  simp [ownE, formOfS, exF, partBad, mkP, Ex.k, Ex.op, Ex.n, Ex.v, Ex.src, Ex.nm, Ex.args, Ex.d, argsOk, within, nullB, null, h0, h1]
theorem own_col {s m : List UInt8} (h0 : m ≠ []) (h1 : m.all isN = true) (h2 : s.all isN = true) : ownE (mkC s m) = 0 := by
  simp [ownE, formOfS, exF, partBad, mkC, Ex.k, Ex.op, Ex.n, Ex.v, Ex.src, Ex.nm, Ex.args, Ex.d, argsOk, within, nullB, null, h0]
  exact ⟨fun x hx => List.all_eq_true.1 h1 x hx, fun x hx => List.all_eq_true.1 h2 x hx⟩
theorem own_opr {k op n : Int} {l : List Ex} (h0 : HeadOk k op n) (h1 : argsOk k op (l.length : Int) = true) : ownE (mkO k op n l) = 0 := by
  rcases h0 with ⟨rfl, hw, hn, hr⟩ | ⟨hk, rfl, rfl⟩
  · have e : (hasNS op = false ∧ ¬ n = 0) = False := eq_false fun h => h.2 (hn h.1)
    simp [ownE, formOfS, exF, partBad, mkO, Ex.k, Ex.op, Ex.n, Ex.v, Ex.src, Ex.nm, Ex.args, Ex.d, hw, hr, h1, nullB, null, e]
    simp [within]
  · rcases hk with rfl | rfl
    · simp [ownE, formOfS, exF, partBad, mkO, Ex.k, Ex.op, Ex.n, Ex.v, Ex.src, Ex.nm, Ex.args, Ex.d, h1, nullB, null, within]
    · simp [ownE, formOfS, exF, partBad, mkO, Ex.k, Ex.op, Ex.n, Ex.v, Ex.src, Ex.nm, Ex.args, Ex.d, h1, nullB, null, within]
def headT (k op n : Int) : List UInt8 := if k = 4 then opNameS op ++ (if hasNS op = true then 46 :: Lib.itoa n else []) else if k = 5 then [99, 97, 115, 101] else [105, 110]
mutual
noncomputable def exT : Ex → List UInt8
  | .mk k op n v src nm _ args => if k = 1 then showS v else if k = 2 then 63 :: Lib.itoa n else if k = 3 then src ++ 58 :: nm else headT k op n ++ 40 :: ((exQ args).drop 1 ++ [41])
/-- Args, each with a comma ahead. -/
noncomputable def exQ : List Ex → List UInt8
  | [] => []
  | e :: r => 44 :: (exT e ++ exQ r)
end
mutual
/-- Values are read back. -/
def Rd : Ex → Prop
  | .mk k _ _ v _ _ _ args => (k = 1 → readS (showS v) = (v, 0)) ∧ Rds args
def Rds : List Ex → Prop
  | [] => True
  | e :: r => Rd e ∧ Rds r
end
theorem exT_val (v : Val) : exT (mkV v) = showS v := by rw [mkV, exT, if_pos rfl]
theorem exT_par (n : Int) : exT (mkP n) = 63 :: Lib.itoa n := by rw [mkP, exT, if_neg (by omega), if_pos rfl]
theorem exT_col (s m : List UInt8) : exT (mkC s m) = s ++ 58 :: m := by rw [mkC, exT, if_neg (by omega), if_neg (by omega), if_pos rfl]
theorem head_k {k op n : Int} (h : HeadOk k op n) : k = 4 ∨ k = 5 ∨ k = 6 := by rcases h with ⟨h, _⟩ | ⟨h, _⟩ <;> omega
theorem exT_opr {k op n : Int} (l : List Ex) (h : HeadOk k op n) : exT (mkO k op n l) = headT k op n ++ 40 :: ((exQ l).drop 1 ++ [41]) := by
  have := head_k h
  rw [mkO, exT, if_neg (by omega), if_neg (by omega), if_neg (by omega)]
theorem args_ne {k op n : Int} {l : List Ex} (h : HeadOk k op n) (h1 : argsOk k op (l.length : Int) = true) : l ≠ [] := by
  rintro rfl
  rcases h with ⟨rfl, hw, _⟩ | ⟨hk, rfl, rfl⟩
  · have hb := (wit_iff _ _ _).1 hw
    have ha : arityS op ≠ 0 := by unfold arityS; repeat' split <;> omega
    unfold argsOk at h1
    rw [if_pos rfl] at h1
    split at h1
    · simp at h1; exact ha h1.symm
    · simp at h1
  · rcases hk with rfl | rfl
    · simp [argsOk] at h1
    · simp [argsOk] at h1
theorem tx_val {v : Val} (h : rightS v = true) : txE (mkV v) = 0 := by
  have := own_val h
  simp only [mkV] at this ⊢
  simp [txE, txL, this]
theorem tx_par {n : Int} (h0 : 0 ≤ n) (h1 : n ≤ 59) : txE (mkP n) = 0 := by
  have := own_par h0 h1
  simp only [mkP] at this ⊢
  simp [txE, txL, this]
theorem tx_col {s m : List UInt8} (h0 : m ≠ []) (h1 : m.all isN = true) (h2 : s.all isN = true) : txE (mkC s m) = 0 := by
  have := own_col h0 h1 h2
  simp only [mkC] at this ⊢
  simp [txE, txL, this]
theorem tx_opr {k op n : Int} {l : List Ex} (h0 : HeadOk k op n) (h1 : argsOk k op (l.length : Int) = true) (h2 : txL l = 0) : txE (mkO k op n l) = 0 := by
  have := own_opr h0 h1
  simp only [mkO] at this ⊢
  simp [txE, h2, this]
theorem tx_split (e : Ex) (h : txE e = 0) : txL e.args = 0 ∧ Shape e := by
  obtain ⟨k, op, n, v, src, nm, d, args⟩ := e
  rw [txE] at h
  by_cases q : txL args = 0
  · rw [if_neg (by simpa using q)] at h
    exact ⟨q, own_shape _ h⟩
  · rw [if_pos q] at h; exact absurd h q
theorem txL_cons {e : Ex} {r : List Ex} : txL (e :: r) = 0 ↔ txE e = 0 ∧ txL r = 0 := by
  rw [txL]
  by_cases q : txE e = 0 <;> simp [q]
def atoiV (s : List UInt8) : Int := match Lib.atoiAll s with
  | .ok v => v
  | .range => Lib.atoiSat s
  | _ => 0
def atoiOk (s : List UInt8) : Bool := match Lib.atoiAll s with
  | .ok _ => true
  | _ => false
def digs (t : List UInt8) : List UInt8 := t.takeWhile isD
def countOk (t : List UInt8) : Bool := atoiOk (digs t) && (Lib.itoa (atoiV (digs t)) == digs t)
noncomputable def constP (n : Nat) (t : List UInt8) : Option (Ex × List UInt8) := if (readS (t.take n)).2 = 0 then some (mkV (readS (t.take n)).1, t.drop n) else none
def parP (r : List UInt8) : Option (Ex × List UInt8) := if countOk r = true ∧ atoiV (digs r) < 60 then some (mkP (atoiV (digs r)), r.dropWhile isD) else none
def colP (w r : List UInt8) : Option (Ex × List UInt8) := if r.takeWhile isN = [] then none else some (mkC w (r.takeWhile isN), r.dropWhile isN)
def opNamedS (w : List UInt8) : Int := match opNames.findIdx? (· == w) with
  | some i => (i : Int) + 1
  | none => 0
def headS (w : List UInt8) : Option (Int × Int × Int) :=
  if w = [99, 97, 115, 101] then some (5, 0, 0) else if w = [105, 110] then some (6, 0, 0)
  else if opNamedS (Lib.cut w [46]).1 = 0 then none
  else if (Lib.cut w [46]).2.2 ≠ hasNS (opNamedS (Lib.cut w [46]).1) then none
  else if (Lib.cut w [46]).2.2 = true then
    (if Lib.itoa (atoiV (digs (Lib.cut w [46]).2.1)) = (Lib.cut w [46]).2.1 ∧ rightNS (opNamedS (Lib.cut w [46]).1) (atoiV (digs (Lib.cut w [46]).2.1)) = true then some (4, opNamedS (Lib.cut w [46]).1, atoiV (digs (Lib.cut w [46]).2.1)) else none)
  else some (4, opNamedS (Lib.cut w [46]).1, 0)
def finP (k op n : Int) : Option (List Ex × List UInt8) → Option (Ex × List UInt8)
  | some (l, c :: r) => if c = 41 ∧ argsOk k op (l.length : Int) = true then some (mkO k op n l, r) else none
  | _ => none
noncomputable def wordP (f : List UInt8 → Option (List Ex × List UInt8)) (w d t : List UInt8) : Option (Ex × List UInt8) :=
  match d with
  | [] => constP w.length t
  | b :: r2 => if b = 58 then colP w r2
    else if b = 40 then (match headS w with
      | some (h1, h2, h3) => finP h1 h2 h3 (f r2)
      | none => none)
    else constP w.length t
mutual
noncomputable def pE : Nat → List UInt8 → Option (Ex × List UInt8)
  | 0, _ => none
  | _ + 1, [] => none
  | k + 1, c :: r =>
    if c = 39 then constP (quotedS (c :: r)) (c :: r)
    else if c = 64 then constP (min 20 (r.length + 1)) (c :: r)
    else if c = 45 then constP (1 + (digs r).length) (c :: r)
    else if c = 63 then parP r
    else wordP (pL k) ((c :: r).takeWhile isN) ((c :: r).dropWhile isN) (c :: r)
noncomputable def pL : Nat → List UInt8 → Option (List Ex × List UInt8)
  | 0, _ => none
  | k + 1, t => match pE k t with
    | none => none
    | some (e, []) => some ([e], [])
    | some (e, b :: r) => if b = 44 then (match pL k r with
        | some (l, r') => some (e :: l, r')
        | none => none) else some ([e], b :: r)
end
theorem named_name : ∀ i : Fin 27, opNamedS (opNameS ((i.val : Int) + 1)) = (i.val : Int) + 1 := by decide +kernel
theorem names_isN : ∀ s ∈ opNames, s.all (fun c => isN c && c != 46) = true ∧ s ≠ [99, 97, 115, 101] ∧ s ≠ [105, 110] := by decide +kernel
theorem named_spec {w : List UInt8} (h : opNamedS w ≠ 0) : within (opNamedS w) 1 27 = true ∧ opNameS (opNamedS w) = w := by
  unfold opNamedS at *
  split at h
  · rename_i i hi
    have hl := names_len
    obtain ⟨h1, h2, _⟩ := List.findIdx?_eq_some_iff_getElem.1 hi
    have h2 : opNames[i] = w := by simpa using h2
    have hw : within ((i : Int) + 1) 1 27 = true := (wit_iff _ _ _).2 (by omega)
    refine ⟨hw, ?_⟩
    have e : ((i : Int) + 1 - 1).toNat = i := by omega
    simp only [opNameS, hw, if_true, e, List.getElem?_eq_getElem h1, Option.getD_some, h2]
  · simp at h
theorem name_mem {op : Int} (h : within op 1 27 = true) : opNameS op ∈ opNames ∧ opNamedS (opNameS op) = op := by
  have hb := (wit_iff _ _ _).1 h
  have hl := names_len
  have hn := named_name ⟨(op - 1).toNat, by omega⟩
  have e : (((op - 1).toNat : Nat) : Int) + 1 = op := by omega
  simp only [e] at hn
  refine ⟨?_, hn⟩
  unfold opNameS
  rw [if_pos h, List.getElem?_eq_getElem (by omega)]
  exact List.getElem_mem _
theorem small_num : ∀ i : Fin 7, atoiV (digs (Lib.itoa (i.val : Int))) = (i.val : Int) := by decide +kernel
theorem headN {op n : Int} (h : hasNS op = true) (hr : rightNS op n = true) : 0 ≤ n ∧ n ≤ 6 := by
  have hb := (wit_iff op 25 27).1 h
  unfold rightNS at hr
  split at hr
  · have := (wit_iff _ _ _).1 hr; omega
  · split at hr
    · have := (wit_iff _ _ _).1 hr; omega
    · omega
theorem all_and {s : List UInt8} (h : s.all (fun c => isN c && c != 46) = true) : s.all isN = true ∧ (46 : UInt8) ∉ s := by
  refine ⟨List.all_eq_true.2 fun x hx => ?_, fun hm => ?_⟩
  · have := List.all_eq_true.1 h x hx; simp only [Bool.and_eq_true] at this; exact this.1
  · have := List.all_eq_true.1 h 46 hm; simp at this
theorem headT_isN {k op n : Int} (h : HeadOk k op n) : (headT k op n).all isN = true := by
  rcases h with ⟨rfl, hw, hn, hr⟩ | ⟨hk, rfl, rfl⟩
  · obtain ⟨hm, _⟩ := name_mem hw
    have ha := (all_and (names_isN _ hm).1).1
    unfold headT
    rw [if_pos rfl]
    split
    · rename_i hs
      have hb := headN hs hr
      rw [List.all_append, ha, List.all_cons]
      simp only [Bool.true_and, Bool.and_eq_true]
      exact ⟨by decide, List.all_eq_true.2 fun x hx => isD_isN (List.all_eq_true.1 (itoa_pos hb.1) x hx)⟩
    · simpa using ha
  · rcases hk with rfl | rfl <;> decide +kernel
theorem head_yes {k op n : Int} (h : HeadOk k op n) : headS (headT k op n) = some (k, op, n) := by
  rcases h with ⟨rfl, hw, hn, hr⟩ | ⟨hk, rfl, rfl⟩
  · obtain ⟨hm, hnm⟩ := name_mem hw
    obtain ⟨hall, hne1, hne2⟩ := names_isN _ hm
    have h46 := (all_and hall).2
    have hb := (wit_iff _ _ _).1 hw
    unfold headT
    rw [if_pos rfl]
    cases hs : hasNS op with
    | true =>
      have hb := headN hs hr
      simp only [if_true]
      have hc := cut_app (c := 46) (opNameS op) (Lib.itoa n) h46
      have hd := small_num ⟨n.toNat, by omega⟩
      have e : ((n.toNat : Nat) : Int) = n := by omega
      simp only [e] at hd
      have m46 : (46 : UInt8) ∈ opNameS op ++ 46 :: Lib.itoa n := by simp
      have q1 : opNameS op ++ 46 :: Lib.itoa n ≠ [99, 97, 115, 101] := fun hq => by rw [hq] at m46; revert m46; decide
      have q2 : opNameS op ++ 46 :: Lib.itoa n ≠ [105, 110] := fun hq => by rw [hq] at m46; revert m46; decide
      unfold headS
      rw [if_neg q1, if_neg q2]
      simp only [hc, hnm, hs, hd, hr]
      rw [if_neg (by omega)]
      simp
    | false =>
      obtain rfl := hn hs
      simp only [Bool.false_eq_true, if_false, List.append_nil]
      have hc := cut_out (c := 46) (opNameS op) h46
      unfold headS
      rw [if_neg hne1, if_neg hne2]
      simp only [hc, hnm, hs]
      rw [if_neg (by omega)]
      simp
  · rcases hk with rfl | rfl <;> decide +kernel
theorem head_back {w : List UInt8} {k op n : Int} (h : headS w = some (k, op, n)) : HeadOk k op n ∧ headT k op n = w := by
  unfold headS at h
  split at h
  · rename_i hw
    simp only [Option.some.injEq, Prod.mk.injEq] at h
    obtain ⟨rfl, rfl, rfl⟩ := h
    subst hw
    exact ⟨.inr ⟨.inl rfl, rfl, rfl⟩, rfl⟩
  split at h
  · rename_i hw
    simp only [Option.some.injEq, Prod.mk.injEq] at h
    obtain ⟨rfl, rfl, rfl⟩ := h
    subst hw
    exact ⟨.inr ⟨.inr rfl, rfl, rfl⟩, rfl⟩
  split at h
  · simp at h
  rename_i h0
  split at h
  · simp at h
  rename_i hp
  obtain ⟨hw, hnm⟩ := named_spec h0
  simp only [ne_eq, Decidable.not_not] at hp
  rcases cut_split 46 w with ⟨a, r, ha, hwr⟩ | ha
  · have hc := cut_app a r ha
    rw [← hwr] at hc
    simp only [hc] at *
    rw [if_pos trivial] at h
    split at h
    · rename_i hh
      simp only [Option.some.injEq, Prod.mk.injEq] at h
      obtain ⟨rfl, rfl, rfl⟩ := h
      refine ⟨.inl ⟨rfl, hw, fun hn => ?_, hh.2⟩, ?_⟩
      · rw [← hp] at hn; simp at hn
      · unfold headT
        rw [if_pos rfl, ← hp, if_pos rfl, hh.1, hnm, hwr]
    · simp at h
  · have hc := cut_out w ha
    simp only [hc] at *
    simp only [Bool.false_eq_true, if_false, Option.some.injEq, Prod.mk.injEq] at h
    obtain ⟨rfl, rfl, rfl⟩ := h
    refine ⟨.inl ⟨rfl, hw, fun _ => rfl, ?_⟩, ?_⟩
    · have : ¬ (25 ≤ opNamedS w ∧ opNamedS w ≤ 27) := fun hq => by
        have := (wit_iff _ _ _).2 hq
        unfold hasNS at hp
        rw [this] at hp; simp at hp
      unfold rightNS
      rw [if_neg (by omega), if_neg (by omega)]
    · unfold headT
      rw [if_pos rfl, ← hp, hnm]
      simp
theorem exQ_cons (e : Ex) (r : List Ex) : exQ (e :: r) = 44 :: (exT e ++ exQ r) := by rw [exQ]
theorem const_sound {n : Nat} {t : List UInt8} {e : Ex} {r : List UInt8} (h : constP n t = some (e, r)) : t = exT e ++ r ∧ txE e = 0 ∧ Rd e := by
  unfold constP at h
  split at h
  · rename_i h0
    obtain ⟨hr, hs⟩ := read_yes h0
    simp only [Option.some.injEq, Prod.mk.injEq] at h
    obtain ⟨rfl, rfl⟩ := h
    refine ⟨?_, tx_val hr, ?_⟩
    · rw [exT_val, hs, List.take_append_drop]
    · simp only [mkV, Rd, Rds, and_true]
      intro _
      rw [hs, ← h0]
  · simp at h
theorem count_ge {s : List UInt8} (h : s.all isD = true) : 0 ≤ atoiV s := by
  unfold atoiV
  cases s with
  | nil => simp [Lib.atoiAll]
  | cons c r =>
    simp only [List.all_cons, Bool.and_eq_true, isD, decide_eq_true_eq] at h
    have h45 : c.toNat ≠ 45 := by omega
    rw [Lib.atoiAll_plain c r (by omega) h45, Lib.atoiSat_other c r h45]
    generalize Lib.parseMag (c :: r) = m
    cases m with
    | ok u =>
      by_cases hu : 9223372036854775808 ≤ u
      · simp [Lib.signless, hu]
      · simp [Lib.signless, hu]
    | _ => simp [Lib.signless]
theorem all_take (p : UInt8 → Bool) : ∀ s : List UInt8, (s.takeWhile p).all p = true
  | [] => rfl
  | c :: r => by
    cases h : p c <;> simp [List.takeWhile, h]
theorem take_drop (p : UInt8 → Bool) (s : List UInt8) : s.takeWhile p ++ s.dropWhile p = s := List.takeWhile_append_dropWhile
theorem par_sound {t : List UInt8} {e : Ex} {r : List UInt8} (h : parP t = some (e, r)) : 63 :: t = exT e ++ r ∧ txE e = 0 ∧ Rd e := by
  unfold parP at h
  split at h
  · rename_i h0
    simp only [Option.some.injEq, Prod.mk.injEq] at h
    obtain ⟨rfl, rfl⟩ := h
    obtain ⟨h1, h2⟩ := h0
    simp only [countOk, Bool.and_eq_true, beq_iff_eq] at h1
    have := count_ge (all_take isD t)
    refine ⟨?_, tx_par this (by simp only [digs] at h2 ⊢; omega), by simp [mkP, Rd, Rds]⟩
    rw [exT_par, h1.2, List.cons_append]
    simp only [digs]
    rw [take_drop]
  · simp at h
theorem col_sound {w t : List UInt8} {e : Ex} {r : List UInt8} (hw : w.all isN = true) (h : colP w t = some (e, r)) : w ++ 58 :: t = exT e ++ r ∧ txE e = 0 ∧ Rd e := by
  unfold colP at h
  split at h
  · simp at h
  · rename_i h0
    simp only [Option.some.injEq, Prod.mk.injEq] at h
    obtain ⟨rfl, rfl⟩ := h
    refine ⟨?_, tx_col h0 (all_take _ _) hw, by simp [mkC, Rd, Rds]⟩
    rw [exT_col, List.append_assoc, List.cons_append, take_drop]
theorem rd_opr (k op n : Int) (l : List Ex) (hk : k ≠ 1) : Rd (mkO k op n l) ↔ Rds l := by simp [mkO, Rd, hk]
theorem p_sound : ∀ k, (∀ t e r, pE k t = some (e, r) → t = exT e ++ r ∧ txE e = 0 ∧ Rd e) ∧ (∀ t l r, pL k t = some (l, r) → l ≠ [] ∧ t = (exQ l).drop 1 ++ r ∧ txL l = 0 ∧ Rds l)
  | 0 => ⟨fun t e r h => by simp [pE] at h, fun t l r h => by simp [pL] at h⟩
  | k + 1 => by
    obtain ⟨ihE, ihL⟩ := p_sound k
    constructor
    · intro t e r h
      cases t with
      | nil => simp [pE] at h
      | cons c s =>
        rw [pE] at h
        split at h
        · exact const_sound h
        split at h
        · exact const_sound h
        split at h
        · exact const_sound h
        split at h
        · rename_i hc; subst hc; exact par_sound h
        have htd := take_drop isN (c :: s)
        have hall := all_take isN (c :: s)
        generalize (c :: s).takeWhile isN = w at *
        generalize (c :: s).dropWhile isN = d at *
        unfold wordP at h
        split at h
        · exact const_sound h
        · rename_i b r2
          split at h
          · rename_i hb
            subst hb
            rw [← htd]
            exact col_sound hall h
          split at h
          · rename_i hb
            subst hb
            split at h
            · rename_i h1 h2 h3 hh
              obtain ⟨hok, hT⟩ := head_back hh
              cases hp : pL k r2 with
              | none => rw [hp] at h; simp [finP] at h
              | some x =>
                obtain ⟨l, r'⟩ := x
                rw [hp] at h
                obtain ⟨i1, i2, i3, i4⟩ := ihL _ _ _ hp
                cases r' with
                | nil => simp [finP] at h
                | cons c' r' =>
                  simp only [finP] at h
                  split at h
                  · rename_i hq
                    obtain ⟨rfl, hq⟩ := hq
                    simp only [Option.some.injEq, Prod.mk.injEq] at h
                    obtain ⟨rfl, rfl⟩ := h
                    refine ⟨?_, tx_opr hok hq i3, (rd_opr _ _ _ _ (by have := head_k hok; omega)).2 i4⟩
                    rw [exT_opr l hok, ← htd, i2, ← hT]
                    simp
                  · simp at h
            · simp at h
          · exact const_sound h
    · intro t l r h
      rw [pL] at h
      split at h
      · simp at h
      · rename_i e hp
        simp only [Option.some.injEq, Prod.mk.injEq] at h
        obtain ⟨rfl, rfl⟩ := h
        obtain ⟨i1, i2, i3⟩ := ihE _ _ _ hp
        exact ⟨by simp, by rw [i1, exQ_cons]; simp [exQ], by simp [txL, i2], by simp [Rds, i3]⟩
      · rename_i e b r' hp
        obtain ⟨i1, i2, i3⟩ := ihE _ _ _ hp
        split at h
        · rename_i hb
          subst hb
          cases hq : pL k r' with
          | none => rw [hq] at h; simp at h
          | some x =>
            obtain ⟨l', r''⟩ := x
            rw [hq] at h
            simp only [Option.some.injEq, Prod.mk.injEq] at h
            obtain ⟨rfl, rfl⟩ := h
            obtain ⟨j1, j2, j3, j4⟩ := ihL _ _ _ hq
            refine ⟨by simp, ?_, txL_cons.2 ⟨i2, j3⟩, ⟨i3, j4⟩⟩
            rw [i1, j2]
            cases l' with
            | nil => exact absurd rfl j1
            | cons x l' => simp [exQ_cons]
        · simp only [Option.some.injEq, Prod.mk.injEq] at h
          obtain ⟨rfl, rfl⟩ := h
          exact ⟨by simp, by rw [i1, exQ_cons]; simp [exQ], by simp [txL, i2], by simp [Rds, i3]⟩
def Stop (r : List UInt8) : Prop := ∀ c, r.head? = some c → c = 44 ∨ c = 41
theorem Stop.notN {r : List UInt8} (h : Stop r) : ∀ c, r.head? = some c → isN c = false := fun c hc => by rcases h c hc with rfl | rfl <;> decide
theorem Stop.notD {r : List UInt8} (h : Stop r) : ∀ c, r.head? = some c → isD c = false := fun c hc => by rcases h c hc with rfl | rfl <;> decide
theorem const_yes {v : Val} {t r : List UInt8} {n : Nat} (h : readS t = (v, 0)) (hn : n = t.length) : constP n (t ++ r) = some (mkV v, r) := by
  subst hn
  simp [constP, h]
theorem par_num : ∀ i : Fin 60, Lib.atoiAll (Lib.itoa (i.val : Int)) = .ok (i.val : Int) := by decide +kernel
theorem par_yes {n : Int} {r : List UInt8} (h0 : 0 ≤ n) (h1 : n ≤ 59) (hr : Stop r) : parP (Lib.itoa n ++ r) = some (mkP n, r) := by
  have ht := take_all (Lib.itoa n) r (itoa_pos h0) hr.notD
  have hd : digs (Lib.itoa n ++ r) = Lib.itoa n := ht.1
  have ha := par_num ⟨n.toNat, by omega⟩
  have e : ((n.toNat : Nat) : Int) = n := by omega
  simp only [e] at ha
  have hv : atoiV (Lib.itoa n) = n := by unfold atoiV; rw [ha]
  have ho : atoiOk (Lib.itoa n) = true := by unfold atoiOk; rw [ha]
  unfold parP countOk
  rw [hd, hv, ho, ht.2]
  simp only [Bool.true_and, beq_self_eq_true, true_and]
  rw [if_pos (by omega)]
theorem pE_word {k : Nat} {w d : List UInt8} (hw : w.all isN = true) (hd : ∀ c, d.head? = some c → isN c = false) (h58 : w ≠ [] ∨ d.head? = some 58) : pE (k + 1) (w ++ d) = wordP (pL k) w d (w ++ d) := by
  obtain ⟨t1, t2⟩ := take_all w d hw hd
  obtain ⟨c, r, hcr, hne⟩ : ∃ c r, w ++ d = c :: r ∧ (c ≠ 39 ∧ c ≠ 64 ∧ c ≠ 45 ∧ c ≠ 63) := by
    cases w with
    | nil =>
      rcases h58 with h | h
      · exact absurd rfl h
      · cases d with
        | nil => simp at h
        | cons c r =>
          simp only [List.head?_cons, Option.some.injEq] at h
          subst h
          exact ⟨58, r, rfl, by decide⟩
    | cons c r =>
      simp only [List.all_cons, Bool.and_eq_true] at hw
      have := isN_ne hw.1
      exact ⟨c, r ++ d, rfl, this.1, this.2.1, this.2.2.1, this.2.2.2.1⟩
  rw [hcr, pE, if_neg hne.1, if_neg hne.2.1, if_neg hne.2.2.1, if_neg hne.2.2.2, ← hcr, t1, t2]
theorem p_yes : ∀ e : Ex, txE e = 0 → Rd e → ∀ (r : List UInt8) (k : Nat), Stop r → 2 * (exT e ++ r).length + 1 ≤ k → pE k (exT e ++ r) = some (e, r) := by
  refine Ex.ind fun e ih => ?_
  intro ht hrd r k hr hk
  obtain ⟨hL, hs⟩ := tx_split e ht
  obtain ⟨k, rfl⟩ : ∃ j, k = j + 1 := ⟨k - 1, by omega⟩
  cases hs with
  | val v h hv =>
    subst h
    rw [exT_val] at hk ⊢
    have hq : readS (showS v) = (v, 0) := by
      simp only [mkV, Rd] at hrd
      exact hrd.1 trivial
    rcases show_shape hv with ⟨h1, h2⟩ | ⟨d, h1, h2⟩ | ⟨s, h1⟩ | ⟨d, h1, h2, _⟩
    · rw [pE_word h2 hr.notN (.inl h1)]
      cases r with
      | nil => exact const_yes hq rfl
      | cons b r =>
        have := hr b rfl
        unfold wordP
        simp only
        rw [if_neg (by rcases this with rfl | rfl <;> decide), if_neg (by rcases this with rfl | rfl <;> decide)]
        exact const_yes hq rfl
    · rw [h1] at hq ⊢
      have tt := take_all d r h2 hr.notD
      rw [List.cons_append, pE, if_neg (by decide), if_neg (by decide), if_pos rfl]
      have : digs (d ++ r) = d := tt.1
      rw [this]
      exact const_yes hq (by simp; omega)
    · rw [h1] at hq ⊢
      rw [List.cons_append, pE, if_pos rfl]
      refine const_yes hq ?_
      unfold quotedS
      simp only [List.drop_succ_cons, List.drop_zero, List.append_assoc, List.cons_append, List.nil_append]
      rw [quoAt_esc s r 1 (fun c hc => by rcases hr c hc with rfl | rfl <;> decide)]
      simp; omega
    · rw [h1] at hq ⊢
      rw [List.cons_append, pE, if_neg (by decide), if_pos rfl]
      exact const_yes hq (by simp; omega)
  | par n h h0 h1 =>
    subst h
    rw [exT_par, List.cons_append, pE, if_neg (by decide), if_neg (by decide), if_neg (by decide), if_pos rfl]
    exact par_yes h0 h1 hr
  | col s m h h0 h1 h2 =>
    subst h
    rw [exT_col, List.append_assoc, pE_word h2 (fun c hc => by simp at hc; subst hc; decide) (.inr rfl)]
    unfold wordP
    simp only [List.cons_append]
    rw [if_pos trivial]
    obtain ⟨t1, t2⟩ := take_all m r h1 hr.notN
    unfold colP
    rw [t1, t2, if_neg h0]
  | opr k' op n l h h0 h1 =>
    subst h
    have hl := args_ne h0 h1
    rw [exT_opr l h0] at hk ⊢
    simp only [List.append_assoc, List.cons_append, List.nil_append] at hk ⊢
    simp only [List.length_append, List.length_cons] at hk
    have hne : headT k' op n ≠ [] := by
      rcases h0 with ⟨rfl, hw, _⟩ | ⟨hk', rfl, rfl⟩
      · obtain ⟨hm, _⟩ := name_mem hw
        unfold headT; rw [if_pos rfl]
        exact fun e => names_ne _ hm (List.append_eq_nil_iff.1 e).1
      · rcases hk' with rfl | rfl <;> decide
    rw [pE_word (headT_isN h0) (fun c hc => by simp at hc; subst hc; decide) (.inl hne)]
    unfold wordP
    simp only
    rw [if_neg (by decide), if_pos trivial, head_yes h0]
    have hL : txL l = 0 := hL
    have hrd := (rd_opr _ _ _ _ (by have := head_k h0; omega)).1 hrd
    have key : ∀ (l : List Ex), l ≠ [] → (∀ a ∈ l, txE a = 0 → Rd a → ∀ (r : List UInt8) (k : Nat), Stop r → 2 * (exT a ++ r).length + 1 ≤ k → pE k (exT a ++ r) = some (a, r)) → txL l = 0 → Rds l → ∀ (k : Nat), 2 * ((exQ l).drop 1 ++ 41 :: r).length + 2 ≤ k → pL k ((exQ l).drop 1 ++ 41 :: r) = some (l, 41 :: r) := by
      intro l
      induction l with
      | nil => intro h; exact absurd rfl h
      | cons a l ihl =>
        intro _ ih hL hrd k hk
        obtain ⟨k, rfl⟩ : ∃ j, k = j + 1 := ⟨k - 1, by omega⟩
        obtain ⟨t1, t2⟩ := txL_cons.1 hL
        simp only [Rds] at hrd
        rw [exQ_cons] at hk ⊢
        simp only [List.drop_succ_cons, List.drop_zero, List.append_assoc] at hk ⊢
        cases l with
        | nil =>
          simp only [exQ, List.nil_append] at hk ⊢
          rw [pL, ih a (by simp) t1 hrd.1 (41 :: r) k (fun c hc => by simp at hc; exact .inr hc.symm) (by omega)]
          simp
        | cons b l =>
          have e1 : exQ (b :: l) = 44 :: (exQ (b :: l)).drop 1 := by rw [exQ_cons]; simp
          rw [e1] at hk ⊢
          simp only [List.cons_append] at hk ⊢
          rw [pL, ih a (by simp) t1 hrd.1 (44 :: ((exQ (b :: l)).drop 1 ++ 41 :: r)) k (fun c hc => by simp at hc; exact .inl hc.symm) (by omega)]
          simp only [if_true]
          rw [ihl (by simp) (fun x hx => ih x (List.mem_cons_of_mem _ hx)) t2 hrd.2 k (by simp only [List.length_append, List.length_cons] at hk ⊢; omega)]
    rw [key l hl (fun a ha => ih a ha) hL hrd k (by simp only [List.length_append, List.length_cons]; omega)]
    simp only [finP]
    rw [if_pos ⟨trivial, h1⟩]
def opIx (w : List UInt8) : Int := if w = [] then 0 else opNamedS w
def colR (t : List UInt8) : Ex := mkC (Lib.cut t [58]).1 (Lib.cut t [58]).2.1
def kindR (w : List UInt8) : Int := if w = [99, 97, 115, 101] then 5 else if w = [105, 110] then 6 else 4
noncomputable def sF : Nat → List UInt8 → Ex
  | 0, t => if (readS t).2 = 0 then mkV (readS t).1 else if Lib.hasPrefix t [63] = true then mkP (atoiV (Lib.trimPrefix t [63])) else colR t
  | d + 1, t => if (readS t).2 = 0 then mkV (readS t).1 else if Lib.hasPrefix t [63] = true then mkP (atoiV (Lib.trimPrefix t [63])) else
    if (Lib.cut t [40]).2.2 = false ∨ Lib.hasSuffix (Lib.cut t [40]).2.1 [41] = false then colR t
    else mkO (kindR (Lib.cut (Lib.cut t [40]).1 [46]).1) (opIx (Lib.cut (Lib.cut t [40]).1 [46]).1) (atoiV (Lib.cut (Lib.cut t [40]).1 [46]).2.1) ((argG (Lib.cut t [40]).2.1.dropLast 0 false []).map (sF d))
noncomputable def progR (t : List UInt8) : Option Ex := match pE (2 * t.length + 1) t with
  | some (e, []) => some e
  | _ => none
noncomputable def refR (t : List UInt8) : Option Ex := if txE (sF 1001 t) = 0 ∧ exT (sF 1001 t) = t then some (sF 1001 t) else none
theorem sF_rd : ∀ (d : Nat) (t : List UInt8), Rd (sF d t)
  | 0, t => by
    unfold sF
    split
    · rename_i h
      obtain ⟨_, h2⟩ := read_yes h
      simp only [mkV, Rd, Rds, and_true]
      intro _
      rw [h2, ← h]
    split
    · simp [mkP, Rd, Rds]
    · simp [colR, mkC, Rd, Rds]
  | d + 1, t => by
    rw [sF]
    split
    · rename_i h
      obtain ⟨_, h2⟩ := read_yes h
      simp only [mkV, Rd, Rds, and_true]
      intro _
      rw [h2, ← h]
    split
    · simp [mkP, Rd, Rds]
    split
    · simp [colR, mkC, Rd, Rds]
    · generalize argG _ _ _ _ = l
      rw [rd_opr _ _ _ _ (by unfold kindR; repeat' split <;> omega)]
      induction l with
      | nil => trivial
      | cons a l ih => exact ⟨sF_rd d a, ih⟩
theorem read_no {t : List UInt8} {c : UInt8} {r : List UInt8} (ht : t = c :: r) (h39 : c ≠ 39) (h64 : c ≠ 64) (hm : ∃ x ∈ t, isN x = false ∧ x ≠ 45) : ¬ (readS t).2 = 0 := fun h => by
  obtain ⟨hr, hs⟩ := read_yes h
  obtain ⟨x, hx, hxn, hx45⟩ := hm
  rcases show_shape hr with ⟨h1, h2⟩ | ⟨d, h1, h2⟩ | ⟨s, h1⟩ | ⟨d, h1, _, _⟩
  · rw [hs] at h2
    exact all_not h2 hxn hx
  · rw [hs] at h1
    rw [h1] at hx
    rcases List.mem_cons.1 hx with rfl | hx
    · exact hx45 rfl
    · exact all_not (p := isN) (List.all_eq_true.2 fun y hy => isD_isN (List.all_eq_true.1 h2 y hy)) hxn hx
  · rw [hs, ht] at h1
    exact h39 (List.cons.inj h1).1
  · rw [hs, ht] at h1
    exact h64 (List.cons.inj h1).1
theorem pre_yes (c : UInt8) (r : List UInt8) : Lib.hasPrefix (c :: r) [c] = true ∧ Lib.trimPrefix (c :: r) [c] = r := by
  have : Lib.hasPrefix (c :: r) [c] = true := by simp [Lib.hasPrefix]
  exact ⟨this, by simp [Lib.trimPrefix, this]⟩
theorem pre_not {b c : UInt8} (r : List UInt8) (h : b ≠ c) : Lib.hasPrefix (b :: r) [c] = false := by simp [Lib.hasPrefix, List.isPrefixOf]; exact Ne.symm h
theorem suf_yes (a : List UInt8) (c : UInt8) : Lib.hasSuffix (a ++ [c]) [c] = true := by
  simp [Lib.hasSuffix]
theorem plain_isN {s : List UInt8} (h : s.all isN = true) : s.all plainC = true := List.all_eq_true.2 fun x hx => isN_plain (List.all_eq_true.1 h x hx)
theorem bal_exT : ∀ e : Ex, txE e = 0 → Bal (exT e) := by
  refine Ex.ind fun e ih => ?_
  intro ht
  obtain ⟨hL, hs⟩ := tx_split e ht
  cases hs with
  | val v h hv =>
    subst h
    rw [exT_val]
    rcases show_shape hv with ⟨_, h2⟩ | ⟨d, h1, h2⟩ | ⟨s, h1⟩ | ⟨d, h1, _, h2⟩
    · exact bal_plain _ (plain_isN h2)
    · rw [h1]
      refine bal_plain _ ?_
      rw [List.all_cons, Bool.and_eq_true]
      exact ⟨by decide, plain_isN (List.all_eq_true.2 fun y hy => isD_isN (List.all_eq_true.1 h2 y hy))⟩
    · rw [h1]; exact bal_quo s
    · rw [h1]
      refine bal_plain _ ?_
      rw [List.all_cons, Bool.and_eq_true]
      exact ⟨by decide, h2⟩
  | par n h h0 h1 =>
    subst h
    rw [exT_par]
    refine bal_plain _ ?_
    rw [List.all_cons, Bool.and_eq_true]
    exact ⟨by decide, plain_isN (List.all_eq_true.2 fun y hy => isD_isN (List.all_eq_true.1 (itoa_pos h0) y hy))⟩
  | col s m h h0 h1 h2 =>
    subst h
    rw [exT_col]
    refine bal_plain _ ?_
    rw [List.all_append, List.all_cons, plain_isN h1, plain_isN h2]
    rfl
  | opr k op n l h h0 h1 =>
    subst h
    rw [exT_opr l h0]
    refine (bal_plain _ (plain_isN (headT_isN h0))).app (bal_in _ ?_)
    have hL : txL l = 0 := hL
    have key : ∀ l : List Ex, (∀ a ∈ l, txE a = 0 → Bal (exT a)) → txL l = 0 → ∀ (r : List UInt8) (d : Int) (cur : List UInt8), 1 ≤ d → argG (exQ l ++ r) d false cur = argG r d false (cur ++ exQ l) := by
      intro l
      induction l with
      | nil => intro _ _ r d cur _; simp [exQ]
      | cons a l ihl =>
        intro ih hL r d cur hd
        obtain ⟨t1, t2⟩ := txL_cons.1 hL
        rw [exQ_cons, List.cons_append, deep_comma _ _ _ hd, List.append_assoc, ih a (by simp) t1 _ _ _ (by omega), ihl (fun x hx => ih x (List.mem_cons_of_mem _ hx)) t2 r d _ hd]
        simp
    intro r d cur hd
    cases l with
    | nil => simp [exQ]
    | cons a l =>
      obtain ⟨t1, t2⟩ := txL_cons.1 hL
      rw [exQ_cons]
      simp only [List.drop_succ_cons, List.drop_zero, List.append_assoc]
      rw [ih a (by simp [mkO, Ex.args]) t1 _ _ _ (by omega), key l (fun x hx => ih x (by simp [mkO, Ex.args, hx])) t2 r d _ hd]
      simp
theorem arg_split : ∀ (l : List Ex), l ≠ [] → txL l = 0 → argG ((exQ l).drop 1) 0 false [] = l.map exT
  | [], h, _ => absurd rfl h
  | [a], _, hL => by
    obtain ⟨t1, _⟩ := txL_cons.1 hL
    have := bal_exT a t1 [] 0 [] (by omega)
    simp only [List.append_nil, List.nil_append] at this
    rw [exQ_cons]
    simp [exQ, this, argG]
  | a :: b :: l, _, hL => by
    obtain ⟨t1, t2⟩ := txL_cons.1 hL
    have ih := arg_split (b :: l) (by simp) t2
    have e1 : exQ (b :: l) = 44 :: (exQ (b :: l)).drop 1 := by rw [exQ_cons]; simp
    rw [exQ_cons, e1]
    simp only [List.drop_succ_cons, List.drop_zero]
    rw [bal_exT a t1 _ 0 _ (by omega), top_comma, ih]
    rfl
theorem opr_depth {k op n : Int} {l : List Ex} : exD (mkO k op n l) = 1 + exDs l := by simp [mkO, exD]
theorem head_ref {k op n : Int} (h : HeadOk k op n) : kindR (Lib.cut (headT k op n) [46]).1 = k ∧ opIx (Lib.cut (headT k op n) [46]).1 = op ∧ atoiV (Lib.cut (headT k op n) [46]).2.1 = n := by
  rcases h with ⟨rfl, hw, hn, hr⟩ | ⟨hk, rfl, rfl⟩
  · obtain ⟨hm, hnm⟩ := name_mem hw
    obtain ⟨hall, hne1, hne2⟩ := names_isN _ hm
    have h46 := (all_and hall).2
    have hix : opIx (opNameS op) = op := by unfold opIx; rw [if_neg (names_ne _ hm), hnm]
    have hkr : kindR (opNameS op) = 4 := by unfold kindR; rw [if_neg hne1, if_neg hne2]
    unfold headT
    rw [if_pos rfl]
    cases hs : hasNS op with
    | true =>
      have hb := headN hs hr
      simp only [if_true]
      rw [cut_app (c := 46) (opNameS op) (Lib.itoa n) h46]
      have hd := par_num ⟨n.toNat, by omega⟩
      have e : ((n.toNat : Nat) : Int) = n := by omega
      simp only [e] at hd
      exact ⟨hkr, hix, by unfold atoiV; simp only [hd]⟩
    | false =>
      obtain rfl := hn hs
      simp only [Bool.false_eq_true, if_false, List.append_nil]
      rw [cut_out (c := 46) (opNameS op) h46]
      exact ⟨hkr, hix, rfl⟩
  · rcases hk with rfl | rfl <;> decide +kernel
theorem sF_text : ∀ e : Ex, txE e = 0 → Rd e → ∀ d : Nat, exD e ≤ d + 1 → sF d (exT e) = e := by
  refine Ex.ind fun e ih => ?_
  intro ht hrd d hd
  obtain ⟨hL, hs⟩ := tx_split e ht
  cases hs with
  | val v h hv =>
    subst h
    rw [exT_val]
    have hq : readS (showS v) = (v, 0) := by
      simp only [mkV, Rd] at hrd
      exact hrd.1 trivial
    cases d <;> (rw [sF, hq]; simp)
  | par n h h0 h1 =>
    subst h
    rw [exT_par]
    have hno := read_no (t := 63 :: Lib.itoa n) rfl (by decide) (by decide) ⟨63, by simp, by decide, by decide⟩
    obtain ⟨p1, p2⟩ := pre_yes 63 (Lib.itoa n)
    have hd := par_num ⟨n.toNat, by omega⟩
    have e : ((n.toNat : Nat) : Int) = n := by omega
    simp only [e] at hd
    have hv : atoiV (Lib.itoa n) = n := by unfold atoiV; rw [hd]
    cases d <;> rw [sF, if_neg hno, if_pos p1, p2, hv]
  | col s m h h0 h1 h2 =>
    subst h
    rw [exT_col]
    have hc : ∃ c r, s ++ 58 :: m = c :: r ∧ c ≠ 39 ∧ c ≠ 64 ∧ c ≠ 63 := by
      cases s with
      | nil => exact ⟨58, m, rfl, by decide⟩
      | cons c r =>
        simp only [List.all_cons, Bool.and_eq_true] at h2
        have := isN_ne h2.1
        exact ⟨c, r ++ 58 :: m, rfl, this.1, this.2.1, this.2.2.2.1⟩
    obtain ⟨c, r, hcr, q1, q2, q3⟩ := hc
    have hno := read_no hcr q1 q2 ⟨58, by simp, by decide, by decide⟩
    have hp : Lib.hasPrefix (s ++ 58 :: m) [63] = false := by rw [hcr]; exact pre_not r q3
    have h58 := all_not (c := 58) h2 (by decide)
    have hcol : colR (s ++ 58 :: m) = mkC s m := by unfold colR; rw [cut_app s m h58]
    have h40 : (40 : UInt8) ∉ s ++ 58 :: m := by
      simp only [List.mem_append, List.mem_cons, not_or]
      exact ⟨all_not h2 (by decide), by decide, all_not h1 (by decide)⟩
    cases d with
    | zero => rw [sF, if_neg hno, if_neg (by rw [hp]; simp), hcol]
    | succ d => rw [sF, if_neg hno, if_neg (by rw [hp]; simp), if_pos (.inl (by rw [cut_out _ h40])), hcol]
  | opr k op n l h h0 h1 =>
    subst h
    have hl := args_ne h0 h1
    rw [opr_depth] at hd
    have hd1 : 1 ≤ exDs l := by
      cases l with
      | nil => exact absurd rfl hl
      | cons a l => cases a; simp only [exDs, exD]; omega
    obtain ⟨d, rfl⟩ : ∃ j, d = j + 1 := ⟨d - 1, by omega⟩
    rw [exT_opr l h0]
    have hne : headT k op n ≠ [] := by
      rcases h0 with ⟨rfl, hw, _⟩ | ⟨hk', rfl, rfl⟩
      · obtain ⟨hm, _⟩ := name_mem hw
        unfold headT; rw [if_pos rfl]
        exact fun e => names_ne _ hm (List.append_eq_nil_iff.1 e).1
      · rcases hk' with rfl | rfl <;> decide
    have hN := headT_isN h0
    obtain ⟨r1, r2, r3⟩ := head_ref h0
    have h40 := all_not (c := 40) hN (by decide)
    have hc : ∃ c r, headT k op n ++ 40 :: ((exQ l).drop 1 ++ [41]) = c :: r ∧ c ≠ 39 ∧ c ≠ 64 ∧ c ≠ 63 := by
      cases hh : headT k op n with
      | nil => exact absurd hh hne
      | cons c r =>
        rw [hh] at hN
        simp only [List.all_cons, Bool.and_eq_true] at hN
        have := isN_ne hN.1
        exact ⟨c, _, rfl, this.1, this.2.1, this.2.2.2.1⟩
    obtain ⟨c, r, hcr, q1, q2, q3⟩ := hc
    have hno := read_no hcr q1 q2 ⟨40, by simp, by decide, by decide⟩
    have hp : Lib.hasPrefix (headT k op n ++ 40 :: ((exQ l).drop 1 ++ [41])) [63] = false := by rw [hcr]; exact pre_not r q3
    have hL : txL l = 0 := hL
    have hrd := (rd_opr _ _ _ _ (by have := head_k h0; omega)).1 hrd
    rw [sF, if_neg hno, if_neg (by rw [hp]; simp), cut_app _ _ h40]
    simp only [suf_yes, Bool.true_eq_false, or_self, if_false, List.dropLast_concat, r1, r2, r3, arg_split l hl hL, List.map_map]
    have key : ∀ l : List Ex, (∀ a ∈ l, txE a = 0 → Rd a → ∀ d : Nat, exD a ≤ d + 1 → sF d (exT a) = a) → txL l = 0 → Rds l → exDs l ≤ d + 1 → l.map (sF d ∘ exT) = l := by
      intro l
      induction l with
      | nil => intros; rfl
      | cons a l ihl =>
        intro ih hL hrd hd
        obtain ⟨t1, t2⟩ := txL_cons.1 hL
        simp only [exDs] at hd
        rw [List.map_cons, ihl (fun x hx => ih x (List.mem_cons_of_mem _ hx)) t2 hrd.2 (by omega), Function.comp, ih a (by simp) t1 hrd.1 d (by omega)]
    rw [key l (fun a ha => ih a ha) hL hrd (by omega)]
theorem depth_le : ∀ e : Ex, txE e = 0 → exD e ≤ 1 + (exT e).count 41 := by
  refine Ex.ind fun e ih => ?_
  intro ht
  obtain ⟨hL, hs⟩ := tx_split e ht
  cases hs with
  | val v h hv => subst h; simp only [mkV, exD, exDs]; omega
  | par n h h0 h1 => subst h; simp only [mkP, exD, exDs]; omega
  | col s m h h0 h1 h2 => subst h; simp only [mkC, exD, exDs]; omega
  | opr k op n l h h0 h1 =>
    subst h
    rw [opr_depth, exT_opr l h0]
    have hL : txL l = 0 := hL
    have key : ∀ l : List Ex, (∀ a ∈ l, txE a = 0 → exD a ≤ 1 + (exT a).count 41) → txL l = 0 → exDs l ≤ 1 + (exQ l).count 41 := by
      intro l
      induction l with
      | nil => intros; simp [exDs]
      | cons a l ihl =>
        intro ih hL
        obtain ⟨t1, t2⟩ := txL_cons.1 hL
        have i1 := ih a (by simp) t1
        have i2 := ihl (fun x hx => ih x (List.mem_cons_of_mem _ hx)) t2
        rw [exQ_cons]
        simp only [exDs, List.count_cons, List.count_append]
        omega
    have hk := key l (fun a ha => ih a ha) hL
    have hq : (exQ l).count 41 = ((exQ l).drop 1).count 41 := by
      cases l with
      | nil => rfl
      | cons a l => rw [exQ_cons]; simp [List.count_cons]
    simp only [List.count_append, List.count_cons, List.count_nil]
    rw [hq] at hk
    simp only [beq_self_eq_true, if_true]
    omega
theorem reads_eq (t : List UInt8) (h : t.count 41 ≤ 1000) : progR t = refR t := by
  cases hp : progR t with
  | some e =>
    unfold progR at hp
    split at hp
    · rename_i e' hpe
      simp only [Option.some.injEq] at hp
      subst hp
      obtain ⟨h1, h2, h3⟩ := (p_sound _).1 _ _ _ hpe
      rw [List.append_nil] at h1
      have hd := depth_le e' h2
      rw [← h1] at hd
      have := sF_text e' h2 h3 1001 (by omega)
      rw [← h1] at this
      unfold refR
      rw [this, if_pos ⟨h2, h1.symm⟩]
    · simp at hp
  | none =>
    unfold refR
    by_cases hr : txE (sF 1001 t) = 0 ∧ exT (sF 1001 t) = t
    · exfalso
      have := p_yes (sF 1001 t) hr.1 (sF_rd _ _) [] (2 * t.length + 1) (fun c hc => by simp at hc) (by rw [hr.2, List.append_nil]; omega)
      rw [hr.2, List.append_nil] at this
      unfold progR at hp
      rw [this] at hp
      simp at hp
    · rw [if_neg hr]
def tot : List (List UInt8) → Nat
  | [] => 0
  | x :: r => x.length + 1 + tot r
theorem arg_tot : ∀ (t : List UInt8) (d : Int) (q : Bool) (cur : List UInt8), tot (argG t d q cur) = t.length + cur.length + 1
  | [], d, q, cur => by simp [argG, tot]
  | c :: r, d, q, cur => by
    rw [argG]
    repeat' split
    all_goals first
      | (rw [arg_tot r]; simp; omega)
      | (simp only [tot]; rw [arg_tot r]; simp; omega)
theorem cutL_len (t : List UInt8) (c : UInt8) (h : (Lib.cut t [c]).2.2 = true) : (Lib.cut t [c]).1.length + (Lib.cut t [c]).2.1.length + 1 = t.length := by
  rcases cut_split c t with ⟨a, r, ha, rfl⟩ | ha
  · rw [cut_app a r ha]; simp; omega
  · rw [cut_out t ha] at h; simp at h
theorem cutL_le (t : List UInt8) (c : UInt8) : (Lib.cut t [c]).1.length + (Lib.cut t [c]).2.1.length ≤ t.length := by
  rcases cut_split c t with ⟨a, r, ha, rfl⟩ | ha
  · rw [cut_app a r ha]; simp
  · rw [cut_out t ha]; simp
mutual
/-- Names within a bound. -/
def exL (N : Nat) : Ex → Prop
  | .mk _ _ _ _ src nm _ args => src.length ≤ N ∧ nm.length ≤ N ∧ exLs N args
def exLs (N : Nat) : List Ex → Prop
  | [] => True
  | e :: r => exL N e ∧ exLs N r
end
theorem exL_mem {N : Nat} {e : Ex} : ∀ {l : List Ex}, exLs N l → e ∈ l → exL N e
  | x :: r, h, he => by
    simp only [exLs] at h
    rcases List.mem_cons.1 he with rfl | he
    · exact h.1
    · exact exL_mem h.2 he
theorem exL_at {N : Nat} {e : Ex} (h : exL N e) : e.src.length ≤ N ∧ e.nm.length ≤ N ∧ exLs N e.args := by cases e; exact h
structure Fits (t : List UInt8) (N : Nat) (e : Ex) : Prop where
  n : exN e ≤ t.length + 1
  l : exL N e
  t : (exT e).length + 1 ≤ 42 * (t.length + 1)
theorem atoi_bounds (s : List UInt8) : -9223372036854775808 ≤ atoiV s ∧ atoiV s ≤ 9223372036854775807 := by
  unfold atoiV
  split
  · rename_i h; exact Lib.atoiAll_bounds h
  · exact Lib.atoiSat_bounds s
  · omega
theorem names_short : ∀ s ∈ opNames, s.length ≤ 8 := by decide
theorem name_short (op : Int) : (opNameS op).length ≤ 8 := by
  unfold opNameS
  split
  · cases h : opNames[(op - 1).toNat]? with
    | none => simp
    | some x => exact names_short x (List.mem_of_getElem? h)
  · simp
theorem headT_len (k op n : Int) (h0 : -9223372036854775808 ≤ n) (h1 : n ≤ 9223372036854775807) : (headT k op n).length ≤ 30 := by
  have := name_short op
  have := Lib.itoa_length_le n h0 h1
  unfold headT
  repeat' split
  all_goals simp only [List.length_append, List.length_cons, List.length_nil]; omega
theorem fits_val {t : List UInt8} {v : Val} {N : Nat} (h : showS v = t) : Fits t N (mkV v) := by
  refine ⟨by simp [mkV, exN, exNs], by simp [mkV, exL, exLs], ?_⟩
  rw [exT_val, h]; omega
theorem fits_par {t : List UInt8} {n : Int} {N : Nat} (h0 : -9223372036854775808 ≤ n) (h1 : n ≤ 9223372036854775807) : Fits t N (mkP n) := by
  have := Lib.itoa_length_le n h0 h1
  refine ⟨by simp [mkP, exN, exNs], by simp [mkP, exL, exLs], ?_⟩
  rw [exT_par, List.length_cons]; omega
theorem fits_col {t : List UInt8} {N : Nat} (h : t.length ≤ N) : Fits t N (colR t) := by
  have := cutL_le t 58
  refine ⟨by simp [colR, mkC, exN, exNs], by simp [colR, mkC, exL, exLs]; omega, ?_⟩
  unfold colR
  rw [exT_col, List.length_append, List.length_cons]; omega
theorem exQ_len (l : List Ex) : ((exQ l).drop 1).length + (if l = [] then 0 else 1) = (exQ l).length := by
  cases l with
  | nil => simp [exQ]
  | cons a l => rw [exQ_cons]; simp
theorem sF_fits (N : Nat) : ∀ (d : Nat) (t : List UInt8), t.length ≤ N → Fits t N (sF d t)
  | 0, t, hN => by
    unfold sF
    split
    · rename_i h; exact fits_val (read_yes h).2
    split
    · exact fits_par (atoi_bounds _).1 (atoi_bounds _).2
    · exact fits_col hN
  | d + 1, t, hN => by
    rw [sF]
    split
    · rename_i h; exact fits_val (read_yes h).2
    split
    · exact fits_par (atoi_bounds _).1 (atoi_bounds _).2
    split
    · exact fits_col hN
    · rename_i hc
      simp only [not_or, Bool.not_eq_false] at hc
      have hl := cutL_len t 40 hc.1
      have hs : 1 ≤ (Lib.cut t [40]).2.1.length := by
        cases hr : (Lib.cut t [40]).2.1 with
        | nil => rw [hr] at hc; exact absurd hc.2 (by decide)
        | cons a r => simp
      have ht := arg_tot (Lib.cut t [40]).2.1.dropLast 0 false []
      simp only [List.length_dropLast, List.length_nil] at ht
      generalize argG _ _ _ _ = l at ht ⊢
      have hb := atoi_bounds (Lib.cut (Lib.cut t [40]).1 [46]).2.1
      generalize atoiV _ = n at hb ⊢
      have hkr : kindR (Lib.cut (Lib.cut t [40]).1 [46]).1 = 4 ∨ kindR (Lib.cut (Lib.cut t [40]).1 [46]).1 = 5 ∨ kindR (Lib.cut (Lib.cut t [40]).1 [46]).1 = 6 := by
        unfold kindR
        split
        · exact .inr (.inl rfl)
        · split
          · exact .inr (.inr rfl)
          · exact .inl rfl
      generalize kindR _ = k at hkr ⊢
      generalize opIx _ = op
      have key : ∀ l : List (List UInt8), tot l ≤ N → exNs (l.map (sF d)) ≤ tot l ∧ exLs N (l.map (sF d)) ∧ (exQ (l.map (sF d))).length ≤ 42 * tot l := by
        intro l
        induction l with
        | nil => intro _; simp [exNs, exLs, exQ]
        | cons a l ihl =>
          intro hN
          simp only [tot] at hN ⊢
          obtain ⟨f1, f2, f3⟩ := sF_fits N d a (by omega)
          obtain ⟨i1, i2, i3⟩ := ihl (by omega)
          rw [List.map_cons, exQ_cons]
          simp only [exNs, exLs, List.length_cons, List.length_append]
          exact ⟨by omega, ⟨f2, i2⟩, by omega⟩
      obtain ⟨k1, k2, k3⟩ := key l (by omega)
      have hh := headT_len k op n hb.1 hb.2
      have hq := exQ_len (l.map (sF d))
      refine ⟨?_, ?_, ?_⟩
      · simp only [mkO, exN]; omega
      · simp only [mkO, exL]; exact ⟨Nat.zero_le _, Nat.zero_le _, k2⟩
      · simp only [mkO]
        rw [exT, if_neg (by omega), if_neg (by omega), if_neg (by omega)]
        simp only [List.length_append, List.length_cons, List.length_nil]
        have : ((exQ (l.map (sF d))).drop 1).length ≤ (exQ (l.map (sF d))).length := by omega
        omega
theorem exT_len : ∀ e : Ex, txE e = 0 → exL 1000 e → (exT e).length + 1 ≤ 2100 * exN e := by
  refine Ex.ind fun e ih => ?_
  intro ht hl
  obtain ⟨hL, hs⟩ := tx_split e ht
  cases hs with
  | val v h hv =>
    subst h
    have := show_len v
    rw [exT_val]
    simp only [mkV, exN, exNs]; omega
  | par n h h0 h1 =>
    subst h
    have := Lib.itoa_length_le n (by omega) (by omega)
    rw [exT_par]
    simp only [mkP, exN, exNs, List.length_cons]; omega
  | col s m h h0 h1 h2 =>
    subst h
    have := exL_at hl
    simp only [mkC, Ex.src, Ex.nm] at this
    rw [exT_col]
    simp only [mkC, exN, exNs, List.length_append, List.length_cons]; omega
  | opr k op n l h h0 h1 =>
    subst h
    have hlL : exLs 1000 l := (exL_at hl).2.2
    have hL : txL l = 0 := hL
    rw [exT_opr l h0]
    have key : ∀ l : List Ex, (∀ a ∈ l, txE a = 0 → exL 1000 a → (exT a).length + 1 ≤ 2100 * exN a) → txL l = 0 → exLs 1000 l → (exQ l).length ≤ 2100 * exNs l := by
      intro l
      induction l with
      | nil => intros; simp [exQ]
      | cons a l ihl =>
        intro ih hL hl
        obtain ⟨t1, t2⟩ := txL_cons.1 hL
        simp only [exLs] at hl
        have i1 := ih a (by simp) t1 hl.1
        have i2 := ihl (fun x hx => ih x (List.mem_cons_of_mem _ hx)) t2 hl.2
        rw [exQ_cons]
        simp only [exNs, List.length_cons, List.length_append]; omega
    have hk := key l (fun a ha => ih a ha) hL hlL
    have hn : -9223372036854775808 ≤ n ∧ n ≤ 9223372036854775807 := by
      rcases h0 with ⟨_, _, hn, hr⟩ | ⟨_, _, rfl⟩
      · cases hs : hasNS op with
        | true => have := headN hs hr; omega
        | false => have := hn hs; omega
      · omega
    have hh := headT_len k op n hn.1 hn.2
    have hq := exQ_len l
    simp only [mkO, exN, List.length_append, List.length_cons, List.length_nil]
    omega
mutual
def exP : Ex → Prop
  | .mk _ _ _ v _ _ _ args => (41 : UInt8) ∉ v.s ∧ exPs args
def exPs : List Ex → Prop
  | [] => True
  | e :: r => exP e ∧ exPs r
end
theorem count_no {p : UInt8 → Bool} {s : List UInt8} (h : s.all p = true) (hp : p 41 = false) : s.count 41 = 0 := List.count_eq_zero.2 (all_not h hp)
theorem count_esc : ∀ s : List UInt8, (esc s).count 41 = s.count 41
  | [] => rfl
  | c :: r => by
    by_cases hc : c = 39
    · subst hc; rw [esc, if_pos rfl]; simp [List.count_cons, count_esc r]
    · rw [esc, if_neg hc]; simp only [List.count_cons, count_esc r]
theorem show_text_s {v : Val} (h : rightS v = true) {s : List UInt8} (hs : showS v = 39 :: (esc s ++ [39])) (hv : (41 : UInt8) ∉ v.s) : (showS v).count 41 = 0 := by
  rcases show_cases h with h1 | ⟨d, h1, h2⟩ | h1 | ⟨d, h1, _, h2⟩
  · exact count_no h1.2 (by decide)
  · rw [h1] at hs; exact absurd (List.cons.inj hs).1 (by decide)
  · rw [h1, List.count_cons, List.count_append, count_esc, List.count_eq_zero.2 hv]; rfl
  · rw [h1] at hs; exact absurd (List.cons.inj hs).1 (by decide)
theorem show_count {v : Val} (h : rightS v = true) (hv : (41 : UInt8) ∉ v.s) : (showS v).count 41 = 0 := by
  rcases show_shape h with h1 | ⟨d, h1, h2⟩ | ⟨s, h1⟩ | ⟨d, h1, _, h2⟩
  · exact count_no h1.2 (by decide)
  · rw [h1, List.count_cons, count_no h2 (by decide)]; rfl
  · exact show_text_s h h1 hv
  · rw [h1, List.count_cons, count_no h2 (by decide)]; rfl
theorem exT_count : ∀ e : Ex, txE e = 0 → exP e → (exT e).count 41 ≤ exN e := by
  refine Ex.ind fun e ih => ?_
  intro ht hp
  obtain ⟨hL, hs⟩ := tx_split e ht
  cases hs with
  | val v h hv =>
    subst h
    rw [exT_val, show_count hv (by simp only [mkV, exP] at hp; exact hp.1)]
    exact Nat.zero_le _
  | par n h h0 h1 =>
    subst h
    rw [exT_par, List.count_cons, count_no (itoa_pos h0) (by decide)]
    exact Nat.zero_le _
  | col s m h h0 h1 h2 =>
    subst h
    rw [exT_col, List.count_append, List.count_cons, count_no h1 (by decide), count_no h2 (by decide)]
    exact Nat.zero_le _
  | opr k op n l h h0 h1 =>
    subst h
    have hL : txL l = 0 := hL
    have hp : exPs l := by simp only [mkO, exP] at hp; exact hp.2
    rw [exT_opr l h0]
    have key : ∀ l : List Ex, (∀ a ∈ l, txE a = 0 → exP a → (exT a).count 41 ≤ exN a) → txL l = 0 → exPs l → (exQ l).count 41 ≤ exNs l := by
      intro l
      induction l with
      | nil => intros; simp [exQ]
      | cons a l ihl =>
        intro ih hL hl
        obtain ⟨t1, t2⟩ := txL_cons.1 hL
        simp only [exPs] at hl
        have i1 := ih a (by simp) t1 hl.1
        have i2 := ihl (fun x hx => ih x (List.mem_cons_of_mem _ hx)) t2 hl.2
        rw [exQ_cons]
        simp only [exNs, List.count_cons, List.count_append]
        have : ((44 : UInt8) == 41) = false := by decide
        simp only [this]
        simp; omega
    have hk := key l (fun a ha => ih a ha) hL hp
    have hq : ((exQ l).drop 1).count 41 ≤ (exQ l).count 41 := List.Sublist.count_le _ (List.drop_sublist _ _)
    simp only [mkO, exN, List.count_append, List.count_cons, List.count_nil, count_no (headT_isN h0) (by decide)]
    have : ((40 : UInt8) == 41) = false := by decide
    simp only [this, beq_self_eq_true, Bool.false_eq_true, if_false, if_true]
    omega
@[go_sem] theorem nilOr_t : nilOr true = .nils := rfl
@[go_sem] theorem nilOr_f : nilOr false = .rows [] := rfl
abbrev Rdr (t : List UInt8) (b : Bool) : Heap := [.cells [.str t, .bool b, .bool false]]
abbrev B8 (c : UInt8) : AV := .int .u8 (c.toNat : Int)
def ex0 : Ex := .mk 0 0 0 null [] [] false []
abbrev zeroN : List AV := [I 0, I 0, I 0, I 0, I 0, .str [], .str [], .str [], .bool false, .nils, .nils, .nils, .nils]
theorem c_ofName (c : UInt8) : R K (.call 238 [B8 c] []) = some (.bool (isN c), []) := by
  have h := c.toNat_lt
  rw [call_238]
  simp -implicitDefEqProofs only [go_sem, simprocAttr, Tryz.f238]
  repeat' ((first | apply split_cond | apply split_yes | apply split_no) <;> intro hc <;> simp -implicitDefEqProofs only [hc, go_sem, simprocAttr])
  all_goals (refine congrArg (fun b => ((AV.bool b, []) : AV × Heap)) (Bool.eq_iff_iff.2 ⟨fun hh => ?_, fun hh => ?_⟩) <;> (try simp only [isN, isD, Bool.or_eq_true, Bool.and_eq_true, decide_eq_true_eq, decide_eq_false_iff_not, beq_iff_eq, beq_eq_false_iff_ne] at *) <;> (first | omega | (simp at hh)))
theorem c_digit (c : UInt8) : R K (.call 274 [B8 c] []) = some (.bool (isD c), []) := by
  have h := c.toNat_lt
  rw [call_274]
  simp -implicitDefEqProofs only [go_sem, simprocAttr, Tryz.f274]
  repeat' ((first | apply split_cond | apply split_yes | apply split_no) <;> intro hc <;> simp -implicitDefEqProofs only [hc, go_sem, simprocAttr])
  all_goals (refine congrArg (fun b => ((AV.bool b, []) : AV × Heap)) (Bool.eq_iff_iff.2 ⟨fun hh => ?_, fun hh => ?_⟩) <;> (try simp only [isD, Bool.and_eq_true, decide_eq_true_eq, decide_eq_false_iff_not] at *) <;> (first | omega | (simp at hh)))
theorem l_while (g : Nat) (p : UInt8 → Bool) (hp : ∀ c : UInt8, R K (.call g [B8 c] []) = some (.bool (p c), [])) (t : List UInt8) (b : Bool) (ht : t.length ≤ 10000000) (ks : List It) : ∀ (m j : Nat) (i : Int) (Bo : Code), Loop Tryz.f237 0 Bo → i = (j : Int) → t.length = j + m →
   RL K (.run 237 1 (.code Bo :: .lp Bo (some ([0, 1, 5], [])) 1 :: .blk 0 1 :: ks) [(0, .ptr 0 0), (1, .fn g []), (5, I i)] (Rdr t b)) =
   R K (.run 237 1 ks [(0, .ptr 0 0), (5, I ((j + ((t.drop j).takeWhile p).length : Nat) : Int))] (Rdr t b))
  | 0, j, i, Bo, hB, hi, hj => by
    subst hi
    have h1 : decide ((j : Int) < (t.length : Int)) = false := decide_eq_false (by omega)
    rw [List.drop_of_length_le (by omega)]
    unfold Loop at hB
    simp -implicitDefEqProofs only [go_sem, simprocAttr, Tryz.f237, loopOf] at hB
    subst hB
    rw [RL_eq]
    simp -implicitDefEqProofs only [go_sem, simprocAttr, h1]
    repeat' ((first | apply split_cond | apply split_yes | apply split_no) <;> intro hc <;> simp -implicitDefEqProofs only [hc, go_sem, simprocAttr, h1])
    rfl
  | m + 1, j, i, Bo, hB, hi, hj => by
    subst hi
    have hB' := hB
    have h1 : decide ((j : Int) < (t.length : Int)) = true := decide_eq_true (by omega)
    obtain ⟨x, hx⟩ := some_at (l := t) (i := j) (by omega)
    have hg := byte_get hx
    have w1 : wrapI .i64 ((j : Int) + 1) = ((j + 1 : Nat) : Int) := by rw [wrap_id (by omega) (by omega)]; rfl
    have hq := hp x
    rw [drop_get hx]
    cases hpx : p x with
    | false =>
      rw [hpx] at hq
      unfold Loop at hB
      simp -implicitDefEqProofs only [go_sem, simprocAttr, Tryz.f237, loopOf] at hB
      subst hB
      rw [RL_eq]
      simp -implicitDefEqProofs only [go_sem, simprocAttr, h1, hg, hq]
      repeat' ((first | apply split_cond | apply split_yes | apply split_no) <;> intro hc <;> simp -implicitDefEqProofs only [hc, go_sem, simprocAttr, h1, hg, hq])
      simp [hpx]
    | true =>
      rw [hpx] at hq
      have ih := l_while g p hp t b ht ks m (j + 1) _ Bo hB' rfl (by omega)
      unfold Loop at hB
      simp -implicitDefEqProofs only [go_sem, simprocAttr, Tryz.f237, loopOf] at hB
      subst hB
      rw [RL_eq]
      simp -implicitDefEqProofs only [go_sem, simprocAttr, h1, hg, hq, w1]
      repeat' ((first | apply split_cond | apply split_yes | apply split_no) <;> intro hc <;> simp -implicitDefEqProofs only [hc, go_sem, simprocAttr, h1, hg, hq, w1])
      rw [ih]
      simp only [List.takeWhile_cons, hpx, if_true, List.length_cons]
      rw [show j + 1 + (List.takeWhile p (List.drop (j + 1) t)).length = j + ((List.takeWhile p (List.drop (j + 1) t)).length + 1) by omega]
theorem take_len (p : UInt8 → Bool) (t : List UInt8) : (t.takeWhile p).length ≤ t.length ∧ t.take (t.takeWhile p).length = t.takeWhile p ∧ t.drop (t.takeWhile p).length = t.dropWhile p := by
  have h := take_drop p t
  have h2 : t.length = (t.takeWhile p).length + (t.dropWhile p).length := by rw [← List.length_append, h]
  refine ⟨by omega, ?_, ?_⟩
  · conv => lhs; arg 2; rw [← h]
    exact List.take_left
  · conv => lhs; arg 2; rw [← h]
    exact List.drop_left
theorem take_self {α : Type} (l : List α) (n : Nat) : (l.drop n).take (l.length - n) = l.drop n := List.take_of_length_le (by simp)
theorem c_while (g : Nat) (p : UInt8 → Bool) (hp : ∀ c : UInt8, R K (.call g [B8 c] []) = some (.bool (p c), [])) (t : List UInt8) (b : Bool) (ht : t.length ≤ 10000000) : R K (.call 237 [.ptr 0 0, .fn g []] (Rdr t b)) = some (.str (t.takeWhile p), Rdr (t.dropWhile p) b) := by
  obtain ⟨q1, q2, q3⟩ := take_len p t
  have lk := fun ks B hB => l_while g p hp t b ht ks t.length 0 0 B hB rfl (by omega)
  simp only [List.drop_zero, Nat.zero_add] at lk
  have g1 : ((0 : Int) ≤ ((t.takeWhile p).length : Int)) = True := eq_true (by omega)
  have g2 : (((t.takeWhile p).length : Int) ≤ (t.length : Int)) = True := eq_true (by omega)
  rw [call_237]
  simp -implicitDefEqProofs only [go_sem, simprocAttr, Tryz.f237]
  repeat' ((first | apply split_cond | apply split_yes | apply split_no) <;> intro hc <;> simp -implicitDefEqProofs only [hc, go_sem, simprocAttr])
  rw [lk _ _ ?_]
  · have q4 : List.take (t.length - (t.takeWhile p).length) (t.dropWhile p) = t.dropWhile p := by rw [← q3]; exact take_self t _
    simp -implicitDefEqProofs only [go_sem, simprocAttr, g1, g2, Int.toNat_natCast, take_self, Nat.sub_zero, q2, q3, q4]
    repeat' ((first | apply split_cond | apply split_yes | apply split_no) <;> intro hc <;> simp -implicitDefEqProofs only [hc, go_sem, simprocAttr, g1, g2, Int.toNat_natCast, take_self, Nat.sub_zero, q2, q3, q4])
  · rfl
theorem c_take_nil (b : Bool) (n : Int) : R K (.call 236 [.ptr 0 0, .int .u8 n] (Rdr [] b)) = some (.bool false, Rdr [] b) := by
  rw [call_236]
  simp -implicitDefEqProofs only [go_sem, simprocAttr, Tryz.f236, beq_self_eq_true]
  repeat' ((first | apply split_cond | apply split_yes | apply split_no) <;> intro hc <;> simp -implicitDefEqProofs only [hc, go_sem, simprocAttr, beq_self_eq_true])
theorem nil_ne (x : UInt8) (r : List UInt8) : ((x :: r : List UInt8) == []) = false := rfl
theorem at_hd (x : UInt8) (r : List UInt8) : at? (x :: r) (0 : Int) = some x := rfl
theorem c_take_no (x : UInt8) (r : List UInt8) (b : Bool) (n : Int) (h : (x.toNat : Int) ≠ n) : R K (.call 236 [.ptr 0 0, .int .u8 n] (Rdr (x :: r) b)) = some (.bool false, Rdr (x :: r) b) := by
  have d : ((x.toNat : Int) == n) = false := by simpa using h
  rw [call_236]
  simp -implicitDefEqProofs only [go_sem, simprocAttr, Tryz.f236, nil_ne, at_hd, d, bne]
  repeat' ((first | apply split_cond | apply split_yes | apply split_no) <;> intro hc <;> simp -implicitDefEqProofs only [hc, go_sem, simprocAttr, nil_ne, at_hd, d, bne])
theorem c_take_yes (x : UInt8) (r : List UInt8) (b : Bool) (n : Int) (h : (x.toNat : Int) = n) (hr : r.length ≤ 10000000) : R K (.call 236 [.ptr 0 0, .int .u8 n] (Rdr (x :: r) b)) = some (.bool true, Rdr r b) := by
  have d : ((x.toNat : Int) == n) = true := by simpa using h
  have g1 : ((1 : Int) ≤ ((r.length + 1 : Nat) : Int)) = True := eq_true (by omega)
  have g2 : (1 : Int).toNat = 1 := rfl
  rw [call_236]
  simp -implicitDefEqProofs only [go_sem, simprocAttr, Tryz.f236, nil_ne, at_hd, d, bne, g1, g2, Nat.add_sub_cancel, List.take_length]
  repeat' ((first | apply split_cond | apply split_yes | apply split_no) <;> intro hc <;> simp -implicitDefEqProofs only [hc, go_sem, simprocAttr, nil_ne, at_hd, d, bne, g1, g2, Nat.add_sub_cancel, List.take_length])
theorem c_fail (t : List UInt8) (b : Bool) : R K (.call 232 [.ptr 0 0] (Rdr t b)) = some (.agg zeroN, Rdr t true) := by
  rw [call_232]
  simp -implicitDefEqProofs only [go_sem, simprocAttr, Tryz.f232]
  repeat' ((first | apply split_cond | apply split_yes | apply split_no) <;> intro hc <;> simp -implicitDefEqProofs only [hc, go_sem, simprocAttr])
  all_goals rfl
theorem c_constant (n : Nat) (t : List UInt8) (hn : n ≤ t.length) (ht : t.length ≤ 10000000) : R K (.call 233 [.ptr 0 0, I (n : Int)] (Rdr t false)) = some (match constP n t with
    | some (e, r) => (.agg (exC e), Rdr r false)
    | none => (.agg (exC ex0), Rdr t true)) := by
  have hr := c_Read (t.take n) (by simp; omega)
  have g1 : ((0 : Int) ≤ (n : Int)) = True := eq_true (by omega)
  have g2 : ((n : Int) ≤ (t.length : Int)) = True := eq_true (by omega)
  have hf := c_fail t false
  unfold constP
  generalize readS (t.take n) = x at hr ⊢
  obtain ⟨v, e⟩ := x
  simp only at hr ⊢
  by_cases he : e = 0
  · subst he
    rw [if_pos rfl]
    rw [call_233]
    simp -implicitDefEqProofs only [go_sem, simprocAttr, Tryz.f233, g1, g2, Int.toNat_natCast, Nat.sub_zero, take_self, hr, bne, beq_self_eq_true]
    repeat' ((first | apply split_cond | apply split_yes | apply split_no) <;> intro hc <;> simp -implicitDefEqProofs only [hc, go_sem, simprocAttr, g1, g2, Int.toNat_natCast, Nat.sub_zero, take_self, hr, bne, beq_self_eq_true])
    all_goals rfl
  · have b0 : (e == 0) = false := by simpa using he
    rw [if_neg he]
    rw [call_233]
    simp -implicitDefEqProofs only [go_sem, simprocAttr, Tryz.f233, g1, g2, Int.toNat_natCast, Nat.sub_zero, take_self, hr, bne, b0, hf]
    repeat' ((first | apply split_cond | apply split_yes | apply split_no) <;> intro hc <;> simp -implicitDefEqProofs only [hc, go_sem, simprocAttr, g1, g2, Int.toNat_natCast, Nat.sub_zero, take_self, hr, bne, b0, hf])
    all_goals rfl
theorem p_Atoi (s : List UInt8) (hs : s.length ≤ 10000000) : ∃ e, R K (.call 118 [.str s] []) = some (.tup [I (atoiV s), e], []) ∧ (atoiOk s = true → e = .nili) ∧ (atoiOk s = false → e = .iface 207 .any) := by
  have hl : decide (s.length ≤ 281474976710656) = true := decide_eq_true (by omega)
  have hp : ∀ x, pAtoi [.str s] = some x → R K (.call 118 [.str s] []) = some (x, []) := fun x hx => R_prim hx
  unfold atoiV atoiOk
  unfold pAtoi at hp
  simp only [hl, if_true] at hp
  cases h : Lib.atoiAll s with
  | ok v => exact ⟨_, hp _ (by rw [h]), fun _ => rfl, fun h => by simp at h⟩
  | range => exact ⟨_, hp _ (by rw [h]), fun h => by simp at h, fun _ => rfl⟩
  | _ => exact ⟨_, hp _ (by rw [h]), fun h => by simp at h, fun _ => rfl⟩
theorem c_count (t : List UInt8) (b : Bool) (ht : t.length ≤ 10000000) : R K (.call 235 [.ptr 0 0] (Rdr t b)) = some (I (atoiV (digs t)), Rdr (t.dropWhile isD) (b || !countOk t)) := by
  have hw := c_while 274 isD c_digit t b ht
  have hl := (take_len isD t).1
  obtain ⟨e, ha, h1, h2⟩ := p_Atoi (t.takeWhile isD) (by omega)
  have hb := atoi_bounds (t.takeWhile isD)
  have hi := p_Itoa (atoiV (t.takeWhile isD)) hb.1 hb.2
  unfold countOk digs
  cases ho : atoiOk (t.takeWhile isD) with
  | true =>
    obtain rfl := h1 ho
    cases hq : (Lib.itoa (atoiV (t.takeWhile isD)) == t.takeWhile isD) with
    | true =>
      rw [call_235]
      simp -implicitDefEqProofs only [go_sem, simprocAttr, Tryz.f235, hw, ha, hi, bne, hq]
      repeat' ((first | apply split_cond | apply split_yes | apply split_no) <;> intro hc <;> simp -implicitDefEqProofs only [hc, go_sem, simprocAttr, hw, ha, hi, bne, hq])
      all_goals (cases b <;> rfl)
    | false =>
      rw [call_235]
      simp -implicitDefEqProofs only [go_sem, simprocAttr, Tryz.f235, hw, ha, hi, bne, hq]
      repeat' ((first | apply split_cond | apply split_yes | apply split_no) <;> intro hc <;> simp -implicitDefEqProofs only [hc, go_sem, simprocAttr, hw, ha, hi, bne, hq])
      all_goals (cases b <;> rfl)
  | false =>
    obtain rfl := h2 ho
    rw [call_235]
    simp -implicitDefEqProofs only [go_sem, simprocAttr, Tryz.f235, hw, ha, bne]
    repeat' ((first | apply split_cond | apply split_yes | apply split_no) <;> intro hc <;> simp -implicitDefEqProofs only [hc, go_sem, simprocAttr, hw, ha, bne])
    all_goals (cases b <;> rfl)
def opFrom (w : List UInt8) : List (List UInt8) → Int → Int
  | [], _ => 0
  | s :: r, i => if s = w then i else opFrom w r (i + 1)
theorem opFrom_eq (w : List UInt8) : ∀ (l : List (List UInt8)) (i : Int), opFrom w l i = match l.findIdx? (· == w) with
    | some k => (k : Int) + i
    | none => 0
  | [], _ => rfl
  | s :: r, i => by
    rw [opFrom, List.findIdx?_cons]
    by_cases h : s = w
    · simp [h]
    · have : (s == w) = false := by simpa using h
      rw [if_neg h, opFrom_eq w r (i + 1), this]
      cases r.findIdx? (· == w) with
      | none => rfl
      | some k =>
        show (k : Int) + (i + 1) = ((k + 1 : Nat) : Int) + i
        omega
theorem l_opNamed (w : List UInt8) (H0 : List AV) (ks : List It) : ∀ (m j : Nat) (i : Int) (Bo : Code), Loop Tryz.f275 0 Bo → i = (j : Int) + 1 → 27 = j + m →
   RL K (.run 275 0 (.code Bo :: .lp Bo (some ([0, 3], [])) 0 :: .blk 0 0 :: ks) [(0, .str w), (3, I i)] []) =
   if opFrom w (opNames.drop j) i ≠ 0 then some (I (opFrom w (opNames.drop j) i), []) else R K (.run 275 0 ks [] [])
  | 0, j, i, Bo, hB, hi, hj => by
    subst hi
    have h1 : decide ((j : Int) + 1 ≤ 27) = false := decide_eq_false (by omega)
    have hl := names_len
    rw [List.drop_of_length_le (by omega)]
    simp only [opFrom, ne_eq, not_true, if_false]
    unfold Loop at hB
    simp -implicitDefEqProofs only [go_sem, simprocAttr, Tryz.f275, loopOf] at hB
    subst hB
    rw [RL_eq]
    simp -implicitDefEqProofs only [go_sem, simprocAttr, h1]
    repeat' ((first | apply split_cond | apply split_yes | apply split_no) <;> intro hc <;> simp -implicitDefEqProofs only [hc, go_sem, simprocAttr, h1])
  | m + 1, j, i, Bo, hB, hi, hj => by
    have hB' := hB
    subst hi
    have h1 : decide ((j : Int) + 1 ≤ 27) = true := decide_eq_true (by omega)
    have hl := names_len
    obtain ⟨x, hx⟩ := some_at (l := opNames) (i := j) (by omega)
    have w1 : wrapI .i64 ((j : Int) + 1 + 1) = ((j + 1 : Nat) : Int) + 1 := by rw [wrap_id (by omega) (by omega)]; omega
    have ho := c_opName ((j : Int) + 1)
    have hn : opNameS ((j : Int) + 1) = x := by
      unfold opNameS
      rw [if_pos ((wit_iff _ _ _).2 (by omega))]
      have : ((j : Int) + 1 - 1).toNat = j := by omega
      rw [this, hx]; rfl
    rw [hn] at ho
    rw [drop_get hx, opFrom]
    by_cases hq : x = w
    · have b1 : (x == w) = true := by simpa using hq
      rw [if_pos hq, if_pos (by omega)]
      unfold Loop at hB
      simp -implicitDefEqProofs only [go_sem, simprocAttr, Tryz.f275, loopOf] at hB
      subst hB
      rw [RL_eq]
      simp -implicitDefEqProofs only [go_sem, simprocAttr, h1, ho, b1]
      repeat' ((first | apply split_cond | apply split_yes | apply split_no) <;> intro hc <;> simp -implicitDefEqProofs only [hc, go_sem, simprocAttr, h1, ho, b1])
    · have b1 : (x == w) = false := by simpa using hq
      have ih := l_opNamed w H0 ks m (j + 1) _ Bo hB' rfl (by omega)
      rw [if_neg hq]
      have e2 : ((j : Int) + 1 + 1) = ((j + 1 : Nat) : Int) + 1 := by omega
      rw [e2]
      unfold Loop at hB
      simp -implicitDefEqProofs only [go_sem, simprocAttr, Tryz.f275, loopOf] at hB
      subst hB
      rw [RL_eq]
      simp -implicitDefEqProofs only [go_sem, simprocAttr, h1, ho, b1, w1]
      repeat' ((first | apply split_cond | apply split_yes | apply split_no) <;> intro hc <;> simp -implicitDefEqProofs only [hc, go_sem, simprocAttr, h1, ho, b1, w1])
      rw [ih]
theorem c_opNamed (w : List UInt8) : R K (.call 275 [.str w] []) = some (I (opNamedS w), []) := by
  have e : opNamedS w = opFrom w opNames 1 := by rw [opFrom_eq]; rfl
  have lk := fun ks B hB => l_opNamed w [] ks 27 0 1 B hB rfl rfl
  simp only [List.drop_zero] at lk
  rw [e]
  rw [call_275]
  simp -implicitDefEqProofs only [go_sem, simprocAttr, Tryz.f275]
  repeat' ((first | apply split_cond | apply split_yes | apply split_no) <;> intro hc <;> simp -implicitDefEqProofs only [hc, go_sem, simprocAttr])
  rw [lk _ _ ?_]
  · by_cases h : opFrom w opNames 1 = 0
    · rw [if_neg (by simpa using h), h]
      simp -implicitDefEqProofs only [go_sem, simprocAttr]
      repeat' ((first | apply split_cond | apply split_yes | apply split_no) <;> intro hc <;> simp -implicitDefEqProofs only [hc, go_sem, simprocAttr])
    · rw [if_pos h]
  · rfl
theorem p_Cut (s : List UInt8) (p : List UInt8) (hs : s.length ≤ 10000000) : R K (.call 178 [.str s, .str p] []) = some (.tup [.str (Lib.cut s p).1, .str (Lib.cut s p).2.1, .bool (Lib.cut s p).2.2], []) := R_prim (by
  show (if decide (s.length < 4294967281) = true then some _ else none) = _
  rw [if_pos (by simp; omega)])
abbrev headC (k op n : Int) : List AV := [I k, I op, I n, I 0, I 0, .str [], .str [], .str [], .bool false, .nils, .nils, .nils, .nils]
theorem c_headed (w t : List UInt8) (hw : w.length ≤ 10000000) : R K (.call 241 [.ptr 0 0, .str w] (Rdr t false)) = some (match headS w with
    | some (k, op, n) => (.agg (headC k op n), Rdr t false)
    | none => (.agg zeroN, Rdr t true)) := by
  unfold headS
  by_cases h1 : w = [99, 97, 115, 101]
  · subst h1
    rw [if_pos rfl]
    rw [call_241]
    simp -implicitDefEqProofs only [go_sem, simprocAttr, Tryz.f241, beq_self_eq_true]
    repeat' ((first | apply split_cond | apply split_yes | apply split_no) <;> intro hc <;> simp -implicitDefEqProofs only [hc, go_sem, simprocAttr, beq_self_eq_true])
  have b1 : (w == [99, 97, 115, 101]) = false := by simpa using h1
  rw [if_neg h1]
  by_cases h2 : w = [105, 110]
  · subst h2
    rw [if_pos rfl]
    rw [call_241]
    simp -implicitDefEqProofs only [go_sem, simprocAttr, Tryz.f241, b1, beq_self_eq_true]
    repeat' ((first | apply split_cond | apply split_yes | apply split_no) <;> intro hc <;> simp -implicitDefEqProofs only [hc, go_sem, simprocAttr, b1, beq_self_eq_true])
  have b2 : (w == [105, 110]) = false := by simpa using h2
  rw [if_neg h2]
  have hc := p_Cut w [46] hw
  have hl := cutL_le w 46
  have hf := c_fail t false
  generalize Lib.cut w [46] = x at hc hl ⊢
  obtain ⟨a, r, pt⟩ := x
  simp only at hc hl ⊢
  have ho := c_opNamed a
  have hu := c_usesN (opNamedS a)
  generalize opNamedS a = op at ho hu ⊢
  by_cases h3 : op = 0
  · subst h3
    rw [if_pos rfl]
    rw [call_241]
    simp -implicitDefEqProofs only [go_sem, simprocAttr, Tryz.f241, b1, b2, hc, ho, hf]
    repeat' ((first | apply split_cond | apply split_yes | apply split_no) <;> intro hc <;> simp -implicitDefEqProofs only [hc, go_sem, simprocAttr, b1, b2, hc, ho, hf])
  have b3 : (op == 0) = false := by simpa using h3
  rw [if_neg h3]
  by_cases h4 : pt = hasNS op
  rotate_left
  · have b4 : (pt == hasNS op) = false := by simpa using h4
    rw [if_pos h4]
    rw [call_241]
    simp -implicitDefEqProofs only [go_sem, simprocAttr, Tryz.f241, b1, b2, hc, ho, b3, hu, b4, hf]
    repeat' ((first | apply split_cond | apply split_yes | apply split_no) <;> intro hc <;> simp -implicitDefEqProofs only [hc, go_sem, simprocAttr, b1, b2, hc, ho, b3, hu, b4, hf])
  have b4 : (pt == hasNS op) = true := by simpa using h4
  rw [if_neg (by simpa using h4)]
  cases pt with
  | false =>
    rw [if_neg (by simp)]
    rw [call_241]
    simp -implicitDefEqProofs only [go_sem, simprocAttr, Tryz.f241, b1, b2, hc, ho, b3, hu, b4]
    repeat' ((first | apply split_cond | apply split_yes | apply split_no) <;> intro hc <;> simp -implicitDefEqProofs only [hc, go_sem, simprocAttr, b1, b2, hc, ho, b3, hu, b4])
  | true =>
    rw [if_pos rfl]
    have hk := c_count r false (by omega)
    have hb := atoi_bounds (digs r)
    have hi := p_Itoa (atoiV (digs r)) hb.1 hb.2
    have hn := c_rightN op (atoiV (digs r))
    generalize atoiV (digs r) = n at hk hb hi hn ⊢
    by_cases h5 : Lib.itoa n = r
    rotate_left
    · have b5 : (Lib.itoa n == r) = false := by simpa using h5
      rw [if_neg (fun h => h5 h.1)]
      rw [call_241]
      simp -implicitDefEqProofs only [go_sem, simprocAttr, Tryz.f241, b1, b2, hc, ho, b3, hu, b4, hk, hi, bne, b5, hf]
      repeat' ((first | apply split_cond | apply split_yes | apply split_no) <;> intro hc <;> simp -implicitDefEqProofs only [hc, go_sem, simprocAttr, b1, b2, hc, ho, b3, hu, b4, hk, hi, bne, b5, hf])
    · have b5 : (Lib.itoa n == r) = true := by simpa using h5
      cases h6 : rightNS op n with
      | false =>
        rw [h6] at hn
        rw [if_neg (fun h => by simp at h)]
        rw [call_241]
        simp -implicitDefEqProofs only [go_sem, simprocAttr, Tryz.f241, b1, b2, hc, ho, b3, hu, b4, hk, hi, bne, b5, hn, hf]
        repeat' ((first | apply split_cond | apply split_yes | apply split_no) <;> intro hc <;> simp -implicitDefEqProofs only [hc, go_sem, simprocAttr, b1, b2, hc, ho, b3, hu, b4, hk, hi, bne, b5, hn, hf])
      | true =>
        rw [h6] at hn
        rw [if_pos ⟨h5, rfl⟩]
        rw [call_241]
        simp -implicitDefEqProofs only [go_sem, simprocAttr, Tryz.f241, b1, b2, hc, ho, b3, hu, b4, hk, hi, bne, b5, hn]
        repeat' ((first | apply split_cond | apply split_yes | apply split_no) <;> intro hc <;> simp -implicitDefEqProofs only [hc, go_sem, simprocAttr, b1, b2, hc, ho, b3, hu, b4, hk, hi, bne, b5, hn])
theorem quoAt_no {c : UInt8} (r : List UInt8) (i : Nat) (h : c ≠ 39) : quoAt (c :: r) i = quoAt r (i + 1) := by
  rw [quoAt.eq_def]; simp [h]
theorem quoAt_end (i : Nat) : quoAt [39] i = i + 1 := rfl
theorem quoAt_two (r : List UInt8) (i : Nat) : quoAt (39 :: 39 :: r) i = quoAt r (i + 2) := by
  rw [quoAt.eq_def]; simp
theorem quoAt_yes {d : UInt8} (r : List UInt8) (i : Nat) (h : d ≠ 39) : quoAt (39 :: d :: r) i = i + 1 := by
  rw [quoAt.eq_def]; simp [h]
theorem l_quoted (t : List UInt8) (ht : t.length ≤ 10000000) (ks : List It) : ∀ (m j : Nat) (i : Int) (Bo : Code), Loop Tryz.f234 0 Bo → i = (j : Int) → t.length ≤ j + m → j ≤ t.length + 2 →
   RL K (.run 234 1 (.code Bo :: .lp Bo (some ([0, 3], [])) 1 :: .blk 0 1 :: ks) [(0, .ptr 0 0), (3, I i)] (Rdr t false)) =
   if quoAt (t.drop j) j ≠ 0 then some (I (quoAt (t.drop j) j : Int), Rdr t false) else R K (.run 234 1 ks [] (Rdr t false))
  | 0, j, i, Bo, hB, hi, hj, hj2 => by
    subst hi
    have h1 : decide ((j : Int) < (t.length : Int)) = false := decide_eq_false (by omega)
    rw [List.drop_of_length_le (by omega)]
    simp only [quoAt, ne_eq, not_true, if_false]
    unfold Loop at hB
    simp -implicitDefEqProofs only [go_sem, simprocAttr, Tryz.f234, loopOf] at hB
    subst hB
    rw [RL_eq]
    simp -implicitDefEqProofs only [go_sem, simprocAttr, h1]
    repeat' ((first | apply split_cond | apply split_yes | apply split_no) <;> intro hc <;> simp -implicitDefEqProofs only [hc, go_sem, simprocAttr, h1])
  | m + 1, j, i, Bo, hB, hi, hj, hj2 => by
    have hB' := hB
    subst hi
    by_cases hlt : j < t.length
    rotate_left
    · have h1 : decide ((j : Int) < (t.length : Int)) = false := decide_eq_false (by omega)
      rw [List.drop_of_length_le (by omega)]
      simp only [quoAt, ne_eq, not_true, if_false]
      unfold Loop at hB
      simp -implicitDefEqProofs only [go_sem, simprocAttr, Tryz.f234, loopOf] at hB
      subst hB
      rw [RL_eq]
      simp -implicitDefEqProofs only [go_sem, simprocAttr, h1]
      repeat' ((first | apply split_cond | apply split_yes | apply split_no) <;> intro hc <;> simp -implicitDefEqProofs only [hc, go_sem, simprocAttr, h1])
    have h1 : decide ((j : Int) < (t.length : Int)) = true := decide_eq_true (by omega)
    obtain ⟨x, hx⟩ := some_at (l := t) (i := j) hlt
    have hg := byte_get hx
    have w1 : wrapI .i64 ((j : Int) + 1) = ((j + 1 : Nat) : Int) := by rw [wrap_id (by omega) (by omega)]; rfl
    have w2 : wrapI .i64 (((j + 1 : Nat) : Int) + 1) = ((j + 2 : Nat) : Int) := by rw [wrap_id (by omega) (by omega)]; rfl
    rw [drop_get hx]
    by_cases h39 : x = 39
    rotate_left
    · have b39 : (((x.toNat : Nat) : Int) == 39) = false := by rw [u8_39]; simpa using h39
      rw [quoAt_no _ _ h39]
      have ih := l_quoted t ht ks m (j + 1) _ Bo hB' rfl (by omega) (by omega)
      unfold Loop at hB
      simp -implicitDefEqProofs only [go_sem, simprocAttr, Tryz.f234, loopOf] at hB
      subst hB
      rw [RL_eq]
      simp -implicitDefEqProofs only [go_sem, simprocAttr, h1, hg, bne, b39, w1]
      repeat' ((first | apply split_cond | apply split_yes | apply split_no) <;> intro hc <;> simp -implicitDefEqProofs only [hc, go_sem, simprocAttr, h1, hg, bne, b39, w1])
      rw [ih]
    · have b39 : (((x.toNat : Nat) : Int) == 39) = true := by rw [u8_39]; simpa using h39
      subst h39
      by_cases he : j + 1 = t.length
      · have b1 : (((j + 1 : Nat) : Int) == (t.length : Int)) = true := by simp; omega
        rw [List.drop_of_length_le (by omega), quoAt_end, if_pos (by omega)]
        unfold Loop at hB
        simp -implicitDefEqProofs only [go_sem, simprocAttr, Tryz.f234, loopOf] at hB
        subst hB
        rw [RL_eq]
        simp -implicitDefEqProofs only [go_sem, simprocAttr, h1, hg, bne, b39, w1, b1]
        repeat' ((first | apply split_cond | apply split_yes | apply split_no) <;> intro hc <;> simp -implicitDefEqProofs only [hc, go_sem, simprocAttr, h1, hg, bne, b39, w1, b1])
      · have b1 : (((j + 1 : Nat) : Int) == (t.length : Int)) = false := by simp; omega
        obtain ⟨y, hy⟩ := some_at (l := t) (i := j + 1) (by omega)
        have hg2 := byte_get hy
        rw [drop_get hy]
        by_cases h40 : y = 39
        rotate_left
        · have c39 : (((y.toNat : Nat) : Int) == 39) = false := by rw [u8_39]; simpa using h40
          rw [quoAt_yes _ _ h40, if_pos (by omega)]
          unfold Loop at hB
          simp -implicitDefEqProofs only [go_sem, simprocAttr, Tryz.f234, loopOf] at hB
          subst hB
          rw [RL_eq]
          simp -implicitDefEqProofs only [go_sem, simprocAttr, h1, hg, bne, b39, w1, b1, hg2, c39]
          repeat' ((first | apply split_cond | apply split_yes | apply split_no) <;> intro hc <;> simp -implicitDefEqProofs only [hc, go_sem, simprocAttr, h1, hg, bne, b39, w1, b1, hg2, c39])
        · have c39 : (((y.toNat : Nat) : Int) == 39) = true := by rw [u8_39]; simpa using h40
          subst h40
          rw [quoAt_two]
          have ih := l_quoted t ht ks m (j + 2) _ Bo hB' rfl (by omega) (by omega)
          unfold Loop at hB
          simp -implicitDefEqProofs only [go_sem, simprocAttr, Tryz.f234, loopOf] at hB
          subst hB
          rw [RL_eq]
          simp -implicitDefEqProofs only [go_sem, simprocAttr, h1, hg, bne, b39, w1, b1, hg2, c39, w2]
          repeat' ((first | apply split_cond | apply split_yes | apply split_no) <;> intro hc <;> simp -implicitDefEqProofs only [hc, go_sem, simprocAttr, h1, hg, bne, b39, w1, b1, hg2, c39, w2])
          rw [ih]
theorem c_quoted (t : List UInt8) (h0 : 1 ≤ t.length) (ht : t.length ≤ 10000000) : R K (.call 234 [.ptr 0 0] (Rdr t false)) = some (I (quotedS t : Int), Rdr t false) := by
  have lk := fun ks B hB => l_quoted t ht ks t.length 1 1 B hB rfl (by omega) (by omega)
  unfold quotedS
  rw [call_234]
  simp -implicitDefEqProofs only [go_sem, simprocAttr, Tryz.f234]
  repeat' ((first | apply split_cond | apply split_yes | apply split_no) <;> intro hc <;> simp -implicitDefEqProofs only [hc, go_sem, simprocAttr])
  rw [lk _ _ ?_]
  · by_cases h : quoAt (t.drop 1) 1 = 0
    · rw [if_neg (by simpa using h), h]
      simp -implicitDefEqProofs only [go_sem, simprocAttr]
      repeat' ((first | apply split_cond | apply split_yes | apply split_no) <;> intro hc <;> simp -implicitDefEqProofs only [hc, go_sem, simprocAttr])
      all_goals rfl
    · rw [if_pos h]
  · rfl
theorem quoAt_le : ∀ (n : Nat) (r : List UInt8) (i : Nat), r.length ≤ n → quoAt r i ≤ i + r.length
  | _, [], i, _ => by simp [quoAt]
  | 0, c :: r, i, h => by simp at h
  | n + 1, c :: r, i, h => by
    simp only [List.length_cons] at h ⊢
    rw [quoAt.eq_def]
    simp only
    split
    · split
      · simp
      · rename_i d r'
        simp only [List.length_cons] at h ⊢
        split
        · have := quoAt_le n r' (i + 2) (by omega); omega
        · omega
    · have := quoAt_le n r (i + 1) (by omega); omega
theorem quoted_le (t : List UInt8) (h : 1 ≤ t.length) : quotedS t ≤ t.length := by
  have := quoAt_le (t.drop 1).length (t.drop 1) 1 (Nat.le_refl _)
  unfold quotedS
  simp only [List.length_drop] at this
  omega
def Reads (t : List UInt8) (x : Option (Ex × List UInt8)) : Prop := ∃ (e : Ex) (t' : List UInt8), R K (.call 176 [.ptr 0 0] (Rdr t false)) = some (.agg (exC e), Rdr t' x.isNone) ∧ t'.length ≤ t.length ∧ ∀ e0 t0, x = some (e0, t0) → e = e0 ∧ t' = t0
theorem reads_const {t : List UInt8} {n : Nat} (h : R K (.call 176 [.ptr 0 0] (Rdr t false)) = some (match constP n t with
    | some (e, r) => (.agg (exC e), Rdr r false)
    | none => (.agg (exC ex0), Rdr t true))) : Reads t (constP n t) := by
  have hd : ∀ e r, constP n t = some (e, r) → r.length ≤ t.length := fun e r h => by
    unfold constP at h
    split at h
    · simp only [Option.some.injEq, Prod.mk.injEq] at h
      rw [← h.2]; simp
    · simp at h
  cases hc : constP n t with
  | none => rw [hc] at h; exact ⟨ex0, t, h, Nat.le_refl _, fun _ _ h => by simp at h⟩
  | some x =>
    obtain ⟨e, r⟩ := x
    rw [hc] at h
    exact ⟨e, r, h, hd e r hc, fun e0 t0 h => by simp only [Option.some.injEq, Prod.mk.injEq] at h; exact h⟩
theorem e_nil : Reads [] none := by
  have hf := c_fail [] false
  refine ⟨ex0, [], ?_, Nat.le_refl _, fun _ _ h => by simp at h⟩
  rw [call_176]
  simp -implicitDefEqProofs only [go_sem, simprocAttr, Tryz.f176, beq_self_eq_true, hf]
  repeat' ((first | apply split_cond | apply split_yes | apply split_no) <;> intro hc <;> simp -implicitDefEqProofs only [hc, go_sem, simprocAttr, beq_self_eq_true, hf])
  all_goals rfl
theorem e_quo (r : List UInt8) (hr : r.length ≤ 70000) : Reads (39 :: r) (constP (quotedS (39 :: r)) (39 :: r)) := by
  have hq := c_quoted (39 :: r) (by simp) (by simp; omega)
  have hl := quoted_le (39 :: r) (by simp)
  have hc := c_constant (quotedS (39 :: r)) (39 :: r) hl (by simp; omega)
  have b39 : ((((39 : UInt8).toNat : Nat) : Int) == 39) = true := rfl
  apply reads_const
  generalize quotedS (39 :: r) = n at hq hc ⊢
  generalize constP n (39 :: r) = x at hc ⊢
  cases x with
  | none =>
    rw [call_176]
    simp -implicitDefEqProofs only [go_sem, simprocAttr, Tryz.f176, nil_ne, at_hd, b39, hq, hc]
    repeat' ((first | apply split_cond | apply split_yes | apply split_no) <;> intro hc <;> simp -implicitDefEqProofs only [hc, go_sem, simprocAttr, nil_ne, at_hd, b39, hq, hc])
    all_goals rfl
  | some y =>
    obtain ⟨e, t'⟩ := y
    simp only at hc
    rw [call_176]
    simp -implicitDefEqProofs only [go_sem, simprocAttr, Tryz.f176, nil_ne, at_hd, b39, hq, hc, exC_len, exC_take]
    repeat' ((first | apply split_cond | apply split_yes | apply split_no) <;> intro hc <;> simp -implicitDefEqProofs only [hc, go_sem, simprocAttr, nil_ne, at_hd, b39, hq, hc, exC_len, exC_take])
theorem e_at (r : List UInt8) (hr : r.length ≤ 70000) : Reads (64 :: r) (constP (min 20 (r.length + 1)) (64 :: r)) := by
  have hc := c_constant (min 20 (r.length + 1)) (64 :: r) (by simp; omega) (by simp; omega)
  have c1 : ((((64 : UInt8).toNat : Nat) : Int) == 39) = false := rfl
  have c2 : ((((64 : UInt8).toNat : Nat) : Int) == 64) = true := rfl
  have m1 : (if ((r.length + 1 : Nat) : Int) < 20 then ((r.length + 1 : Nat) : Int) else 20) = ((min 20 (r.length + 1) : Nat) : Int) := by split <;> omega
  apply reads_const
  generalize min 20 (r.length + 1) = n at hc m1 ⊢
  generalize constP n (64 :: r) = x at hc ⊢
  cases x with
  | none =>
    rw [call_176]
    simp -implicitDefEqProofs only [go_sem, simprocAttr, Tryz.f176, nil_ne, at_hd, c1, c2, m1, hc]
    repeat' ((first | apply split_cond | apply split_yes | apply split_no) <;> intro hc <;> simp -implicitDefEqProofs only [hc, go_sem, simprocAttr, nil_ne, at_hd, c1, c2, m1, hc])
    all_goals rfl
  | some y =>
    obtain ⟨e, t'⟩ := y
    simp only at hc
    rw [call_176]
    simp -implicitDefEqProofs only [go_sem, simprocAttr, Tryz.f176, nil_ne, at_hd, c1, c2, m1, hc, exC_len, exC_take]
    repeat' ((first | apply split_cond | apply split_yes | apply split_no) <;> intro hc <;> simp -implicitDefEqProofs only [hc, go_sem, simprocAttr, nil_ne, at_hd, c1, c2, m1, hc, exC_len, exC_take])
theorem e_minus (r : List UInt8) (hr : r.length ≤ 70000) : Reads (45 :: r) (constP (1 + (digs r).length) (45 :: r)) := by
  obtain ⟨q1, q2, q3⟩ := take_len isD r
  have hd : (r.dropWhile isD).length + (digs r).length = r.length := by
    have := congrArg List.length (take_drop isD r)
    rw [List.length_append] at this
    unfold digs; omega
  have hc := c_constant (1 + (digs r).length) (45 :: r) (by simp; omega) (by simp; omega)
  have hk := c_count r false (by omega)
  have c1 : ((((45 : UInt8).toNat : Nat) : Int) == 39) = false := rfl
  have c2 : ((((45 : UInt8).toNat : Nat) : Int) == 64) = false := rfl
  have c3 : ((((45 : UInt8).toNat : Nat) : Int) == 45) = true := rfl
  have g1 : ((1 : Int) ≤ ((r.length + 1 : Nat) : Int)) = True := eq_true (by omega)
  have g2 : (1 : Int).toNat = 1 := rfl
  have w1 : wrapI .i64 (((r.length + 1 : Nat) : Int) - ((r.dropWhile isD).length : Int)) = ((1 + (digs r).length : Nat) : Int) := by rw [wrap_id (by omega) (by omega)]; omega
  apply reads_const
  generalize 1 + (digs r).length = n at hc w1 ⊢
  generalize constP n (45 :: r) = x at hc ⊢
  cases x with
  | none =>
    rw [call_176]
    simp -implicitDefEqProofs only [go_sem, simprocAttr, Tryz.f176, nil_ne, at_hd, c1, c2, c3, g1, g2, Nat.add_sub_cancel, List.take_length, hk, w1, hc]
    repeat' ((first | apply split_cond | apply split_yes | apply split_no) <;> intro hc <;> simp -implicitDefEqProofs only [hc, go_sem, simprocAttr, nil_ne, at_hd, c1, c2, c3, g1, g2, Nat.add_sub_cancel, List.take_length, hk, w1, hc])
    all_goals rfl
  | some y =>
    obtain ⟨e, t'⟩ := y
    simp only at hc
    rw [call_176]
    simp -implicitDefEqProofs only [go_sem, simprocAttr, Tryz.f176, nil_ne, at_hd, c1, c2, c3, g1, g2, Nat.add_sub_cancel, List.take_length, hk, w1, hc, exC_len, exC_take]
    repeat' ((first | apply split_cond | apply split_yes | apply split_no) <;> intro hc <;> simp -implicitDefEqProofs only [hc, go_sem, simprocAttr, nil_ne, at_hd, c1, c2, c3, g1, g2, Nat.add_sub_cancel, List.take_length, hk, w1, hc, exC_len, exC_take])
theorem e_par (r : List UInt8) (hr : r.length ≤ 70000) : Reads (63 :: r) (parP r) := by
  have c1 : ((((63 : UInt8).toNat : Nat) : Int) == 39) = false := rfl
  have c2 : ((((63 : UInt8).toNat : Nat) : Int) == 64) = false := rfl
  have c3 : ((((63 : UInt8).toNat : Nat) : Int) == 45) = false := rfl
  have c4 : ((((63 : UInt8).toNat : Nat) : Int) == 63) = true := rfl
  have ht := c_take_yes 63 r false 63 rfl (by omega)
  have hk := c_count r false (by omega)
  have hl : (r.dropWhile isD).length ≤ r.length := List.Sublist.length_le (List.dropWhile_sublist isD)
  unfold parP
  cases hok : countOk r with
  | true =>
    rw [hok] at hk
    simp only [Bool.not_true, Bool.or_false] at hk
    by_cases h60 : atoiV (digs r) < 60
    · have d : decide ((60 : Int) ≤ atoiV (digs r)) = false := decide_eq_false (by omega)
      rw [if_pos ⟨rfl, h60⟩]
      refine ⟨mkP (atoiV (digs r)), r.dropWhile isD, ?_, by simp; omega, fun e0 t0 h => by simp only [Option.some.injEq, Prod.mk.injEq] at h; exact h⟩
      rw [call_176]
      simp -implicitDefEqProofs only [go_sem, simprocAttr, Tryz.f176, nil_ne, at_hd, c1, c2, c3, c4, ht, hk, d]
      repeat' ((first | apply split_cond | apply split_yes | apply split_no) <;> intro hc <;> simp -implicitDefEqProofs only [hc, go_sem, simprocAttr, nil_ne, at_hd, c1, c2, c3, c4, ht, hk, d])
      all_goals rfl
    · have d : decide ((60 : Int) ≤ atoiV (digs r)) = true := decide_eq_true (by omega)
      rw [if_neg (fun h => h60 h.2)]
      refine ⟨mkP (atoiV (digs r)), r.dropWhile isD, ?_, by simp; omega, fun e0 t0 h => by simp at h⟩
      rw [call_176]
      simp -implicitDefEqProofs only [go_sem, simprocAttr, Tryz.f176, nil_ne, at_hd, c1, c2, c3, c4, ht, hk, d]
      repeat' ((first | apply split_cond | apply split_yes | apply split_no) <;> intro hc <;> simp -implicitDefEqProofs only [hc, go_sem, simprocAttr, nil_ne, at_hd, c1, c2, c3, c4, ht, hk, d])
      all_goals rfl
  | false =>
    rw [hok] at hk
    simp only [Bool.not_false, Bool.or_true] at hk
    rw [if_neg (by simp)]
    refine ⟨mkP (atoiV (digs r)), r.dropWhile isD, ?_, by simp; omega, fun e0 t0 h => by simp at h⟩
    by_cases h60 : atoiV (digs r) < 60
    · have d : decide ((60 : Int) ≤ atoiV (digs r)) = false := decide_eq_false (by omega)
      rw [call_176]
      simp -implicitDefEqProofs only [go_sem, simprocAttr, Tryz.f176, nil_ne, at_hd, c1, c2, c3, c4, ht, hk, d]
      repeat' ((first | apply split_cond | apply split_yes | apply split_no) <;> intro hc <;> simp -implicitDefEqProofs only [hc, go_sem, simprocAttr, nil_ne, at_hd, c1, c2, c3, c4, ht, hk, d])
      all_goals rfl
    · have d : decide ((60 : Int) ≤ atoiV (digs r)) = true := decide_eq_true (by omega)
      rw [call_176]
      simp -implicitDefEqProofs only [go_sem, simprocAttr, Tryz.f176, nil_ne, at_hd, c1, c2, c3, c4, ht, hk, d]
      repeat' ((first | apply split_cond | apply split_yes | apply split_no) <;> intro hc <;> simp -implicitDefEqProofs only [hc, go_sem, simprocAttr, nil_ne, at_hd, c1, c2, c3, c4, ht, hk, d])
      all_goals rfl
theorem u8_no {c : UInt8} {n : Nat} (h : c ≠ UInt8.ofNat n) : (((c.toNat : Nat) : Int) == (n : Int)) = false := by
  rw [beq_eq_false_iff_ne]
  intro e
  apply h
  have : c.toNat = n := by omega
  rw [← this]; simp
def mName (k : Int) : List UInt8 := if k = 21 then [115, 111, 109, 101] else if k = 22 then [101, 118, 101, 114, 121] else if k = 23 then [109, 97, 110, 121] else [105, 115]
theorem c_moreName (k : Int) : R K (.call 231 [I k] []) = some (.str (mName k), []) := by
  rw [call_231]
  simp -implicitDefEqProofs only [go_sem, simprocAttr, Tryz.f231]
  repeat' ((first | apply split_cond | apply split_yes | apply split_no) <;> intro hc <;> simp -implicitDefEqProofs only [hc, go_sem, simprocAttr])
  all_goals (simp only [beq_iff_eq, beq_eq_false_iff_ne] at *; simp_all [mName])
theorem l_more (w : List UInt8) (ks : List It) : ∀ (m : Nat) (i : Int) (Bo : Code), Loop Tryz.f239 0 Bo → i + m = 25 → 0 ≤ i →
   (∃ k, RL K (.run 239 0 (.code Bo :: .lp Bo (some ([0, 3], [])) 0 :: .blk 0 0 :: ks) [(0, .str w), (3, I i)] []) = some (I k, [])) ∨
   RL K (.run 239 0 (.code Bo :: .lp Bo (some ([0, 3], [])) 0 :: .blk 0 0 :: ks) [(0, .str w), (3, I i)] []) = R K (.run 239 0 ks [] [])
  | 0, i, Bo, hB, hi, hj => by
    have h1 : decide (i ≤ 24) = false := decide_eq_false (by omega)
    right
    unfold Loop at hB
    simp -implicitDefEqProofs only [go_sem, simprocAttr, Tryz.f239, loopOf] at hB
    subst hB
    rw [RL_eq]
    simp -implicitDefEqProofs only [go_sem, simprocAttr, h1]
    repeat' ((first | apply split_cond | apply split_yes | apply split_no) <;> intro hc <;> simp -implicitDefEqProofs only [hc, go_sem, simprocAttr, h1])
  | m + 1, i, Bo, hB, hi, hj => by
    have hB' := hB
    have h1 : decide (i ≤ 24) = true := decide_eq_true (by omega)
    have w1 : wrapI .i64 (i + 1) = i + 1 := wrap_id (by omega) (by omega)
    have ho := c_moreName i
    cases hq : (mName i == w) with
    | true =>
      left
      refine ⟨i, ?_⟩
      unfold Loop at hB
      simp -implicitDefEqProofs only [go_sem, simprocAttr, Tryz.f239, loopOf] at hB
      subst hB
      rw [RL_eq]
      simp -implicitDefEqProofs only [go_sem, simprocAttr, h1, ho, hq]
      repeat' ((first | apply split_cond | apply split_yes | apply split_no) <;> intro hc <;> simp -implicitDefEqProofs only [hc, go_sem, simprocAttr, h1, ho, hq])
    | false =>
      have ih := l_more w ks m (i + 1) Bo hB' (by omega) (by omega)
      have e : RL K (.run 239 0 (.code Bo :: .lp Bo (some ([0, 3], [])) 0 :: .blk 0 0 :: ks) [(0, .str w), (3, I i)] []) = RL K (.run 239 0 (.code Bo :: .lp Bo (some ([0, 3], [])) 0 :: .blk 0 0 :: ks) [(0, .str w), (3, I (i + 1))] []) := by
        unfold Loop at hB
        simp -implicitDefEqProofs only [go_sem, simprocAttr, Tryz.f239, loopOf] at hB
        subst hB
        rw [RL_eq]
        simp -implicitDefEqProofs only [go_sem, simprocAttr, h1, ho, hq, w1]
        repeat' ((first | apply split_cond | apply split_yes | apply split_no) <;> intro hc <;> simp -implicitDefEqProofs only [hc, go_sem, simprocAttr, h1, ho, hq, w1])
      rw [e]; exact ih
theorem c_moreKind (w : List UInt8) : ∃ k, R K (.call 239 [.str w] []) = some (I k, []) := by
  have hB : Loop Tryz.f239 0 _ := rfl
  rcases l_more w [.code _] 4 21 _ hB rfl (by omega) with ⟨k, lk⟩ | lk
  · refine ⟨k, ?_⟩
    rw [call_239]
    simp -implicitDefEqProofs only [go_sem, simprocAttr, Tryz.f239]
    repeat' ((first | apply split_cond | apply split_yes | apply split_no) <;> intro hc <;> simp -implicitDefEqProofs only [hc, go_sem, simprocAttr])
    rw [lk]
  · refine ⟨0, ?_⟩
    rw [call_239]
    simp -implicitDefEqProofs only [go_sem, simprocAttr, Tryz.f239]
    repeat' ((first | apply split_cond | apply split_yes | apply split_no) <;> intro hc <;> simp -implicitDefEqProofs only [hc, go_sem, simprocAttr])
    rw [lk]
    simp -implicitDefEqProofs only [go_sem, simprocAttr]
    repeat' ((first | apply split_cond | apply split_yes | apply split_no) <;> intro hc <;> simp -implicitDefEqProofs only [hc, go_sem, simprocAttr])
theorem word_first {c : UInt8} (h : c ≠ 39 ∧ c ≠ 64 ∧ c ≠ 45 ∧ c ≠ 63) : (((c.toNat : Nat) : Int) == 39) = false ∧ (((c.toNat : Nat) : Int) == 64) = false ∧ (((c.toNat : Nat) : Int) == 45) = false ∧ (((c.toNat : Nat) : Int) == 63) = false :=
  ⟨u8_no (n := 39) h.1, u8_no (n := 64) h.2.1, u8_no (n := 45) h.2.2.1, u8_no (n := 63) h.2.2.2⟩
theorem word_nil {c : UInt8} {r w : List UInt8} (h : c ≠ 39 ∧ c ≠ 64 ∧ c ≠ 45 ∧ c ≠ 63) (hr : r.length ≤ 70000) (hw : (c :: r).takeWhile isN = w) (hd : (c :: r).dropWhile isN = []) : Reads (c :: r) (constP w.length (c :: r)) := by
  obtain ⟨d1, d2, d3, d4⟩ := word_first h
  have hk := c_while 238 isN c_ofName (c :: r) false (by simp; omega)
  have hl := (take_len isN (c :: r)).1
  rw [hw] at hk hl
  rw [hd] at hk
  have t1 := c_take_nil false 58
  have t2 := c_take_nil false 40
  have hc := c_constant w.length (c :: r) hl (by simp; omega)
  apply reads_const
  generalize constP w.length (c :: r) = x at hc ⊢
  cases x with
  | none =>
    rw [call_176]
    simp -implicitDefEqProofs only [go_sem, simprocAttr, Tryz.f176, nil_ne, at_hd, d1, d2, d3, d4, hk, t1, t2, hc]
    repeat' ((first | apply split_cond | apply split_yes | apply split_no) <;> intro hc <;> simp -implicitDefEqProofs only [hc, go_sem, simprocAttr, nil_ne, at_hd, d1, d2, d3, d4, hk, t1, t2, hc])
    all_goals rfl
  | some y =>
    obtain ⟨e, t'⟩ := y
    simp only at hc
    rw [call_176]
    simp -implicitDefEqProofs only [go_sem, simprocAttr, Tryz.f176, nil_ne, at_hd, d1, d2, d3, d4, hk, t1, t2, hc, exC_len, exC_take]
    repeat' ((first | apply split_cond | apply split_yes | apply split_no) <;> intro hc <;> simp -implicitDefEqProofs only [hc, go_sem, simprocAttr, nil_ne, at_hd, d1, d2, d3, d4, hk, t1, t2, hc, exC_len, exC_take])
theorem word_other {c b : UInt8} {r r2 w : List UInt8} (h : c ≠ 39 ∧ c ≠ 64 ∧ c ≠ 45 ∧ c ≠ 63) (hr : r.length ≤ 70000) (hw : (c :: r).takeWhile isN = w) (hd : (c :: r).dropWhile isN = b :: r2) (hb1 : b ≠ 58) (hb2 : b ≠ 40) : Reads (c :: r) (constP w.length (c :: r)) := by
  obtain ⟨d1, d2, d3, d4⟩ := word_first h
  have hk := c_while 238 isN c_ofName (c :: r) false (by simp; omega)
  have hl := (take_len isN (c :: r)).1
  rw [hw] at hk hl
  rw [hd] at hk
  have t1 := c_take_no b r2 false 58 (by simpa using u8_no (n := 58) hb1)
  have t2 := c_take_no b r2 false 40 (by simpa using u8_no (n := 40) hb2)
  have hc := c_constant w.length (c :: r) hl (by simp; omega)
  apply reads_const
  generalize constP w.length (c :: r) = x at hc ⊢
  cases x with
  | none =>
    rw [call_176]
    simp -implicitDefEqProofs only [go_sem, simprocAttr, Tryz.f176, nil_ne, at_hd, d1, d2, d3, d4, hk, t1, t2, hc]
    repeat' ((first | apply split_cond | apply split_yes | apply split_no) <;> intro hc <;> simp -implicitDefEqProofs only [hc, go_sem, simprocAttr, nil_ne, at_hd, d1, d2, d3, d4, hk, t1, t2, hc])
    all_goals rfl
  | some y =>
    obtain ⟨e, t'⟩ := y
    simp only at hc
    rw [call_176]
    simp -implicitDefEqProofs only [go_sem, simprocAttr, Tryz.f176, nil_ne, at_hd, d1, d2, d3, d4, hk, t1, t2, hc, exC_len, exC_take]
    repeat' ((first | apply split_cond | apply split_yes | apply split_no) <;> intro hc <;> simp -implicitDefEqProofs only [hc, go_sem, simprocAttr, nil_ne, at_hd, d1, d2, d3, d4, hk, t1, t2, hc, exC_len, exC_take])
theorem word_col {c : UInt8} {r r2 w : List UInt8} (h : c ≠ 39 ∧ c ≠ 64 ∧ c ≠ 45 ∧ c ≠ 63) (hr : r.length ≤ 70000) (hw : (c :: r).takeWhile isN = w) (hd : (c :: r).dropWhile isN = 58 :: r2) : Reads (c :: r) (colP w r2) := by
  obtain ⟨d1, d2, d3, d4⟩ := word_first h
  have hk := c_while 238 isN c_ofName (c :: r) false (by simp; omega)
  have hlen : r2.length + 1 ≤ r.length + 1 := by
    have := List.Sublist.length_le (List.dropWhile_sublist isN (l := c :: r))
    rw [hd] at this; simpa using this
  rw [hw, hd] at hk
  have t1 := c_take_yes 58 r2 false 58 rfl (by omega)
  have hk2 := c_while 238 isN c_ofName r2 false (by omega)
  have hl2 : (r2.dropWhile isN).length ≤ r2.length := List.Sublist.length_le (List.dropWhile_sublist isN)
  obtain ⟨mk, hm⟩ := c_moreKind w
  have hf := c_fail (r2.dropWhile isN) false
  unfold colP
  by_cases hn : r2.takeWhile isN = []
  · rw [if_pos hn]
    rw [hn] at hk2
    refine ⟨ex0, r2.dropWhile isN, ?_, by simp; omega, fun e0 t0 h => by simp at h⟩
    rw [call_176]
    simp -implicitDefEqProofs only [go_sem, simprocAttr, Tryz.f176, nil_ne, at_hd, d1, d2, d3, d4, hk, t1, hk2, beq_self_eq_true, hf]
    repeat' ((first | apply split_cond | apply split_yes | apply split_no) <;> intro hc <;> simp -implicitDefEqProofs only [hc, go_sem, simprocAttr, nil_ne, at_hd, d1, d2, d3, d4, hk, t1, hk2, beq_self_eq_true, hf])
    all_goals rfl
  · have b1 : (r2.takeWhile isN == []) = false := by simpa using hn
    rw [if_neg hn]
    refine ⟨mkC w (r2.takeWhile isN), r2.dropWhile isN, ?_, by simp; omega, fun e0 t0 h => by simp only [Option.some.injEq, Prod.mk.injEq] at h; exact h⟩
    rw [call_176]
    simp -implicitDefEqProofs only [go_sem, simprocAttr, Tryz.f176, nil_ne, at_hd, d1, d2, d3, d4, hk, t1, hk2, b1, hm]
    repeat' ((first | apply split_cond | apply split_yes | apply split_no) <;> intro hc <;> simp -implicitDefEqProofs only [hc, go_sem, simprocAttr, nil_ne, at_hd, d1, d2, d3, d4, hk, t1, hk2, b1, hm])
    all_goals rfl
abbrev HL (t : List UInt8) (b : Bool) (k op n : Int) (l : List Ex) : Heap := [.cells [.str t, .bool b, .bool false], .cells zeroN, .cells [I k, I op, I n, I 0, I 0, .str [], .str [], .str [], .bool false, .own 3 l.length, .nils, .nils, .nils], .rows 13 (exR l) false]
abbrev fL : Fr := [(0, .ptr 0 0), (2, .ptr 1 0), (10, .ptr 2 0)]
theorem l_bad (t : List UInt8) (k op n : Int) (l : List Ex) (ks : List It) (Bo : Code) (hB : Loop Tryz.f176 2 Bo) :
   RL K (.run 176 1 (.code Bo :: .lp Bo (some ([0, 2, 10], [])) 4 :: .blk 2 4 :: ks) fL (HL t true k op n l)) = R K (.run 176 1 ks fL (HL t true k op n l)) := by
  unfold Loop at hB
  simp -implicitDefEqProofs only [go_sem, simprocAttr, Tryz.f176, loopOf] at hB
  subst hB
  rw [RL_eq]
  simp -implicitDefEqProofs only [go_sem, simprocAttr]
  repeat' ((first | apply split_cond | apply split_yes | apply split_no) <;> intro hc <;> simp -implicitDefEqProofs only [hc, go_sem, simprocAttr])
theorem exR_one (l : List Ex) (e : Ex) : exR l ++ [exC e] = exR (l ++ [e]) := exR_snoc l e
theorem HL_snoc (t : List UInt8) (b : Bool) (k op n : Int) (l : List Ex) (e : Ex) : HL t b k op n (l ++ [e]) = [.cells [.str t, .bool b, .bool false], .cells zeroN, .cells [I k, I op, I n, I 0, I 0, .str [], .str [], .str [], .bool false, .own 3 (l.length + 1), .nils, .nils, .nils], .rows 13 (exR l ++ [exC e]) false] := by
  rw [exR_one]; simp
theorem l_one_nil (t : List UInt8) (e : Ex) (bad : Bool) (hr : R K (.call 176 [.ptr 0 0] (Rdr t false)) = some (.agg (exC e), Rdr [] bad)) (k op n : Int) (l : List Ex) (hl : l.length ≤ 70000) (ks : List It) (Bo : Code) (hB : Loop Tryz.f176 2 Bo) :
   RL K (.run 176 1 (.code Bo :: .lp Bo (some ([0, 2, 10], [])) 4 :: .blk 2 4 :: ks) fL (HL t false k op n l)) = R K (.run 176 1 ks fL (HL [] bad k op n (l ++ [e]))) := by
  have hroom := room_small (l.length + 1) (by omega)
  have ht := c_take_nil bad 44
  rw [HL_snoc]
  unfold Loop at hB
  simp -implicitDefEqProofs only [go_sem, simprocAttr, Tryz.f176, loopOf] at hB
  subst hB
  rw [RL_eq]
  simp -implicitDefEqProofs only [go_sem, simprocAttr, hr, hroom, exR_len, exC_len, exC_take, ht]
  repeat' ((first | apply split_cond | apply split_yes | apply split_no) <;> intro hc <;> simp -implicitDefEqProofs only [hc, go_sem, simprocAttr, hr, hroom, exR_len, exC_len, exC_take, ht])
theorem l_one_go (t r : List UInt8) (e : Ex) (bad : Bool) (hr : R K (.call 176 [.ptr 0 0] (Rdr t false)) = some (.agg (exC e), Rdr (44 :: r) bad)) (h1 : r.length ≤ 70000) (k op n : Int) (l : List Ex) (hl : l.length ≤ 70000) (ks : List It) (Bo : Code) (hB : Loop Tryz.f176 2 Bo) :
   RL K (.run 176 1 (.code Bo :: .lp Bo (some ([0, 2, 10], [])) 4 :: .blk 2 4 :: ks) fL (HL t false k op n l)) = RL K (.run 176 1 (.code Bo :: .lp Bo (some ([0, 2, 10], [])) 4 :: .blk 2 4 :: ks) fL (HL r bad k op n (l ++ [e]))) := by
  have hroom := room_small (l.length + 1) (by omega)
  have ht := c_take_yes 44 r bad 44 rfl (by omega)
  rw [HL_snoc]
  unfold Loop at hB
  simp -implicitDefEqProofs only [go_sem, simprocAttr, Tryz.f176, loopOf] at hB
  subst hB
  rw [RL_eq]
  simp -implicitDefEqProofs only [go_sem, simprocAttr, hr, hroom, exR_len, exC_len, exC_take, ht]
  repeat' ((first | apply split_cond | apply split_yes | apply split_no) <;> intro hc <;> simp -implicitDefEqProofs only [hc, go_sem, simprocAttr, hr, hroom, exR_len, exC_len, exC_take, ht])
theorem l_one_end (t r : List UInt8) (b : UInt8) (e : Ex) (bad : Bool) (hb : b ≠ 44) (hr : R K (.call 176 [.ptr 0 0] (Rdr t false)) = some (.agg (exC e), Rdr (b :: r) bad)) (k op n : Int) (l : List Ex) (hl : l.length ≤ 70000) (ks : List It) (Bo : Code) (hB : Loop Tryz.f176 2 Bo) :
   RL K (.run 176 1 (.code Bo :: .lp Bo (some ([0, 2, 10], [])) 4 :: .blk 2 4 :: ks) fL (HL t false k op n l)) = R K (.run 176 1 ks fL (HL (b :: r) bad k op n (l ++ [e]))) := by
  have hroom := room_small (l.length + 1) (by omega)
  have ht := c_take_no b r bad 44 (by simpa using u8_no (n := 44) hb)
  rw [HL_snoc]
  unfold Loop at hB
  simp -implicitDefEqProofs only [go_sem, simprocAttr, Tryz.f176, loopOf] at hB
  subst hB
  rw [RL_eq]
  simp -implicitDefEqProofs only [go_sem, simprocAttr, hr, hroom, exR_len, exC_len, exC_take, ht]
  repeat' ((first | apply split_cond | apply split_yes | apply split_no) <;> intro hc <;> simp -implicitDefEqProofs only [hc, go_sem, simprocAttr, hr, hroom, exR_len, exC_len, exC_take, ht])
def Lists (t : List UInt8) (x : Option (List Ex × List UInt8)) : Prop := ∀ (k op n : Int) (l : List Ex) (ks : List It) (Bo : Code), Loop Tryz.f176 2 Bo → l.length + t.length ≤ 70000 →
   ∃ (l' : List Ex) (t' : List UInt8), RL K (.run 176 1 (.code Bo :: .lp Bo (some ([0, 2, 10], [])) 4 :: .blk 2 4 :: ks) fL (HL t false k op n l)) = R K (.run 176 1 ks fL (HL t' x.isNone k op n l')) ∧ t'.length ≤ t.length ∧ ∀ a r, x = some (a, r) → l' = l ++ a ∧ t' = r
theorem lists_of {k : Nat} {t : List UInt8} (hE : Reads t (pE k t)) (hL : ∀ r : List UInt8, r.length < t.length → Lists r (pL k r)) : Lists t (pL (k + 1) t) := by
  intro kk op n l ks Bo hB hlen
  obtain ⟨e, t1, hr, hl1, hx⟩ := hE
  rw [pL]
  cases hp : pE k t with
  | none =>
    rw [hp] at hr
    simp only [Option.isNone_none] at hr ⊢
    cases t1 with
    | nil => exact ⟨l ++ [e], [], l_one_nil t e true hr kk op n l (by omega) ks Bo hB, Nat.zero_le _, fun a r h => by simp at h⟩
    | cons b r =>
      simp only [List.length_cons] at hl1
      by_cases hb : b = 44
      · subst hb
        have one := l_one_go t r e true hr (by omega) kk op n l (by omega) ks Bo hB
        rw [l_bad _ _ _ _ _ _ _ hB] at one
        exact ⟨l ++ [e], r, one, by omega, fun a r h => by simp at h⟩
      · exact ⟨l ++ [e], b :: r, l_one_end t r b e true hb hr kk op n l (by omega) ks Bo hB, by simp; omega, fun a r h => by simp at h⟩
  | some y =>
    obtain ⟨e0, t0⟩ := y
    obtain ⟨rfl, rfl⟩ := hx e0 t0 hp
    rw [hp] at hr
    simp only [Option.isNone_some] at hr
    cases t1 with
    | nil =>
      simp only
      exact ⟨l ++ [e], [], l_one_nil t e false hr kk op n l (by omega) ks Bo hB, Nat.zero_le _, fun a r h => by simp only [Option.some.injEq, Prod.mk.injEq] at h; exact ⟨by rw [h.1], h.2⟩⟩
    | cons b r =>
      simp only [List.length_cons] at hl1
      simp only
      by_cases hb : b = 44
      · subst hb
        have one := l_one_go t r e false hr (by omega) kk op n l (by omega) ks Bo hB
        rw [if_pos rfl]
        obtain ⟨l', t', ih, q1, q2⟩ := hL r (by omega) kk op n (l ++ [e]) ks Bo hB (by simp; omega)
        rw [ih] at one
        cases hq : pL k r with
        | none =>
          rw [hq] at one
          exact ⟨l', t', one, by omega, fun a r h => by simp at h⟩
        | some z =>
          obtain ⟨a, r'⟩ := z
          rw [hq] at one
          obtain ⟨rfl, rfl⟩ := q2 a r' hq
          exact ⟨_, t', one, by omega, fun a' r'' h => by
            simp only [Option.some.injEq, Prod.mk.injEq] at h
            obtain ⟨rfl, rfl⟩ := h
            exact ⟨by simp, rfl⟩⟩
      · rw [if_neg hb]
        exact ⟨l ++ [e], b :: r, l_one_end t r b e false hb hr kk op n l (by omega) ks Bo hB, by simp; omega, fun a r h => by simp only [Option.some.injEq, Prod.mk.injEq] at h; exact ⟨by rw [h.1], h.2⟩⟩
theorem outC (k op n : Int) (l : List Ex) : [I k, I op, I n, I 0, I 0, AV.str [], AV.str [], AV.str [], AV.bool false, AV.rows (exR l), AV.rows [], AV.rows [], AV.rows []] = exC (mkO k op n l) := rfl
theorem word_node {c : UInt8} {r r2 w : List UInt8} {k : Nat} (h : c ≠ 39 ∧ c ≠ 64 ∧ c ≠ 45 ∧ c ≠ 63) (hr : r.length ≤ 69000) (hw : (c :: r).takeWhile isN = w) (hd : (c :: r).dropWhile isN = 40 :: r2) (hL : Lists r2 (pL k r2)) : Reads (c :: r) (match headS w with
    | some (h1, h2, h3) => finP h1 h2 h3 (pL k r2)
    | none => none) := by
  obtain ⟨d1, d2, d3, d4⟩ := word_first h
  have hk := c_while 238 isN c_ofName (c :: r) false (by simp; omega)
  have hlen : r2.length + 1 ≤ r.length + 1 := by
    have := List.Sublist.length_le (List.dropWhile_sublist isN (l := c :: r))
    rw [hd] at this; simpa using this
  have hwl : w.length ≤ 70000 := by
    have := (take_len isN (c :: r)).1
    rw [hw] at this; simp at this; omega
  rw [hw, hd] at hk
  have t1 := c_take_no 40 r2 false 58 (by decide)
  have t2 := c_take_yes 40 r2 false 40 rfl (by omega)
  have hh := c_headed w r2 (by omega)
  cases hq : headS w with
  | none =>
    rw [hq] at hh
    try simp only at hh ⊢
    have lb := fun ks B hB => l_bad r2 0 0 0 [] ks B hB
    simp only [HL, exR, List.length_nil] at lb
    cases r2 with
    | nil =>
      have t3 := c_take_nil true 41
      have hf := c_fail [] true
      refine ⟨ex0, [], ?_, Nat.zero_le _, fun e0 t0 h => by simp at h⟩
      rw [call_176]
      simp -implicitDefEqProofs only [go_sem, simprocAttr, Tryz.f176, nil_ne, at_hd, d1, d2, d3, d4, hk, t1, t2, hh]
      repeat' ((first | apply split_cond | apply split_yes | apply split_no) <;> intro hc <;> simp -implicitDefEqProofs only [hc, go_sem, simprocAttr, nil_ne, at_hd, d1, d2, d3, d4, hk, t1, t2, hh])
      rw [lb _ _ ?_]
      · simp -implicitDefEqProofs only [go_sem, simprocAttr, t3, hf]
        repeat' ((first | apply split_cond | apply split_yes | apply split_no) <;> intro hc <;> simp -implicitDefEqProofs only [hc, go_sem, simprocAttr, t3, hf])
        all_goals rfl
      · rfl
    | cons y r3 =>
      by_cases hy : y = 41
      · subst hy
        have t3 := c_take_yes 41 r3 true 41 rfl (by simp at hlen; omega)
        refine ⟨ex0, r3, ?_, by simp at hlen ⊢; omega, fun e0 t0 h => by simp at h⟩
        rw [call_176]
        simp -implicitDefEqProofs only [go_sem, simprocAttr, Tryz.f176, nil_ne, at_hd, d1, d2, d3, d4, hk, t1, t2, hh]
        repeat' ((first | apply split_cond | apply split_yes | apply split_no) <;> intro hc <;> simp -implicitDefEqProofs only [hc, go_sem, simprocAttr, nil_ne, at_hd, d1, d2, d3, d4, hk, t1, t2, hh])
        rw [lb _ _ ?_]
        · simp -implicitDefEqProofs only [go_sem, simprocAttr, t3]
          repeat' ((first | apply split_cond | apply split_yes | apply split_no) <;> intro hc <;> simp -implicitDefEqProofs only [hc, go_sem, simprocAttr, t3])
          all_goals rfl
        · rfl
      · have t3 := c_take_no y r3 true 41 (by simpa using u8_no (n := 41) hy)
        have hf := c_fail (y :: r3) true
        refine ⟨ex0, y :: r3, ?_, by simp at hlen ⊢; omega, fun e0 t0 h => by simp at h⟩
        rw [call_176]
        simp -implicitDefEqProofs only [go_sem, simprocAttr, Tryz.f176, nil_ne, at_hd, d1, d2, d3, d4, hk, t1, t2, hh]
        repeat' ((first | apply split_cond | apply split_yes | apply split_no) <;> intro hc <;> simp -implicitDefEqProofs only [hc, go_sem, simprocAttr, nil_ne, at_hd, d1, d2, d3, d4, hk, t1, t2, hh])
        rw [lb _ _ ?_]
        · simp -implicitDefEqProofs only [go_sem, simprocAttr, t3, hf]
          repeat' ((first | apply split_cond | apply split_yes | apply split_no) <;> intro hc <;> simp -implicitDefEqProofs only [hc, go_sem, simprocAttr, t3, hf])
          all_goals rfl
        · rfl
  | some y =>
    obtain ⟨h1, h2, h3⟩ := y
    rw [hq] at hh
    try simp only at hh ⊢
    have hB : Loop Tryz.f176 2 _ := rfl
    obtain ⟨l', t', lk, q1, q2⟩ := hL h1 h2 h3 [] [.code _] _ hB (by simp; omega)
    simp only [HL, exR, List.length_nil] at lk
    have hra := c_rightArgs (mkO h1 h2 h3 l')
    have e1 : (mkO h1 h2 h3 l').k = h1 := rfl
    have e2 : (mkO h1 h2 h3 l').op = h2 := rfl
    have e3 : (mkO h1 h2 h3 l').args = l' := rfl
    rw [e1, e2, e3, ← outC] at hra
    cases hp : pL k r2 with
    | none =>
      rw [hp] at lk
      simp only [Option.isNone_none] at lk
      have en : finP h1 h2 h3 none = none := rfl
      rw [en]
      cases t' with
      | nil =>
        have t3 := c_take_nil true 41
        have hf := c_fail [] true
        refine ⟨ex0, [], ?_, Nat.zero_le _, fun e0 t0 h => by simp at h⟩
        rw [call_176]
        simp -implicitDefEqProofs only [go_sem, simprocAttr, Tryz.f176, nil_ne, at_hd, d1, d2, d3, d4, hk, t1, t2, hh]
        repeat' ((first | apply split_cond | apply split_yes | apply split_no) <;> intro hc <;> simp -implicitDefEqProofs only [hc, go_sem, simprocAttr, nil_ne, at_hd, d1, d2, d3, d4, hk, t1, t2, hh])
        rw [lk]
        simp -implicitDefEqProofs only [go_sem, simprocAttr, t3, hf]
        repeat' ((first | apply split_cond | apply split_yes | apply split_no) <;> intro hc <;> simp -implicitDefEqProofs only [hc, go_sem, simprocAttr, t3, hf])
        all_goals rfl
      | cons y r3 =>
        by_cases hy : y = 41
        · subst hy
          have t3 := c_take_yes 41 r3 true 41 rfl (by simp at q1; omega)
          refine ⟨mkO h1 h2 h3 l', r3, ?_, by simp at q1 ⊢; omega, fun e0 t0 h => by simp at h⟩
          rw [call_176]
          simp -implicitDefEqProofs only [go_sem, simprocAttr, Tryz.f176, nil_ne, at_hd, d1, d2, d3, d4, hk, t1, t2, hh]
          repeat' ((first | apply split_cond | apply split_yes | apply split_no) <;> intro hc <;> simp -implicitDefEqProofs only [hc, go_sem, simprocAttr, nil_ne, at_hd, d1, d2, d3, d4, hk, t1, t2, hh])
          rw [lk]
          simp -implicitDefEqProofs only [go_sem, simprocAttr, t3, exR_len]
          repeat' ((first | apply split_cond | apply split_yes | apply split_no) <;> intro hc <;> simp -implicitDefEqProofs only [hc, go_sem, simprocAttr, t3, exR_len])
          all_goals rfl
        · have t3 := c_take_no y r3 true 41 (by simpa using u8_no (n := 41) hy)
          have hf := c_fail (y :: r3) true
          refine ⟨ex0, y :: r3, ?_, by simp at q1 ⊢; omega, fun e0 t0 h => by simp at h⟩
          rw [call_176]
          simp -implicitDefEqProofs only [go_sem, simprocAttr, Tryz.f176, nil_ne, at_hd, d1, d2, d3, d4, hk, t1, t2, hh]
          repeat' ((first | apply split_cond | apply split_yes | apply split_no) <;> intro hc <;> simp -implicitDefEqProofs only [hc, go_sem, simprocAttr, nil_ne, at_hd, d1, d2, d3, d4, hk, t1, t2, hh])
          rw [lk]
          simp -implicitDefEqProofs only [go_sem, simprocAttr, t3, hf]
          repeat' ((first | apply split_cond | apply split_yes | apply split_no) <;> intro hc <;> simp -implicitDefEqProofs only [hc, go_sem, simprocAttr, t3, hf])
          all_goals rfl
    | some z =>
      obtain ⟨a, r'⟩ := z
      rw [hp] at lk
      obtain ⟨q3, rfl⟩ := q2 a r' hp
      rw [List.nil_append] at q3
      subst q3
      simp only [Option.isNone_some] at lk
      cases t' with
      | nil =>
        have t3 := c_take_nil false 41
        have hf := c_fail [] false
        have en : finP h1 h2 h3 (some (l', [])) = none := rfl
        rw [en]
        refine ⟨ex0, [], ?_, Nat.zero_le _, fun e0 t0 h => by simp at h⟩
        rw [call_176]
        simp -implicitDefEqProofs only [go_sem, simprocAttr, Tryz.f176, nil_ne, at_hd, d1, d2, d3, d4, hk, t1, t2, hh]
        repeat' ((first | apply split_cond | apply split_yes | apply split_no) <;> intro hc <;> simp -implicitDefEqProofs only [hc, go_sem, simprocAttr, nil_ne, at_hd, d1, d2, d3, d4, hk, t1, t2, hh])
        rw [lk]
        simp -implicitDefEqProofs only [go_sem, simprocAttr, t3, hf]
        repeat' ((first | apply split_cond | apply split_yes | apply split_no) <;> intro hc <;> simp -implicitDefEqProofs only [hc, go_sem, simprocAttr, t3, hf])
        all_goals rfl
      | cons y r3 =>
        by_cases hy : y = 41
        · subst hy
          have t3 := c_take_yes 41 r3 false 41 rfl (by simp at q1; omega)
          cases hok : argsOk h1 h2 (l'.length : Int) with
          | true =>
            rw [hok] at hra
            have en : finP h1 h2 h3 (some (l', 41 :: r3)) = some (mkO h1 h2 h3 l', r3) := if_pos ⟨rfl, hok⟩
            rw [en]
            refine ⟨mkO h1 h2 h3 l', r3, ?_, by simp at q1 ⊢; omega, fun e0 t0 h => by simp only [Option.some.injEq, Prod.mk.injEq] at h; exact h⟩
            rw [call_176]
            simp -implicitDefEqProofs only [go_sem, simprocAttr, Tryz.f176, nil_ne, at_hd, d1, d2, d3, d4, hk, t1, t2, hh]
            repeat' ((first | apply split_cond | apply split_yes | apply split_no) <;> intro hc <;> simp -implicitDefEqProofs only [hc, go_sem, simprocAttr, nil_ne, at_hd, d1, d2, d3, d4, hk, t1, t2, hh])
            rw [lk]
            simp -implicitDefEqProofs only [go_sem, simprocAttr, t3, exR_len, hra]
            repeat' ((first | apply split_cond | apply split_yes | apply split_no) <;> intro hc <;> simp -implicitDefEqProofs only [hc, go_sem, simprocAttr, t3, exR_len, hra])
            all_goals rfl
          | false =>
            rw [hok] at hra
            have hf := c_fail r3 false
            have en : finP h1 h2 h3 (some (l', 41 :: r3)) = none := if_neg (fun h => by rw [hok] at h; simp at h)
            rw [en]
            refine ⟨ex0, r3, ?_, by simp at q1 ⊢; omega, fun e0 t0 h => by simp at h⟩
            rw [call_176]
            simp -implicitDefEqProofs only [go_sem, simprocAttr, Tryz.f176, nil_ne, at_hd, d1, d2, d3, d4, hk, t1, t2, hh]
            repeat' ((first | apply split_cond | apply split_yes | apply split_no) <;> intro hc <;> simp -implicitDefEqProofs only [hc, go_sem, simprocAttr, nil_ne, at_hd, d1, d2, d3, d4, hk, t1, t2, hh])
            rw [lk]
            simp -implicitDefEqProofs only [go_sem, simprocAttr, t3, exR_len, hra, hf]
            repeat' ((first | apply split_cond | apply split_yes | apply split_no) <;> intro hc <;> simp -implicitDefEqProofs only [hc, go_sem, simprocAttr, t3, exR_len, hra, hf])
            all_goals rfl
        · have t3 := c_take_no y r3 false 41 (by simpa using u8_no (n := 41) hy)
          have hf := c_fail (y :: r3) false
          have en : finP h1 h2 h3 (some (l', y :: r3)) = none := if_neg (fun h => hy h.1)
          rw [en]
          refine ⟨ex0, y :: r3, ?_, by simp at q1 ⊢; omega, fun e0 t0 h => by simp at h⟩
          rw [call_176]
          simp -implicitDefEqProofs only [go_sem, simprocAttr, Tryz.f176, nil_ne, at_hd, d1, d2, d3, d4, hk, t1, t2, hh]
          repeat' ((first | apply split_cond | apply split_yes | apply split_no) <;> intro hc <;> simp -implicitDefEqProofs only [hc, go_sem, simprocAttr, nil_ne, at_hd, d1, d2, d3, d4, hk, t1, t2, hh])
          rw [lk]
          simp -implicitDefEqProofs only [go_sem, simprocAttr, t3, hf]
          repeat' ((first | apply split_cond | apply split_yes | apply split_no) <;> intro hc <;> simp -implicitDefEqProofs only [hc, go_sem, simprocAttr, t3, hf])
          all_goals rfl
theorem reads_all : ∀ k : Nat, (∀ t : List UInt8, t.length ≤ 68000 → 2 * t.length + 1 ≤ k → Reads t (pE k t)) ∧ (∀ t : List UInt8, t.length ≤ 68000 → 2 * t.length + 2 ≤ k → Lists t (pL k t))
  | 0 => ⟨fun t _ h => by omega, fun t _ h => by omega⟩
  | k + 1 => by
    obtain ⟨ihE, ihL⟩ := reads_all k
    refine ⟨fun t ht hk => ?_, fun t ht hk => lists_of (ihE t ht (by omega)) fun r hr => ihL r (by omega) (by omega)⟩
    cases t with
    | nil => exact e_nil
    | cons c r =>
      simp only [List.length_cons] at ht hk
      rw [pE]
      by_cases h1 : c = 39
      · subst h1; rw [if_pos rfl]; exact e_quo r (by omega)
      rw [if_neg h1]
      by_cases h2 : c = 64
      · subst h2; rw [if_pos rfl]; exact e_at r (by omega)
      rw [if_neg h2]
      by_cases h3 : c = 45
      · subst h3; rw [if_pos rfl]; exact e_minus r (by omega)
      rw [if_neg h3]
      by_cases h4 : c = 63
      · subst h4; rw [if_pos rfl]; exact e_par r (by omega)
      rw [if_neg h4]
      have hd := List.Sublist.length_le (List.dropWhile_sublist isN (l := c :: r))
      unfold wordP
      cases hq : (c :: r).dropWhile isN with
      | nil => exact word_nil ⟨h1, h2, h3, h4⟩ (by omega) rfl hq
      | cons b r2 =>
        rw [hq] at hd
        simp only [List.length_cons] at hd
        simp only
        by_cases hb : b = 58
        · subst hb; rw [if_pos rfl]; exact word_col ⟨h1, h2, h3, h4⟩ (by omega) rfl hq
        rw [if_neg hb]
        by_cases hb2 : b = 40
        · subst hb2; rw [if_pos rfl]; exact word_node ⟨h1, h2, h3, h4⟩ (by omega) rfl hq (ihL r2 (by omega) (by omega))
        rw [if_neg hb2]
        exact word_other ⟨h1, h2, h3, h4⟩ (by omega) rfl hq hb hb2
noncomputable def readE (t : List UInt8) : Ex × Int :=
  if 65536 < t.length then (ex0, 2) else match progR t with
    | none => (ex0, 14)
    | some e => if smallS e = true then (e, 0) else (ex0, 2)
theorem progR_size (t : List UInt8) (h : t.length ≤ 65536) (e : Ex) (hp : progR t = some e) : exN e ≤ 1000000 ∧ txE e = 0 ∧ exT e = t ∧ exL t.length e := by
  unfold progR at hp
  split at hp
  · rename_i e' hpe
    simp only [Option.some.injEq] at hp
    subst hp
    obtain ⟨h1, h2, h3⟩ := (p_sound _).1 _ _ _ hpe
    rw [List.append_nil] at h1
    have hs := sF_text e' h2 h3 (exD e') (by omega)
    have hf := sF_fits t.length (exD e') t (Nat.le_refl _)
    rw [h1, hs, ← h1] at hf
    exact ⟨by have := hf.1; omega, h2, h1.symm, hf.l⟩
  · simp at hp
theorem c_exprRead (t : List UInt8) : R K (.call 114 [.str t, .bool false] []) = some (.tup [.agg (exC (readE t).1), I (readE t).2], []) := by
  by_cases h : 65536 < t.length
  · have d : decide ((65536 : Int) < (t.length : Int)) = true := decide_eq_true (by omega)
    have e : readE t = (ex0, 2) := if_pos h
    rw [e]
    rw [call_114]
    simp -implicitDefEqProofs only [go_sem, simprocAttr, Tryz.f114, d]
    repeat' ((first | apply split_cond | apply split_yes | apply split_no) <;> intro hc <;> simp -implicitDefEqProofs only [hc, go_sem, simprocAttr, d])
    all_goals rfl
  · have d : decide ((65536 : Int) < (t.length : Int)) = false := decide_eq_false (by omega)
    have e : readE t = (match progR t with
      | none => (ex0, 14)
      | some e => if smallS e = true then (e, 0) else (ex0, 2)) := if_neg h
    rw [e]
    obtain ⟨e1, t1, hr, hl, hx⟩ := (reads_all (2 * t.length + 1)).1 t (by omega) (Nat.le_refl _)
    have hs := fun e hp => progR_size t (by omega) e hp
    unfold progR at hs ⊢
    cases hp : pE (2 * t.length + 1) t with
    | none =>
      rw [hp] at hr
      simp only [Option.isNone_none] at hr
      rw [call_114]
      simp -implicitDefEqProofs only [go_sem, simprocAttr, Tryz.f114, d, hr]
      repeat' ((first | apply split_cond | apply split_yes | apply split_no) <;> intro hc <;> simp -implicitDefEqProofs only [hc, go_sem, simprocAttr, d, hr])
      all_goals rfl
    | some y =>
      obtain ⟨e0, t0⟩ := y
      obtain ⟨rfl, rfl⟩ := hx e0 t0 hp
      rw [hp] at hr hs
      simp only [Option.isNone_some] at hr
      cases t1 with
      | cons c r =>
        rw [call_114]
        simp -implicitDefEqProofs only [go_sem, simprocAttr, Tryz.f114, d, hr, nil_ne, bne]
        repeat' ((first | apply split_cond | apply split_yes | apply split_no) <;> intro hc <;> simp -implicitDefEqProofs only [hc, go_sem, simprocAttr, d, hr, nil_ne, bne])
        all_goals rfl
      | nil =>
        have hc := c_small e1 (hs e1 rfl).1
        simp only
        cases hq : smallS e1 with
        | true =>
          rw [hq] at hc
          rw [call_114]
          simp -implicitDefEqProofs only [go_sem, simprocAttr, Tryz.f114, d, hr, beq_self_eq_true, bne, hc, exC_len, exC_take]
          repeat' ((first | apply split_cond | apply split_yes | apply split_no) <;> intro hc <;> simp -implicitDefEqProofs only [hc, go_sem, simprocAttr, d, hr, beq_self_eq_true, bne, hc, exC_len, exC_take])
          all_goals rfl
        | false =>
          rw [hq] at hc
          rw [call_114]
          simp -implicitDefEqProofs only [go_sem, simprocAttr, Tryz.f114, d, hr, beq_self_eq_true, bne, hc, exC_len, exC_take]
          repeat' ((first | apply split_cond | apply split_yes | apply split_no) <;> intro hc <;> simp -implicitDefEqProofs only [hc, go_sem, simprocAttr, d, hr, beq_self_eq_true, bne, hc, exC_len, exC_take])
          all_goals rfl
theorem c_ExprRead (t : List UInt8) : R K (.call 51 [.str t] []) = some (.tup [.agg (exC (readE t).1), I (readE t).2], []) := by
  have h := c_exprRead t
  rw [call_51]
  simp -implicitDefEqProofs only [go_sem, simprocAttr, Tryz.f51, h, exC_len, exC_take]
  repeat' ((first | apply split_cond | apply split_yes | apply split_no) <;> intro hc <;> simp -implicitDefEqProofs only [hc, go_sem, simprocAttr, h, exC_len, exC_take])
theorem l_isName (s : List UInt8) (hs : s.length ≤ 10000000) (ks : List It) : ∀ (m j : Nat) (i : Int) (Bo : Code), Loop Tryz.f230 0 Bo → i = (j : Int) → s.length = j + m →
   RL K (.run 230 0 (.code Bo :: .lp Bo (some ([0, 5, 6], [])) 0 :: .blk 0 0 :: ks) [(0, .str s), (5, I (s.length : Int)), (6, I i)] []) =
   if (s.drop j).all isN = true then R K (.run 230 0 ks [] []) else some (.bool false, [])
  | 0, j, i, Bo, hB, hi, hj => by
    subst hi
    have h1 : decide ((j : Int) < (s.length : Int)) = false := decide_eq_false (by omega)
    rw [List.drop_of_length_le (by omega)]
    simp only [List.all_nil, if_true]
    unfold Loop at hB
    simp -implicitDefEqProofs only [go_sem, simprocAttr, Tryz.f230, loopOf] at hB
    subst hB
    rw [RL_eq]
    simp -implicitDefEqProofs only [go_sem, simprocAttr, h1]
    repeat' ((first | apply split_cond | apply split_yes | apply split_no) <;> intro hc <;> simp -implicitDefEqProofs only [hc, go_sem, simprocAttr, h1])
  | m + 1, j, i, Bo, hB, hi, hj => by
    have hB' := hB
    subst hi
    have h1 : decide ((j : Int) < (s.length : Int)) = true := decide_eq_true (by omega)
    obtain ⟨x, hx⟩ := some_at (l := s) (i := j) (by omega)
    have hg := byte_get hx
    have w1 : wrapI .i64 ((j : Int) + 1) = ((j + 1 : Nat) : Int) := by rw [wrap_id (by omega) (by omega)]; rfl
    have hn := c_ofName x
    rw [drop_get hx, List.all_cons]
    cases hq : isN x with
    | true =>
      rw [hq] at hn
      have ih := l_isName s hs ks m (j + 1) _ Bo hB' rfl (by omega)
      rw [Bool.true_and]
      unfold Loop at hB
      simp -implicitDefEqProofs only [go_sem, simprocAttr, Tryz.f230, loopOf] at hB
      subst hB
      rw [RL_eq]
      simp -implicitDefEqProofs only [go_sem, simprocAttr, h1, hg, hn, w1]
      repeat' ((first | apply split_cond | apply split_yes | apply split_no) <;> intro hc <;> simp -implicitDefEqProofs only [hc, go_sem, simprocAttr, h1, hg, hn, w1])
      rw [ih]
    | false =>
      rw [hq] at hn
      rw [Bool.false_and, if_neg (by simp)]
      unfold Loop at hB
      simp -implicitDefEqProofs only [go_sem, simprocAttr, Tryz.f230, loopOf] at hB
      subst hB
      rw [RL_eq]
      simp -implicitDefEqProofs only [go_sem, simprocAttr, h1, hg, hn]
      repeat' ((first | apply split_cond | apply split_yes | apply split_no) <;> intro hc <;> simp -implicitDefEqProofs only [hc, go_sem, simprocAttr, h1, hg, hn])
theorem c_isName (s : List UInt8) (hs : s.length ≤ 10000000) : R K (.call 230 [.str s] []) = some (.bool (s.all isN), []) := by
  have lk := fun ks B hB => l_isName s hs ks s.length 0 0 B hB rfl (by omega)
  simp only [List.drop_zero] at lk
  rw [call_230]
  simp -implicitDefEqProofs only [go_sem, simprocAttr, Tryz.f230]
  repeat' ((first | apply split_cond | apply split_yes | apply split_no) <;> intro hc <;> simp -implicitDefEqProofs only [hc, go_sem, simprocAttr])
  rw [lk _ _ ?_]
  · cases hq : s.all isN with
    | true =>
      rw [if_pos rfl]
      simp -implicitDefEqProofs only [go_sem, simprocAttr]
      repeat' ((first | apply split_cond | apply split_yes | apply split_no) <;> intro hc <;> simp -implicitDefEqProofs only [hc, go_sem, simprocAttr])
    | false => rw [if_neg (by simp)]
  · rfl
theorem l_textOf (args : List Ex) (hl : args.length ≤ 1000000) (ih : ∀ a ∈ args, R K (.call 171 [.agg (exC a), .bool false] []) = some (I (txE a), [])) (H0 : List AV) (hH : locsL H0 = []) (ks : List It) : ∀ (m j : Nat) (i : Int) (Bo : Code), Loop Tryz.f171 0 Bo → i = (j : Int) → args.length = j + m →
   RL K (.run 171 0 (.code Bo :: .lp Bo (some ([1, 2, 21, 22, 23], [])) 1 :: .blk 0 1 :: ks) [(1, .bool false), (2, .ptr 0 0), (21, .rows (exR args)), (22, I (args.length : Int)), (23, I i)] [.cells H0]) =
   if txL (args.drop j) ≠ 0 then some (I (txL (args.drop j)), []) else R K (.run 171 0 ks [(1, .bool false), (2, .ptr 0 0)] [.cells H0])
  | 0, j, i, Bo, hB, hi, hj => by
    subst hi
    have h1 : decide ((j : Int) < (args.length : Int)) = false := decide_eq_false (by omega)
    rw [List.drop_of_length_le (by omega)]
    simp only [txL, ne_eq, not_true, if_false]
    unfold Loop at hB
    simp -implicitDefEqProofs only [go_sem, simprocAttr, Tryz.f171, loopOf] at hB
    subst hB
    rw [RL_eq]
    simp -implicitDefEqProofs only [go_sem, simprocAttr, h1, hH]
    repeat' ((first | apply split_cond | apply split_yes | apply split_no) <;> intro hc <;> simp -implicitDefEqProofs only [hc, go_sem, simprocAttr, h1, hH])
  | m + 1, j, i, Bo, hB, hi, hj => by
    subst hi
    have hB' := hB
    have h1 : decide ((j : Int) < (args.length : Int)) = true := decide_eq_true (by omega)
    have h7 := next_id (i := j) (n := args.length) (by omega) (by omega)
    obtain ⟨x, hx⟩ := some_at (l := args) (i := j) (by omega)
    have hg := ex_get hx
    have r := ih x (List.mem_of_getElem? hx)
    rw [drop_ex hx, txL]
    by_cases hq : txE x = 0
    · have ih2 := l_textOf args hl ih H0 hH ks m (j + 1) _ Bo hB' rfl (by omega)
      rw [hq] at r
      simp only [hq, ne_eq, not_true, if_false]
      simp only [ne_eq] at ih2
      unfold Loop at hB
      simp -implicitDefEqProofs only [go_sem, simprocAttr, Tryz.f171, loopOf] at hB
      subst hB
      rw [RL_eq]
      simp -implicitDefEqProofs only [go_sem, simprocAttr, h1, hH, h7, hg, exC_len, exC_take, r, bne, beq_self_eq_true]
      repeat' ((first | apply split_cond | apply split_yes | apply split_no) <;> intro hc <;> simp -implicitDefEqProofs only [hc, go_sem, simprocAttr, h1, hH, h7, hg, exC_len, exC_take, r, bne, beq_self_eq_true])
      rw [ih2]
    · have b0 : (txE x == 0) = false := by simpa using hq
      simp only [ne_eq, hq, not_false_eq_true, if_true]
      unfold Loop at hB
      simp -implicitDefEqProofs only [go_sem, simprocAttr, Tryz.f171, loopOf] at hB
      subst hB
      rw [RL_eq]
      simp -implicitDefEqProofs only [go_sem, simprocAttr, h1, hH, h7, hg, exC_len, exC_take, r, bne, b0]
      repeat' ((first | apply split_cond | apply split_yes | apply split_no) <;> intro hc <;> simp -implicitDefEqProofs only [hc, go_sem, simprocAttr, h1, hH, h7, hg, exC_len, exC_take, r, bne, b0])
theorem c_textOf : ∀ e : Ex, exN e ≤ 1000000 → exL 1000000 e → R K (.call 171 [.agg (exC e), .bool false] []) = some (I (txE e), []) := by
  refine Ex.ind fun e ih => ?_
  intro hN hL
  have hL' := exL_at hL
  have ih : ∀ a ∈ e.args, R K (.call 171 [.agg (exC a), .bool false] []) = some (I (txE a), []) := fun a ha => ih a ha (by
    obtain ⟨k, op, n, v, src, nm, dd, args⟩ := e
    have := exN_mem (l := args) ha
    simp only [exN] at hN; omega) (exL_mem hL'.2.2 ha)
  have hlen : e.args.length ≤ 1000000 := by
    obtain ⟨k, op, n, v, src, nm, dd, args⟩ := e
    have := exNs_len args
    simp only [exN, Ex.args] at hN ⊢; omega
  have hf := c_formOf e hL'.1 hL'.2.1
  have n1 := c_isName e.src (by omega)
  have n2 := c_isName e.nm (by omega)
  have hr := c_rightN e.op e.n
  have hw := c_within e.n 0 59
  have etx : txE e = if txL e.args ≠ 0 then txL e.args else ownE e := by cases e; rfl
  rw [exC_eq] at hf
  have lk := fun ks B hB => l_textOf e.args hlen ih (exC e) (exC_locs e) ks e.args.length 0 0 B hB rfl (by omega)
  simp only [List.drop_zero, exC_eq] at lk
  rw [etx, exC_eq]
  rw [call_171]
  simp -implicitDefEqProofs only [go_sem, simprocAttr, Tryz.f171, exR_len]
  repeat' ((first | apply split_cond | apply split_yes | apply split_no) <;> intro hc <;> simp -implicitDefEqProofs only [hc, go_sem, simprocAttr, exR_len])
  rw [lk _ _ ?_]
  · by_cases hq : txL e.args = 0
    · simp only [hq, ne_eq, not_true, if_false]
      unfold ownE
      generalize formOfS e = fo at hf ⊢
      generalize rightNS e.op e.n = rn at hr ⊢
      generalize within e.n 0 59 = wn at hw ⊢
      generalize List.all e.nm isN = nn at n2 ⊢
      generalize List.all e.src isN = sn at n1 ⊢
      by_cases hfo : fo = 0
      · subst hfo
        simp only [ne_eq, not_true, if_false]
        simp -implicitDefEqProofs only [go_sem, simprocAttr, hf, bne, beq_self_eq_true, hw, hr, n1, n2]
        repeat' ((first | apply split_cond | apply split_yes | apply split_no) <;> intro hc <;> simp -implicitDefEqProofs only [hc, go_sem, simprocAttr, hf, bne, beq_self_eq_true, hw, hr, n1, n2])
        all_goals (clear lk hf hr hw n1 n2 ih hN hL hL' hlen etx; refine congrArg (fun n => ((I n, []) : AV × Heap)) ?_; simp only [beq_iff_eq, beq_eq_false_iff_ne, Bool.not_eq_true', Bool.not_eq_false'] at *; simp_all)
      · have b0 : (fo == 0) = false := by simpa using hfo
        rw [if_pos hfo]
        simp -implicitDefEqProofs only [go_sem, simprocAttr, hf, bne, b0]
        repeat' ((first | apply split_cond | apply split_yes | apply split_no) <;> intro hc <;> simp -implicitDefEqProofs only [hc, go_sem, simprocAttr, hf, bne, b0])
    · rw [if_pos hq, if_pos hq]
  · rfl
abbrev BH (p : AV) (s : List UInt8) : Heap := [.cells [p, .town 5 1 (s.length : Nat)], .rows 1 (byteRows s) false]
theorem b_check (p x : AV) (r : Heap) (hp : p = .nilp ∨ p = .ptr 0 0) : R K (.call 202 [.tptr 132 0 0] (.cells [p, x] :: r)) = some (.tup [], .cells [.ptr 0 0, x] :: r) := by
  rcases hp with rfl | rfl
  · exact R_primH rfl rfl
  · exact R_primH rfl rfl
theorem bR_app (s w : List UInt8) : byteRows s ++ byteRows w = byteRows (s ++ w) := by
  induction s with
  | nil => rfl
  | cons b s ih => simp only [List.cons_append, byteRows, ih]
theorem b_string (p : AV) (s w : List UInt8) (hp : p = .nilp ∨ p = .ptr 0 0) (h : s.length + w.length ≤ 40000000) : R K (.call 141 [.tptr 132 0 0, .str w] (BH p s)) = some (.tup [I (w.length : Int), .nili], BH (.ptr 0 0) (s ++ w)) := by
  have hc := b_check p (.town 5 1 (s.length : Nat)) [.rows 1 (byteRows s) false] hp
  have he : ((s.length + w.length) * 2 ≤ roomMax) = True := eq_true (by unfold roomMax; omega)
  rcases hp with rfl | rfl
  · rw [call_141]
    simp -implicitDefEqProofs only [go_sem, simprocAttr, Tryz.f141, BH, hc, byteRows_length, he, bR_app]
    repeat' ((first | apply split_cond | apply split_yes | apply split_no) <;> intro hc <;> simp -implicitDefEqProofs only [hc, go_sem, simprocAttr, BH, hc, byteRows_length, he, bR_app])
  · rw [call_141]
    simp -implicitDefEqProofs only [go_sem, simprocAttr, Tryz.f141, BH, hc, byteRows_length, he, bR_app]
    repeat' ((first | apply split_cond | apply split_yes | apply split_no) <;> intro hc <;> simp -implicitDefEqProofs only [hc, go_sem, simprocAttr, BH, hc, byteRows_length, he, bR_app])
theorem byteRows_one (c : UInt8) : byteRows [c] = [[.int .u8 (c.toNat : Int)]] := rfl
theorem b_byte (p : AV) (s : List UInt8) (c : UInt8) (n : Int) (hn : n = (c.toNat : Int)) (hp : p = .nilp ∨ p = .ptr 0 0) (h : s.length ≤ 40000000) : R K (.call 142 [.tptr 132 0 0, .int .u8 n] (BH p s)) = some (.nili, BH (.ptr 0 0) (s ++ [c])) := by
  subst hn
  have hc := b_check p (.town 5 1 (s.length : Nat)) [.rows 1 (byteRows s) false] hp
  have he : ((s.length + 1) * 2 ≤ roomMax) = True := eq_true (by unfold roomMax; omega)
  have ha : byteRows s ++ [[.int .u8 (c.toNat : Int)]] = byteRows (s ++ [c]) := by rw [← byteRows_one, bR_app]
  rcases hp with rfl | rfl
  · rw [call_142]
    simp -implicitDefEqProofs only [go_sem, simprocAttr, Tryz.f142, BH, hc, byteRows_length, he, ha]
    repeat' ((first | apply split_cond | apply split_yes | apply split_no) <;> intro hc <;> simp -implicitDefEqProofs only [hc, go_sem, simprocAttr, BH, hc, byteRows_length, he, ha])
  · rw [call_142]
    simp -implicitDefEqProofs only [go_sem, simprocAttr, Tryz.f142, BH, hc, byteRows_length, he, ha]
    repeat' ((first | apply split_cond | apply split_yes | apply split_no) <;> intro hc <;> simp -implicitDefEqProofs only [hc, go_sem, simprocAttr, BH, hc, byteRows_length, he, ha])
def Writes (e : Ex) : Prop := ∀ (p : AV) (s : List UInt8), (p = .nilp ∨ p = .ptr 0 0) → s.length + (exT e).length ≤ 39000000 → R K (.call 172 [.tptr 132 0 0, .agg (exC e)] (BH p s)) = some (.tup [], BH (.ptr 0 0) (s ++ exT e))
noncomputable def wrS (j : Nat) (l : List Ex) : List UInt8 := if j = 0 then (exQ l).drop 1 else exQ (l.drop j)
theorem wrS_end (l : List Ex) (j : Nat) (h : l.length ≤ j) : wrS j l = [] := by
  unfold wrS
  rw [List.drop_of_length_le h]
  split
  · rename_i h0
    have : l = [] := List.eq_nil_of_length_eq_zero (by omega)
    subst this; rfl
  · rfl
theorem l_write (args : List Ex) (hl : args.length ≤ 1000000) (ih : ∀ a ∈ args, Writes a) (H0 : List AV) (hH : locsL H0 = []) (ks : List It) : ∀ (m j : Nat) (i : Int) (s t : List UInt8) (Bo : Code), Loop Tryz.f172 1 Bo → i = (j : Int) → args.length = j + m → s.length + (wrS j args).length ≤ 39000000 → t = s ++ wrS j args →
   RL K (.run 172 2 (.code Bo :: .lp Bo (some ([0, 82, 83, 84], [])) 3 :: .blk 1 3 :: ks) [(0, .tptr 132 0 0), (82, .rows (exR args)), (83, I (args.length : Int)), (84, I i)] [.cells [.ptr 0 0, .town 5 1 s.length], .rows 1 (byteRows s) false, .cells H0]) =
   R K (.run 172 2 ks [(0, .tptr 132 0 0)] [.cells [.ptr 0 0, .town 5 1 t.length], .rows 1 (byteRows t) false, .cells H0])
  | 0, j, i, s, t, Bo, hB, hi, hj, hs, ht => by
    subst hi
    have h1 : decide ((j : Int) < (args.length : Int)) = false := decide_eq_false (by omega)
    rw [wrS_end args j (by omega), List.append_nil] at ht
    subst ht
    unfold Loop at hB
    simp -implicitDefEqProofs only [go_sem, simprocAttr, Tryz.f172, loopOf] at hB
    subst hB
    rw [RL_eq]
    simp -implicitDefEqProofs only [go_sem, simprocAttr, h1, hH]
    repeat' ((first | apply split_cond | apply split_yes | apply split_no) <;> intro hc <;> simp -implicitDefEqProofs only [hc, go_sem, simprocAttr, h1, hH])
  | m + 1, j, i, s, t, Bo, hB, hi, hj, hs, ht => by
    subst hi
    have hB' := hB
    have h1 : decide ((j : Int) < (args.length : Int)) = true := decide_eq_true (by omega)
    have h7 := next_id (i := j) (n := args.length) (by omega) (by omega)
    obtain ⟨x, hx⟩ := some_at (l := args) (i := j) (by omega)
    have hg := ex_get hx
    have hw := ih x (List.mem_of_getElem? hx)
    have hd := drop_ex hx
    by_cases h0 : j = 0
    · have e1 : wrS j args = exT x ++ wrS (j + 1) args := by
        subst h0
        unfold wrS
        rw [List.drop_zero] at hd
        rw [if_pos rfl, if_neg (by omega)]
        conv => lhs; rw [hd]
        rw [exQ_cons, List.drop_succ_cons, List.drop_zero]
      rw [e1, List.length_append] at hs
      have r := hw (.ptr 0 0) s (.inr rfl) (by omega)
      have d0 : decide ((0 : Int) < (j : Int)) = false := decide_eq_false (by omega)
      obtain ⟨s2, hs2⟩ : ∃ s2, s2 = s ++ exT x := ⟨_, rfl⟩
      have e2 : t = s2 ++ wrS (j + 1) args := by rw [ht, e1, hs2, List.append_assoc]
      have ih2 := l_write args hl ih H0 hH ks m (j + 1) _ s2 t Bo hB' rfl (by omega) (by rw [hs2, List.length_append]; omega) e2
      rw [← hs2] at r
      simp only [BH] at r
      unfold Loop at hB
      simp -implicitDefEqProofs only [go_sem, simprocAttr, Tryz.f172, loopOf] at hB
      subst hB
      rw [RL_eq]
      simp -implicitDefEqProofs only [go_sem, simprocAttr, h1, hH, h7, hg, exC_len, exC_take, d0, r]
      repeat' ((first | apply split_cond | apply split_yes | apply split_no) <;> intro hc <;> simp -implicitDefEqProofs only [hc, go_sem, simprocAttr, h1, hH, h7, hg, exC_len, exC_take, d0, r])
      rw [ih2]
    · have e1 : wrS j args = 44 :: (exT x ++ wrS (j + 1) args) := by
        unfold wrS
        rw [if_neg h0, if_neg (by omega), hd, exQ_cons]
      rw [e1, List.length_cons, List.length_append] at hs
      have d0 : decide ((0 : Int) < (j : Int)) = true := decide_eq_true (by omega)
      have rb := b_byte (.ptr 0 0) s 44 44 rfl (.inr rfl) (by omega)
      obtain ⟨s1, hs1⟩ : ∃ s1, s1 = s ++ [44] := ⟨_, rfl⟩
      have l1 : s1.length = s.length + 1 := by rw [hs1]; simp
      have r := hw (.ptr 0 0) s1 (.inr rfl) (by omega)
      obtain ⟨s2, hs2⟩ : ∃ s2, s2 = s1 ++ exT x := ⟨_, rfl⟩
      have e2 : t = s2 ++ wrS (j + 1) args := by rw [ht, e1, hs2, hs1]; simp
      have ih2 := l_write args hl ih H0 hH ks m (j + 1) _ s2 t Bo hB' rfl (by omega) (by rw [hs2, List.length_append]; omega) e2
      rw [← hs2] at r
      rw [← hs1] at rb
      simp only [BH] at r rb
      unfold Loop at hB
      simp -implicitDefEqProofs only [go_sem, simprocAttr, Tryz.f172, loopOf] at hB
      subst hB
      rw [RL_eq]
      simp -implicitDefEqProofs only [go_sem, simprocAttr, h1, hH, h7, hg, exC_len, exC_take, d0, rb, r]
      repeat' ((first | apply split_cond | apply split_yes | apply split_no) <;> intro hc <;> simp -implicitDefEqProofs only [hc, go_sem, simprocAttr, h1, hH, h7, hg, exC_len, exC_take, d0, rb, r])
      rw [ih2]
theorem ob_keep (p a : AV) (n : Nat) (r : Heap) : ownedB [(0, .tptr 132 0 0), (1, a)] (.cells [p, .town 5 1 n] :: r) [(0, 1, 5)] = .cells [p, .town 5 1 n] :: r := rfl
theorem w_val (v : Val) (hr : rightS v = true) : Writes (mkV v) := by
  intro p s hp hs
  rw [exT_val] at hs ⊢
  have hw := b_string p s (showS v) hp (by omega)
  have hsh : R K (.call 13 [V v.k v.n v.s] []) = some (.str (showS v), []) := c_Show v.k v.n v.s
  obtain ⟨t, ht⟩ : ∃ t, t = s ++ showS v := ⟨_, rfl⟩
  rw [← ht] at hw ⊢
  simp only [BH] at hw
  have c1 : ((1 : Int) == 1) = true := rfl
  rcases hp with rfl | rfl
  · rw [call_172]
    simp -implicitDefEqProofs only [go_sem, simprocAttr, Tryz.f172, BH, mkV, exC, exR, c1, hsh, hw, ob_keep]
    repeat' ((first | apply split_cond | apply split_yes | apply split_no) <;> intro hc <;> simp -implicitDefEqProofs only [hc, go_sem, simprocAttr, BH, mkV, exC, exR, c1, hsh, hw, ob_keep])
  · rw [call_172]
    simp -implicitDefEqProofs only [go_sem, simprocAttr, Tryz.f172, BH, mkV, exC, exR, c1, hsh, hw, ob_keep]
    repeat' ((first | apply split_cond | apply split_yes | apply split_no) <;> intro hc <;> simp -implicitDefEqProofs only [hc, go_sem, simprocAttr, BH, mkV, exC, exR, c1, hsh, hw, ob_keep])
theorem w_par (n : Int) (h0 : 0 ≤ n) (h1 : n ≤ 59) : Writes (mkP n) := by
  intro p s hp hs
  rw [exT_par] at hs ⊢
  have hw := b_string p s (63 :: Lib.itoa n) hp (by omega)
  have hi := p_Itoa n (by omega) (by omega)
  obtain ⟨t, ht⟩ : ∃ t, t = s ++ 63 :: Lib.itoa n := ⟨_, rfl⟩
  rw [← ht] at hw ⊢
  simp only [BH] at hw
  simp only [List.length_cons] at hs
  have g1 : (1 + (Lib.itoa n).length ≤ strMax) = True := eq_true (by unfold strMax; omega)
  have c1 : ((2 : Int) == 1) = false := rfl
  have c2 : ((2 : Int) == 2) = true := rfl
  rcases hp with rfl | rfl
  · rw [call_172]
    simp -implicitDefEqProofs only [go_sem, simprocAttr, Tryz.f172, BH, mkP, null, exC, exR, c1, c2, hi, g1, hw, ob_keep, List.cons_append, List.nil_append]
    repeat' ((first | apply split_cond | apply split_yes | apply split_no) <;> intro hc <;> simp -implicitDefEqProofs only [hc, go_sem, simprocAttr, BH, mkP, null, exC, exR, c1, c2, hi, g1, hw, ob_keep, List.cons_append, List.nil_append])
  · rw [call_172]
    simp -implicitDefEqProofs only [go_sem, simprocAttr, Tryz.f172, BH, mkP, null, exC, exR, c1, c2, hi, g1, hw, ob_keep, List.cons_append, List.nil_append]
    repeat' ((first | apply split_cond | apply split_yes | apply split_no) <;> intro hc <;> simp -implicitDefEqProofs only [hc, go_sem, simprocAttr, BH, mkP, null, exC, exR, c1, c2, hi, g1, hw, ob_keep, List.cons_append, List.nil_append])
theorem w_col (a m : List UInt8) : Writes (mkC a m) := by
  intro p s hp hs
  rw [exT_col] at hs ⊢
  have hw := b_string p s (a ++ 58 :: m) hp (by omega)
  obtain ⟨t, ht⟩ : ∃ t, t = s ++ (a ++ 58 :: m) := ⟨_, rfl⟩
  rw [← ht] at hw ⊢
  simp only [BH] at hw
  simp only [List.length_append, List.length_cons] at hs
  have g1 : (a.length + 1 ≤ strMax) = True := eq_true (by unfold strMax; omega)
  have g2 : (a.length + 1 + m.length ≤ strMax) = True := eq_true (by unfold strMax; omega)
  have g3 : (a.length + (m.length + 1) ≤ strMax) = True := eq_true (by unfold strMax; omega)
  have c1 : ((3 : Int) == 1) = false := rfl
  have c2 : ((3 : Int) == 2) = false := rfl
  have c3 : ((3 : Int) == 3) = true := rfl
  rcases hp with rfl | rfl
  · rw [call_172]
    simp -implicitDefEqProofs only [go_sem, simprocAttr, Tryz.f172, BH, mkC, null, exC, exR, c1, c2, c3, g1, g2, g3, hw, ob_keep, List.append_assoc, List.cons_append, List.nil_append]
    repeat' ((first | apply split_cond | apply split_yes | apply split_no) <;> intro hc <;> simp -implicitDefEqProofs only [hc, go_sem, simprocAttr, BH, mkC, null, exC, exR, c1, c2, c3, g1, g2, g3, hw, ob_keep, List.append_assoc, List.cons_append, List.nil_append])
  · rw [call_172]
    simp -implicitDefEqProofs only [go_sem, simprocAttr, Tryz.f172, BH, mkC, null, exC, exR, c1, c2, c3, g1, g2, g3, hw, ob_keep, List.append_assoc, List.cons_append, List.nil_append]
    repeat' ((first | apply split_cond | apply split_yes | apply split_no) <;> intro hc <;> simp -implicitDefEqProofs only [hc, go_sem, simprocAttr, BH, mkC, null, exC, exR, c1, c2, c3, g1, g2, g3, hw, ob_keep, List.append_assoc, List.cons_append, List.nil_append])
theorem w_in (k : Int) (w : List UInt8) (hk : (k = 5 ∧ w = [99, 97, 115, 101]) ∨ (k = 6 ∧ w = [105, 110])) (l : List Ex) (hl : l.length ≤ 1000000) (ih : ∀ a ∈ l, Writes a) (p : AV) (s t : List UInt8) (hp : p = .nilp ∨ p = .ptr 0 0) (hs : t.length ≤ 39000000) (ht : t = s ++ (w ++ 40 :: ((exQ l).drop 1 ++ [41]))) :
   R K (.call 172 [.tptr 132 0 0, .agg (exC (mkO k 0 0 l))] (BH p s)) = some (.tup [], BH (.ptr 0 0) t) := by
  have hlt := congrArg List.length ht
  simp only [List.length_append, List.length_cons, List.length_nil] at hlt
  have hw := b_string p s w hp (by rcases hk with ⟨_, rfl⟩ | ⟨_, rfl⟩ <;> (simp only [List.length_cons, List.length_nil]; omega))
  obtain ⟨s1, hs1⟩ : ∃ s1, s1 = s ++ w := ⟨_, rfl⟩
  have q1 : s1.length = s.length + w.length := by rw [hs1, List.length_append]
  rw [← hs1] at hw
  have h2 := b_byte (.ptr 0 0) s1 40 40 rfl (.inr rfl) (by omega)
  obtain ⟨s2, hs2⟩ : ∃ s2, s2 = s1 ++ [40] := ⟨_, rfl⟩
  have q2 : s2.length = s1.length + 1 := by rw [hs2]; simp
  rw [← hs2] at h2
  obtain ⟨s3, hs3⟩ : ∃ s3, s3 = s2 ++ wrS 0 l := ⟨_, rfl⟩
  have w0 : wrS 0 l = (exQ l).drop 1 := if_pos rfl
  have q3 : s3.length = s2.length + ((exQ l).drop 1).length := by rw [hs3, w0]; simp
  have h4 := b_byte (.ptr 0 0) s3 41 41 rfl (.inr rfl) (by omega)
  have et : t = s3 ++ [41] := by rw [ht, hs3, w0, hs2, hs1]; simp
  rw [← et] at h4
  have lk := fun ks B hB => l_write l hl ih (exC (mkO k 0 0 l)) (exC_locs _) ks l.length 0 0 s2 s3 B hB rfl (by omega) (by rw [w0]; omega) hs3
  simp only [mkO, exC, null] at lk
  simp only [BH] at hw h2 h4
  have c1 : (k == 1) = false := by rw [beq_eq_false_iff_ne]; omega
  have c2 : (k == 2) = false := by rw [beq_eq_false_iff_ne]; omega
  have c3 : (k == 3) = false := by rw [beq_eq_false_iff_ne]; omega
  have c4 : (k == 4) = false := by rw [beq_eq_false_iff_ne]; omega
  have c24 : (k == 24) = false := by rw [beq_eq_false_iff_ne]; omega
  rcases hk with ⟨rfl, rfl⟩ | ⟨rfl, rfl⟩
  · have c5 : ((5 : Int) == 5) = true := rfl
    rcases hp with rfl | rfl
    · rw [call_172]
      simp -implicitDefEqProofs only [go_sem, simprocAttr, Tryz.f172, BH, mkO, null, exC, exR_len, c1, c2, c3, c4, c5, c24, hw, h2, ob_keep]
      repeat' ((first | apply split_cond | apply split_yes | apply split_no) <;> intro hc <;> simp -implicitDefEqProofs only [hc, go_sem, simprocAttr, BH, mkO, null, exC, exR_len, c1, c2, c3, c4, c5, c24, hw, h2, ob_keep])
      rw [lk _ _ ?_]
      · simp -implicitDefEqProofs only [go_sem, simprocAttr, h4]
        repeat' ((first | apply split_cond | apply split_yes | apply split_no) <;> intro hc <;> simp -implicitDefEqProofs only [hc, go_sem, simprocAttr, h4])
      · rfl
    · rw [call_172]
      simp -implicitDefEqProofs only [go_sem, simprocAttr, Tryz.f172, BH, mkO, null, exC, exR_len, c1, c2, c3, c4, c5, c24, hw, h2, ob_keep]
      repeat' ((first | apply split_cond | apply split_yes | apply split_no) <;> intro hc <;> simp -implicitDefEqProofs only [hc, go_sem, simprocAttr, BH, mkO, null, exC, exR_len, c1, c2, c3, c4, c5, c24, hw, h2, ob_keep])
      rw [lk _ _ ?_]
      · simp -implicitDefEqProofs only [go_sem, simprocAttr, h4]
        repeat' ((first | apply split_cond | apply split_yes | apply split_no) <;> intro hc <;> simp -implicitDefEqProofs only [hc, go_sem, simprocAttr, h4])
      · rfl
  · have c5 : ((6 : Int) == 5) = false := rfl
    have c6 : ((6 : Int) == 6) = true := rfl
    rcases hp with rfl | rfl
    · rw [call_172]
      simp -implicitDefEqProofs only [go_sem, simprocAttr, Tryz.f172, BH, mkO, null, exC, exR_len, c1, c2, c3, c4, c5, c6, c24, hw, h2, ob_keep]
      repeat' ((first | apply split_cond | apply split_yes | apply split_no) <;> intro hc <;> simp -implicitDefEqProofs only [hc, go_sem, simprocAttr, BH, mkO, null, exC, exR_len, c1, c2, c3, c4, c5, c6, c24, hw, h2, ob_keep])
      rw [lk _ _ ?_]
      · simp -implicitDefEqProofs only [go_sem, simprocAttr, h4]
        repeat' ((first | apply split_cond | apply split_yes | apply split_no) <;> intro hc <;> simp -implicitDefEqProofs only [hc, go_sem, simprocAttr, h4])
      · rfl
    · rw [call_172]
      simp -implicitDefEqProofs only [go_sem, simprocAttr, Tryz.f172, BH, mkO, null, exC, exR_len, c1, c2, c3, c4, c5, c6, c24, hw, h2, ob_keep]
      repeat' ((first | apply split_cond | apply split_yes | apply split_no) <;> intro hc <;> simp -implicitDefEqProofs only [hc, go_sem, simprocAttr, BH, mkO, null, exC, exR_len, c1, c2, c3, c4, c5, c6, c24, hw, h2, ob_keep])
      rw [lk _ _ ?_]
      · simp -implicitDefEqProofs only [go_sem, simprocAttr, h4]
        repeat' ((first | apply split_cond | apply split_yes | apply split_no) <;> intro hc <;> simp -implicitDefEqProofs only [hc, go_sem, simprocAttr, h4])
      · rfl
theorem w_op0 (op n : Int) (hn : hasNS op = false) (l : List Ex) (hl : l.length ≤ 1000000) (ih : ∀ a ∈ l, Writes a) (p : AV) (s t : List UInt8) (hp : p = .nilp ∨ p = .ptr 0 0) (hs : t.length ≤ 39000000) (ht : t = s ++ (opNameS op ++ 40 :: ((exQ l).drop 1 ++ [41]))) :
   R K (.call 172 [.tptr 132 0 0, .agg (exC (mkO 4 op n l))] (BH p s)) = some (.tup [], BH (.ptr 0 0) t) := by
  have hlt := congrArg List.length ht
  simp only [List.length_append, List.length_cons, List.length_nil] at hlt
  have hsh := name_short op
  have hw := b_string p s (opNameS op) hp (by omega)
  obtain ⟨s1, hs1⟩ : ∃ s1, s1 = s ++ opNameS op := ⟨_, rfl⟩
  have q1 : s1.length = s.length + (opNameS op).length := by rw [hs1, List.length_append]
  rw [← hs1] at hw
  have h2 := b_byte (.ptr 0 0) s1 40 40 rfl (.inr rfl) (by omega)
  obtain ⟨s2, hs2⟩ : ∃ s2, s2 = s1 ++ [40] := ⟨_, rfl⟩
  have q2 : s2.length = s1.length + 1 := by rw [hs2]; simp
  rw [← hs2] at h2
  obtain ⟨s3, hs3⟩ : ∃ s3, s3 = s2 ++ wrS 0 l := ⟨_, rfl⟩
  have w0 : wrS 0 l = (exQ l).drop 1 := if_pos rfl
  have q3 : s3.length = s2.length + ((exQ l).drop 1).length := by rw [hs3, w0]; simp
  have h4 := b_byte (.ptr 0 0) s3 41 41 rfl (.inr rfl) (by omega)
  have et : t = s3 ++ [41] := by rw [ht, hs3, w0, hs2, hs1]; simp
  rw [← et] at h4
  have lk := fun ks B hB => l_write l hl ih (exC (mkO 4 op n l)) (exC_locs _) ks l.length 0 0 s2 s3 B hB rfl (by omega) (by rw [w0]; omega) hs3
  simp only [mkO, exC, null] at lk
  have ho := c_opName op
  have hu := c_usesN op
  have c1 : ((4 : Int) == 1) = false := rfl
  have c2 : ((4 : Int) == 2) = false := rfl
  have c3 : ((4 : Int) == 3) = false := rfl
  have c4 : ((4 : Int) == 4) = true := rfl
  have c24 : ((4 : Int) == 24) = false := rfl
  rw [hn] at hu
  simp only [BH] at hw h2 h4
  rcases hp with rfl | rfl
  · rw [call_172]
    simp -implicitDefEqProofs only [go_sem, simprocAttr, Tryz.f172, BH, mkO, null, exC, exR_len, c1, c2, c3, c4, c24, ho, hu, hw, h2, ob_keep]
    repeat' ((first | apply split_cond | apply split_yes | apply split_no) <;> intro hc <;> simp -implicitDefEqProofs only [hc, go_sem, simprocAttr, BH, mkO, null, exC, exR_len, c1, c2, c3, c4, c24, ho, hu, hw, h2, ob_keep])
    rw [lk _ _ ?_]
    · simp -implicitDefEqProofs only [go_sem, simprocAttr, h4]
      repeat' ((first | apply split_cond | apply split_yes | apply split_no) <;> intro hc <;> simp -implicitDefEqProofs only [hc, go_sem, simprocAttr, h4])
    · rfl
  · rw [call_172]
    simp -implicitDefEqProofs only [go_sem, simprocAttr, Tryz.f172, BH, mkO, null, exC, exR_len, c1, c2, c3, c4, c24, ho, hu, hw, h2, ob_keep]
    repeat' ((first | apply split_cond | apply split_yes | apply split_no) <;> intro hc <;> simp -implicitDefEqProofs only [hc, go_sem, simprocAttr, BH, mkO, null, exC, exR_len, c1, c2, c3, c4, c24, ho, hu, hw, h2, ob_keep])
    rw [lk _ _ ?_]
    · simp -implicitDefEqProofs only [go_sem, simprocAttr, h4]
      repeat' ((first | apply split_cond | apply split_yes | apply split_no) <;> intro hc <;> simp -implicitDefEqProofs only [hc, go_sem, simprocAttr, h4])
    · rfl
theorem w_opN (op n : Int) (hn : hasNS op = true) (n0 : -9223372036854775808 ≤ n) (n1 : n ≤ 9223372036854775807) (l : List Ex) (hl : l.length ≤ 1000000) (ih : ∀ a ∈ l, Writes a) (p : AV) (s t : List UInt8) (hp : p = .nilp ∨ p = .ptr 0 0) (hs : t.length ≤ 39000000) (ht : t = s ++ (opNameS op ++ 46 :: Lib.itoa n ++ 40 :: ((exQ l).drop 1 ++ [41]))) :
   R K (.call 172 [.tptr 132 0 0, .agg (exC (mkO 4 op n l))] (BH p s)) = some (.tup [], BH (.ptr 0 0) t) := by
  have hlt := congrArg List.length ht
  simp only [List.length_append, List.length_cons, List.length_nil] at hlt
  have hsh := name_short op
  have hit := Lib.itoa_length_le n n0 n1
  have hw := b_string p s (opNameS op) hp (by omega)
  obtain ⟨s0, hs0⟩ : ∃ s0, s0 = s ++ opNameS op := ⟨_, rfl⟩
  have q0 : s0.length = s.length + (opNameS op).length := by rw [hs0, List.length_append]
  rw [← hs0] at hw
  have hw2 := b_string (.ptr 0 0) s0 (46 :: Lib.itoa n) (.inr rfl) (by rw [List.length_cons]; omega)
  obtain ⟨s1, hs1⟩ : ∃ s1, s1 = s0 ++ 46 :: Lib.itoa n := ⟨_, rfl⟩
  have q1 : s1.length = s0.length + (Lib.itoa n).length + 1 := by rw [hs1, List.length_append, List.length_cons]; omega
  rw [← hs1] at hw2
  have h2 := b_byte (.ptr 0 0) s1 40 40 rfl (.inr rfl) (by omega)
  have hi := p_Itoa n n0 n1
  have g1 : (1 + (Lib.itoa n).length ≤ strMax) = True := eq_true (by unfold strMax; omega)
  obtain ⟨s2, hs2⟩ : ∃ s2, s2 = s1 ++ [40] := ⟨_, rfl⟩
  have q2 : s2.length = s1.length + 1 := by rw [hs2]; simp
  rw [← hs2] at h2
  obtain ⟨s3, hs3⟩ : ∃ s3, s3 = s2 ++ wrS 0 l := ⟨_, rfl⟩
  have w0 : wrS 0 l = (exQ l).drop 1 := if_pos rfl
  have q3 : s3.length = s2.length + ((exQ l).drop 1).length := by rw [hs3, w0]; simp
  have h4 := b_byte (.ptr 0 0) s3 41 41 rfl (.inr rfl) (by omega)
  have et : t = s3 ++ [41] := by rw [ht, hs3, w0, hs2, hs1, hs0]; simp
  rw [← et] at h4
  have lk := fun ks B hB => l_write l hl ih (exC (mkO 4 op n l)) (exC_locs _) ks l.length 0 0 s2 s3 B hB rfl (by omega) (by rw [w0]; omega) hs3
  simp only [mkO, exC, null] at lk
  have ho := c_opName op
  have hu := c_usesN op
  have c1 : ((4 : Int) == 1) = false := rfl
  have c2 : ((4 : Int) == 2) = false := rfl
  have c3 : ((4 : Int) == 3) = false := rfl
  have c4 : ((4 : Int) == 4) = true := rfl
  have c24 : ((4 : Int) == 24) = false := rfl
  rw [hn] at hu
  simp only [BH] at hw hw2 h2 h4
  rcases hp with rfl | rfl
  · rw [call_172]
    simp -implicitDefEqProofs only [go_sem, simprocAttr, Tryz.f172, BH, mkO, null, exC, exR_len, c1, c2, c3, c4, c24, ho, hu, hi, g1, hw, hw2, h2, ob_keep, List.cons_append, List.nil_append]
    repeat' ((first | apply split_cond | apply split_yes | apply split_no) <;> intro hc <;> simp -implicitDefEqProofs only [hc, go_sem, simprocAttr, BH, mkO, null, exC, exR_len, c1, c2, c3, c4, c24, ho, hu, hi, g1, hw, hw2, h2, ob_keep, List.cons_append, List.nil_append])
    rw [lk _ _ ?_]
    · simp -implicitDefEqProofs only [go_sem, simprocAttr, h4]
      repeat' ((first | apply split_cond | apply split_yes | apply split_no) <;> intro hc <;> simp -implicitDefEqProofs only [hc, go_sem, simprocAttr, h4])
    · rfl
  · rw [call_172]
    simp -implicitDefEqProofs only [go_sem, simprocAttr, Tryz.f172, BH, mkO, null, exC, exR_len, c1, c2, c3, c4, c24, ho, hu, hi, g1, hw, hw2, h2, ob_keep, List.cons_append, List.nil_append]
    repeat' ((first | apply split_cond | apply split_yes | apply split_no) <;> intro hc <;> simp -implicitDefEqProofs only [hc, go_sem, simprocAttr, BH, mkO, null, exC, exR_len, c1, c2, c3, c4, c24, ho, hu, hi, g1, hw, hw2, h2, ob_keep, List.cons_append, List.nil_append])
    rw [lk _ _ ?_]
    · simp -implicitDefEqProofs only [go_sem, simprocAttr, h4]
      repeat' ((first | apply split_cond | apply split_yes | apply split_no) <;> intro hc <;> simp -implicitDefEqProofs only [hc, go_sem, simprocAttr, h4])
    · rfl
theorem exL_len {N : Nat} {k op n : Int} {l : List Ex} (h : exN (mkO k op n l) ≤ N) : l.length ≤ N := by
  have := exNs_len l
  simp only [mkO, exN] at h; omega
theorem writes_all : ∀ e : Ex, exN e ≤ 1000000 → txE e = 0 → Writes e := by
  refine Ex.ind fun e ih => ?_
  intro hN ht
  obtain ⟨hL, hs⟩ := tx_split e ht
  cases hs with
  | val v h hv => subst h; exact w_val v hv
  | par n h h0 h1 => subst h; exact w_par n h0 h1
  | col s m h h0 h1 h2 => subst h; exact w_col s m
  | opr k op n l h h0 h1 =>
    subst h
    have hl := exL_len hN
    have hL : txL l = 0 := hL
    have key : ∀ l : List Ex, txL l = 0 → ∀ a ∈ l, txE a = 0 := by
      intro l
      induction l with
      | nil => intro _ a ha; simp at ha
      | cons b l ihl =>
        intro h a ha
        obtain ⟨t1, t2⟩ := txL_cons.1 h
        rcases List.mem_cons.1 ha with rfl | ha
        · exact t1
        · exact ihl t2 a ha
    have ihw : ∀ a ∈ l, Writes a := fun a ha => ih a (by simpa [mkO, Ex.args] using ha) (by
      have := exN_mem ha
      simp only [mkO, exN] at hN; omega) (key l hL a ha)
    intro p s hp hlen
    rw [exT_opr l h0] at hlen ⊢
    have hlt : (s ++ (headT k op n ++ 40 :: ((exQ l).drop 1 ++ [41]))).length ≤ 39000000 := by rw [List.length_append]; exact hlen
    have h0' := h0
    rcases h0 with ⟨rfl, hw, hn, hr⟩ | ⟨hk, rfl, rfl⟩
    · cases hh : hasNS op with
      | true =>
        have hb := headN hh hr
        have eh : headT 4 op n = opNameS op ++ 46 :: Lib.itoa n := by unfold headT; rw [if_pos rfl, hh, if_pos rfl]
        rw [eh] at hlt ⊢
        exact w_opN op n hh (by omega) (by omega) l hl ihw p s _ hp hlt rfl
      | false =>
        have eh : headT 4 op n = opNameS op := by unfold headT; rw [if_pos rfl, hh, if_neg (by simp), List.append_nil]
        rw [eh] at hlt ⊢
        exact w_op0 op n hh l hl ihw p s _ hp hlt rfl
    · rcases hk with rfl | rfl
      · exact w_in 5 _ (.inl ⟨rfl, rfl⟩) l hl ihw p s _ hp hlt rfl
      · exact w_in 6 _ (.inr ⟨rfl, rfl⟩) l hl ihw p s _ hp hlt rfl
theorem exT_ne (e : Ex) (h : txE e = 0) : exT e ≠ [] := by
  obtain ⟨hL, hs⟩ := tx_split e h
  cases hs with
  | val v h hv =>
    subst h
    rw [exT_val]
    rcases show_shape hv with ⟨h1, _⟩ | ⟨d, h1, _⟩ | ⟨s, h1⟩ | ⟨d, h1, _⟩
    · exact h1
    all_goals (rw [h1]; simp)
  | par n h h0 h1 => subst h; rw [exT_par]; simp
  | col s m h h0 h1 h2 => subst h; rw [exT_col]; simp
  | opr k op n l h h0 h1 => subst h; rw [exT_opr l h0]; simp
noncomputable def writeS (e : Ex) : List UInt8 × Int :=
  if smallS e = false then ([], 2) else if txE e ≠ 0 then ([], txE e) else if 65536 < (exT e).length then ([], 2) else (exT e, 0)
theorem b_len (s : List UInt8) : R K (.call 154 [.tptr 132 0 0] (BH (.ptr 0 0) s)) = some (I (s.length : Int), BH (.ptr 0 0) s) := by
  rw [call_154]
  simp -implicitDefEqProofs only [go_sem, simprocAttr, Tryz.f154, BH]
  repeat' ((first | apply split_cond | apply split_yes | apply split_no) <;> intro hc <;> simp -implicitDefEqProofs only [hc, go_sem, simprocAttr, BH])
theorem b_text (p : AV) (s : List UInt8) (h : s ≠ []) (hs : s.length ≤ 40000000) : R K (.call 143 [.tptr 132 0 0] (BH p s)) = some (.str s, BH p s) := by
  have h0 : 0 < s.length := by cases s; exact absurd rfl h; simp
  refine R_primH rfl ?_
  show pBString 132 5 [.tptr 132 0 0] (BH p s) = _
  simp only [BH, pBString]
  rw [if_pos ⟨trivial, trivial, by rw [byteRows_length], h0, by omega⟩, bytesOf_rows]
theorem c_exprText (e : Ex) (hN : exN e ≤ 1000000) (hL : exL 1000000 e) (hT : txE e = 0 → smallS e = true → (exT e).length ≤ 39000000) : R K (.call 111 [.agg (exC e), .bool false] []) = some (.tup [.str (writeS e).1, I (writeS e).2], []) := by
  have hs := c_small e hN
  have ht := c_textOf e hN hL
  unfold writeS
  cases hq : smallS e with
  | false =>
    rw [hq] at hs
    rw [if_pos rfl]
    rw [call_111]
    simp -implicitDefEqProofs only [go_sem, simprocAttr, Tryz.f111, exC_len, exC_take, hs]
    repeat' ((first | apply split_cond | apply split_yes | apply split_no) <;> intro hc <;> simp -implicitDefEqProofs only [hc, go_sem, simprocAttr, exC_len, exC_take, hs])
  | true =>
    rw [hq] at hs
    rw [if_neg (by simp)]
    by_cases h0 : txE e = 0
    · have hT := hT h0 hq
      have hw := writes_all e hN h0 .nilp [] (.inl rfl) (by simp; omega)
      rw [List.nil_append] at hw
      have hne := exT_ne e h0
      rw [if_neg (by simpa using h0)]
      rw [h0] at ht
      generalize exT e = t at hT hw hne ⊢
      have hw2 : R K (.call 172 [.tptr 132 0 0, .agg (exC e)] [.cells [.nilp, .nils]]) = some (.tup [], BH (.ptr 0 0) t) := by
        rw [call_172] at hw ⊢
        exact hw
      have hlen := b_len t
      have htx := b_text (.ptr 0 0) t hne (by omega)
      simp only [BH] at hw2 hlen htx
      by_cases hl : 65536 < t.length
      · have d : decide ((65536 : Int) < (t.length : Int)) = true := decide_eq_true (by omega)
        rw [if_pos hl]
        rw [call_111]
        simp -implicitDefEqProofs only [go_sem, simprocAttr, Tryz.f111, exC_len, exC_take, hs, ht, bne, beq_self_eq_true, hw2, hlen, d]
        repeat' ((first | apply split_cond | apply split_yes | apply split_no) <;> intro hc <;> simp -implicitDefEqProofs only [hc, go_sem, simprocAttr, exC_len, exC_take, hs, ht, bne, beq_self_eq_true, hw2, hlen, d])
      · have d : decide ((65536 : Int) < (t.length : Int)) = false := decide_eq_false (by omega)
        rw [if_neg hl]
        rw [call_111]
        simp -implicitDefEqProofs only [go_sem, simprocAttr, Tryz.f111, exC_len, exC_take, hs, ht, bne, beq_self_eq_true, hw2, hlen, htx, d]
        repeat' ((first | apply split_cond | apply split_yes | apply split_no) <;> intro hc <;> simp -implicitDefEqProofs only [hc, go_sem, simprocAttr, exC_len, exC_take, hs, ht, bne, beq_self_eq_true, hw2, hlen, htx, d])
    · have b0 : (txE e == 0) = false := by simpa using h0
      rw [if_pos h0]
      rw [call_111]
      simp -implicitDefEqProofs only [go_sem, simprocAttr, Tryz.f111, exC_len, exC_take, hs, ht, bne, b0]
      repeat' ((first | apply split_cond | apply split_yes | apply split_no) <;> intro hc <;> simp -implicitDefEqProofs only [hc, go_sem, simprocAttr, exC_len, exC_take, hs, ht, bne, b0])
theorem c_ExprText (e : Ex) (hN : exN e ≤ 1000000) (hL : exL 1000000 e) (hT : txE e = 0 → smallS e = true → (exT e).length ≤ 39000000) : R K (.call 47 [.agg (exC e)] []) = some (.tup [.str (writeS e).1, I (writeS e).2], []) := by
  have h := c_exprText e hN hL hT
  rw [call_47]
  simp -implicitDefEqProofs only [go_sem, simprocAttr, Tryz.f47, exC_len, exC_take, h]
  repeat' ((first | apply split_cond | apply split_yes | apply split_no) <;> intro hc <;> simp -implicitDefEqProofs only [hc, go_sem, simprocAttr, exC_len, exC_take, h])
def nameB : List UInt8 := [97, 98, 99, 100, 101, 102, 103, 104, 105, 106, 107, 108, 109, 110, 111, 112, 113, 114, 115, 116, 117, 118, 119, 120, 121, 122, 48, 49, 50, 51, 52, 53, 54, 55, 56, 57, 95, 46]
theorem nameB_in (c : UInt8) : nameB.contains c = isN c := by
  have h : ∀ n : Fin 256, nameB.contains (UInt8.ofNat n.val) = isN (UInt8.ofNat n.val) := by decide +kernel
  have := h ⟨c.toNat, c.toNat_lt⟩
  simpa using this
theorem dropW_nil {p : UInt8 → Bool} : ∀ {l : List UInt8}, l.dropWhile p = [] ↔ l.all p = true
  | [] => by simp
  | c :: l => by
    rw [List.dropWhile_cons, List.all_cons]
    cases h : p c with
    | true => simp only [if_true, Bool.true_and]; exact dropW_nil
    | false => simp
theorem dropW_head {p : UInt8 → Bool} : ∀ {l : List UInt8} {c : UInt8} {r : List UInt8}, l.dropWhile p = c :: r → p c = false
  | [], _, _, h => by simp at h
  | b :: l, c, r, h => by
    rw [List.dropWhile_cons] at h
    cases hb : p b with
    | true => rw [hb, if_pos rfl] at h; exact dropW_head h
    | false =>
      rw [hb, if_neg (by simp)] at h
      rw [(List.cons.inj h).1] at hb; exact hb
theorem trim_nil (s cs : List UInt8) : Lib.trimS s cs = [] ↔ s.all (cs.contains ·) = true := by
  unfold Lib.trimS Lib.trimLeftS Lib.trimRightS
  rw [dropW_nil]
  cases hd : s.reverse.dropWhile (cs.contains ·) with
  | nil =>
    have := dropW_nil.1 hd
    rw [List.all_reverse] at this
    simp only [List.reverse_nil, List.all_nil, true_iff]
    exact this
  | cons c r =>
    have hc := dropW_head hd
    have hm : c ∈ s := by
      have : c ∈ s.reverse.dropWhile (cs.contains ·) := by rw [hd]; simp
      exact List.mem_reverse.1 ((List.dropWhile_sublist _).mem this)
    constructor
    · intro h
      rw [List.all_reverse] at h
      have := List.all_eq_true.1 h c (by simp)
      rw [hc] at this; simp at this
    · intro h
      have := List.all_eq_true.1 h c hm
      rw [hc] at this; simp at this
end Go.Ab
