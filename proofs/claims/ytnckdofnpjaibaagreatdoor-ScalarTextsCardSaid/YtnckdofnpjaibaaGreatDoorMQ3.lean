/- What is proved: contracts of the program's and the reference's functions in the evaluator, and plain laws on them. Conditions: as each states. -/
import Derived.Test.YtnckdofnpjaibaaGreatDoorMQ2
set_option linter.unusedSimpArgs false
set_option linter.unusedVariables false
set_option maxRecDepth 100000
namespace Go.Ab
open Go Go.Proofs
theorem r_spelled (s : List UInt8) (hs : s.length ≤ 10000000) : R K (.call 221 [.str s] []) = some (.bool (s.all isN), []) := by
  have hp : R K (.call 272 [.str s, .str nameB] []) = some (.str (Lib.trimS s nameB), []) := R_prim (by
    show pTrim [.str s, .str nameB] = _
    simp only [pTrim]
    have h1 : decide (s.length ≤ 9223372036854775807) = true := decide_eq_true (by omega)
    have h2 : (decide (nameB.length < 4294967281) && ascii nameB) = true := by decide
    rw [if_pos (by rw [h1, h2]; rfl)])
  have he : (Lib.trimS s nameB == []) = s.all isN := by
    have h := trim_nil s nameB
    have e : (fun c => nameB.contains c) = isN := funext nameB_in
    rw [e] at h
    rw [Bool.eq_iff_iff, beq_iff_eq]; exact h
  unfold nameB at hp he
  rw [call_221]
  simp -implicitDefEqProofs only [go_sem, simprocAttr, Tryz.f221, hp, he]
  repeat' ((first | apply split_cond | apply split_yes | apply split_no) <;> intro hc <;> simp -implicitDefEqProofs only [hc, go_sem, simprocAttr, hp, he])
def leaf0 (e : Ex) : Int × Int :=
  if e.k = 1 then (if faultS e.v = 0 then (e.v.k, 0) else (0, faultS e.v))
  else if e.k = 2 then (if within e.n 0 59 = true then (0, 0) else (0, 1))
  else if e.k = 3 then (if e.nm = [] ∨ e.nm.all isN = false ∨ e.src.all isN = false then (0, 5) else (0, 0))
  else if e.k = 4 then (if rightNS e.op e.n = true then (0, 0) else (0, 1))
  else (0, 0)
theorem r_found0 (s m : List UInt8) : R K (.call 169 [.rows [], .str s, .str m] []) = some (I (-1), []) := r_found [] (by simp) s m
theorem r_leaf0 (e : Ex) (h1 : e.src.length ≤ 1000000) (h2 : e.nm.length ≤ 1000000) : R K (.call 166 [.agg (exC e), .rows [], .rows [], .bool false] []) = some (.tup [I (leaf0 e).1, I (leaf0 e).2], []) := by
  by_cases q : e.k = 1
  · have hf := r_AnyFault e.v.k e.v.n e.v.s
    rw [Val.eta] at hf
    by_cases h0 : faultS e.v = 0
    · have e1 : leaf0 e = (e.v.k, 0) := by unfold leaf0; rw [if_pos q, if_pos h0]
      rw [h0] at hf
      rw [e1]
      rw [call_166]
      simp -implicitDefEqProofs only [go_sem, simprocAttr, Tryz.f166, exC_eq, q, hf, bne]
      repeat' ((first | apply split_cond | apply split_yes | apply split_no) <;> intro hc <;> simp -implicitDefEqProofs only [hc, go_sem, simprocAttr, exC_eq, q, hf, bne])
    · have e1 : leaf0 e = (0, faultS e.v) := by unfold leaf0; rw [if_pos q, if_neg h0]
      have b0 : (faultS e.v == 0) = false := by simpa using h0
      rw [e1]
      rw [call_166]
      simp -implicitDefEqProofs only [go_sem, simprocAttr, Tryz.f166, exC_eq, q, hf, bne, b0]
      repeat' ((first | apply split_cond | apply split_yes | apply split_no) <;> intro hc <;> simp -implicitDefEqProofs only [hc, go_sem, simprocAttr, exC_eq, q, hf, bne, b0])
  have b1 : (e.k == 1) = false := by simpa using q
  by_cases q2 : e.k = 2
  · cases h : within e.n 0 59 with
    | true =>
      have e1 : leaf0 e = (0, 0) := by unfold leaf0; rw [if_neg q, if_pos q2, if_pos h]
      rw [e1]
      rw [call_166]
      simp -implicitDefEqProofs only [go_sem, simprocAttr, Tryz.f166, exC_eq, q2, r_within, h]
      repeat' ((first | apply split_cond | apply split_yes | apply split_no) <;> intro hc <;> simp -implicitDefEqProofs only [hc, go_sem, simprocAttr, exC_eq, q2, r_within, h])
    | false =>
      have e1 : leaf0 e = (0, 1) := by unfold leaf0; rw [if_neg q, if_pos q2, if_neg (by rw [h]; simp)]
      rw [e1]
      rw [call_166]
      simp -implicitDefEqProofs only [go_sem, simprocAttr, Tryz.f166, exC_eq, q2, r_within, h]
      repeat' ((first | apply split_cond | apply split_yes | apply split_no) <;> intro hc <;> simp -implicitDefEqProofs only [hc, go_sem, simprocAttr, exC_eq, q2, r_within, h])
  have b2 : (e.k == 2) = false := by simpa using q2
  by_cases q3 : e.k = 3
  · have hf := r_found0 e.src e.nm
    have hsp := r_spelled (e.src ++ e.nm) (by rw [List.length_append]; omega)
    have g1 : (e.src.length + e.nm.length ≤ strMax) = True := eq_true (by unfold strMax; omega)
    by_cases h : e.nm = []
    · have e1 : leaf0 e = (0, 5) := by unfold leaf0; rw [if_neg q, if_neg q2, if_pos q3, if_pos (.inl h)]
      have b0 : (e.nm == []) = true := by simpa using h
      rw [e1]
      rw [call_166]
      simp -implicitDefEqProofs only [go_sem, simprocAttr, Tryz.f166, exC_eq, q3, hf, b0]
      repeat' ((first | apply split_cond | apply split_yes | apply split_no) <;> intro hc <;> simp -implicitDefEqProofs only [hc, go_sem, simprocAttr, exC_eq, q3, hf, b0])
    · have b0 : (e.nm == []) = false := by simpa using h
      rw [List.all_append] at hsp
      cases hs : e.src.all isN && e.nm.all isN with
      | true =>
        rw [hs] at hsp
        rw [Bool.and_eq_true] at hs
        have e1 : leaf0 e = (0, 0) := by unfold leaf0; rw [if_neg q, if_neg q2, if_pos q3, if_neg (by rw [hs.1, hs.2]; simp [h])]
        rw [e1]
        rw [call_166]
        simp -implicitDefEqProofs only [go_sem, simprocAttr, Tryz.f166, exC_eq, q3, hf, b0, g1, hsp]
        repeat' ((first | apply split_cond | apply split_yes | apply split_no) <;> intro hc <;> simp -implicitDefEqProofs only [hc, go_sem, simprocAttr, exC_eq, q3, hf, b0, g1, hsp])
      | false =>
        rw [hs] at hsp
        have e1 : leaf0 e = (0, 5) := by
          unfold leaf0
          rw [if_neg q, if_neg q2, if_pos q3, if_pos]
          rw [Bool.and_eq_false_iff] at hs
          rcases hs with hs | hs
          · exact .inr (.inr hs)
          · exact .inr (.inl hs)
        rw [e1]
        rw [call_166]
        simp -implicitDefEqProofs only [go_sem, simprocAttr, Tryz.f166, exC_eq, q3, hf, b0, g1, hsp]
        repeat' ((first | apply split_cond | apply split_yes | apply split_no) <;> intro hc <;> simp -implicitDefEqProofs only [hc, go_sem, simprocAttr, exC_eq, q3, hf, b0, g1, hsp])
  have b3 : (e.k == 3) = false := by simpa using q3
  by_cases q4 : e.k = 4
  · have e1 : leaf0 e = if rightNS e.op e.n = true then (0, 0) else (0, 1) := by unfold leaf0; rw [if_neg q, if_neg q2, if_neg q3, if_pos q4]
    rw [e1]
    rw [call_166]
    simp -implicitDefEqProofs only [go_sem, simprocAttr, Tryz.f166, exC_eq, q4, r_within]
    repeat' ((first | apply split_cond | apply split_yes | apply split_no) <;> intro hc <;> simp -implicitDefEqProofs only [hc, go_sem, simprocAttr, exC_eq, q4, r_within])
    all_goals (simp only [beq_iff_eq, beq_eq_false_iff_ne, Bool.not_eq_true', Bool.not_eq_false'] at *; simp_all [rightNS])
  have b4 : (e.k == 4) = false := by simpa using q4
  have e1 : leaf0 e = (0, 0) := by unfold leaf0; rw [if_neg q, if_neg q2, if_neg q3, if_neg q4]
  rw [e1]
  rw [call_166]
  simp -implicitDefEqProofs only [go_sem, simprocAttr, Tryz.f166, exC_eq, b1, b2, b3, b4]
  repeat' ((first | apply split_cond | apply split_yes | apply split_no) <;> intro hc <;> simp -implicitDefEqProofs only [hc, go_sem, simprocAttr, exC_eq, b1, b2, b3, b4])
theorem own_leaf (e : Ex) : ownE e = if exF e ≠ 0 then exF e else (leaf0 e).2 := by
  unfold ownE leaf0 formOfS
  by_cases h : exF e = 0
  · simp only [h, ne_eq, not_true, if_false]
    by_cases q1 : e.k = 1
    · have : ¬ ((1 : Int) = 2 ∧ within e.n 0 59 = false ∨ (1 : Int) = 4 ∧ rightNS e.op e.n = false) := by simp
      by_cases h0 : faultS e.v = 0
      · simp [q1, h0]
      · simp [q1, h0]
    by_cases q2 : e.k = 2
    · cases hw : within e.n 0 59 <;> simp [q2, hw]
    by_cases q3 : e.k = 3
    · simp only [q3]
      simp
      split <;> rfl
    by_cases q4 : e.k = 4
    · cases hw : rightNS e.op e.n <;> simp [q4, hw]
    simp [q1, q2, q3, q4]
  · simp [h]
def kd0 (e : Ex) : Int := if txE e = 0 then (leaf0 e).1 else 0
theorem l_scalar0 (args : List Ex) (hlen : args.length ≤ 99000) (ih : ∀ a ∈ args, R K (.call 108 [.agg (exC a), .rows [], .rows [], .bool false] []) = some (.tup [I (kd0 a), I (txE a)], [])) (H0 : List AV) (hH : locsL H0 = []) (ks : List It) : ∀ (m j : Nat) (i : Int) (acc : List Int) (Bo : Code), Loop Tryz.f108 0 Bo → i = (j : Int) → args.length = j + m → acc.length = j →
   ∃ acc' : List Int, RL K (.run 108 0 (.code Bo :: .lp Bo (some ([1, 2, 3, 4, 10, 20, 21, 22], [])) 2 :: .blk 0 2 :: ks) [(1, .rows []), (2, .rows []), (3, .bool false), (4, .ptr 0 0), (10, .own 1 acc.length), (20, .rows (exR args)), (21, I (args.length : Int)), (22, I i)] [.cells H0, .rows 1 (acc.map fun x => [I x]) false]) =
   if txL (args.drop j) = 0 then R K (.run 108 0 ks [(1, .rows []), (2, .rows []), (3, .bool false), (4, .ptr 0 0), (10, .own 1 acc'.length)] [.cells H0, .rows 1 (acc'.map fun x => [I x]) false])
   else some (.tup [I 0, I (txL (args.drop j))], [])
  | 0, j, i, acc, Bo, hB, hi, hj, ha => by
    subst hi
    have h1 : decide ((j : Int) < (args.length : Int)) = false := decide_eq_false (by omega)
    refine ⟨acc, ?_⟩
    rw [List.drop_of_length_le (by omega)]
    simp only [txL]
    rw [if_pos trivial]
    unfold Loop at hB
    simp -implicitDefEqProofs only [go_sem, simprocAttr, Tryz.f108, loopOf] at hB
    subst hB
    rw [RL_eq]
    simp -implicitDefEqProofs only [go_sem, simprocAttr, h1, hH]
    repeat' ((first | apply split_cond | apply split_yes | apply split_no) <;> intro hc <;> simp -implicitDefEqProofs only [hc, go_sem, simprocAttr, h1, hH])
  | m + 1, j, i, acc, Bo, hB, hi, hj, ha => by
    subst hi
    have hB' := hB
    have h1 : decide ((j : Int) < (args.length : Int)) = true := decide_eq_true (by omega)
    have h7 := next_id (i := j) (n := args.length) (by omega) (by omega)
    obtain ⟨x, hx⟩ := some_at (l := args) (i := j) (by omega)
    have hg := ex_get hx
    have r := ih x (List.mem_of_getElem? hx)
    have hr := room_small (acc.length + 1) (by omega)
    rw [drop_ex hx, txL]
    by_cases hf : txE x = 0
    · obtain ⟨acc', ih2⟩ := l_scalar0 args hlen ih H0 hH ks m (j + 1) _ (acc ++ [kd0 x]) Bo hB' rfl (by omega) (by simp; omega)
      refine ⟨acc', ?_⟩
      rw [hf] at r
      simp only [hf, ne_eq, not_true, if_false]
      simp only [← ints_snoc, List.length_append, List.length_cons, List.length_nil, Nat.zero_add] at ih2
      unfold Loop at hB
      simp -implicitDefEqProofs only [go_sem, simprocAttr, Tryz.f108, loopOf] at hB
      subst hB
      rw [RL_eq]
      simp -implicitDefEqProofs only [go_sem, simprocAttr, h1, hH, h7, hg, exC_len, exC_take, r, bne, beq_self_eq_true, hr]
      repeat' ((first | apply split_cond | apply split_yes | apply split_no) <;> intro hc <;> simp -implicitDefEqProofs only [hc, go_sem, simprocAttr, h1, hH, h7, hg, exC_len, exC_take, r, bne, beq_self_eq_true, hr])
      rw [ih2]
    · have b0 : (txE x == 0) = false := by simpa using hf
      refine ⟨[], ?_⟩
      simp only [ne_eq, hf, not_false_eq_true, if_true, if_false]
      unfold Loop at hB
      simp -implicitDefEqProofs only [go_sem, simprocAttr, Tryz.f108, loopOf] at hB
      subst hB
      rw [RL_eq]
      simp -implicitDefEqProofs only [go_sem, simprocAttr, h1, hH, h7, hg, exC_len, exC_take, r, bne, b0]
      repeat' ((first | apply split_cond | apply split_yes | apply split_no) <;> intro hc <;> simp -implicitDefEqProofs only [hc, go_sem, simprocAttr, h1, hH, h7, hg, exC_len, exC_take, r, bne, b0])
theorem r_scalar0 : ∀ e : Ex, exN e ≤ 99000 → exL 1000000 e → R K (.call 108 [.agg (exC e), .rows [], .rows [], .bool false] []) = some (.tup [I (kd0 e), I (txE e)], []) := by
  refine Ex.ind fun e ih => ?_
  intro hN hL
  have hL' := exL_at hL
  have hN2 : exNs e.args ≤ 99000 := by cases e; simp only [exN, Ex.args] at hN ⊢; omega
  have hl := exNs_len e.args
  have ih : ∀ a ∈ e.args, R K (.call 108 [.agg (exC a), .rows [], .rows [], .bool false] []) = some (.tup [I (kd0 a), I (txE a)], []) := fun a ha => ih a ha (by have := exN_mem ha; omega) (exL_mem hL'.2.2 ha)
  have lk := fun ks B hB => l_scalar0 e.args (by omega) ih (exC e) (exC_locs e) ks e.args.length 0 0 [] B hB rfl (by omega) rfl
  simp only [List.drop_zero, List.length_nil, List.map_nil, List.nil_append] at lk
  have hfm := r_scalarForm e (by omega)
  have hlf := r_leaf0 e hL'.1 hL'.2.1
  have etx : txE e = if txL e.args ≠ 0 then txL e.args else ownE e := by cases e; rfl
  have eo := own_leaf e
  simp only [exC_eq] at lk hfm hlf
  rw [call_108]
  simp -implicitDefEqProofs only [go_sem, simprocAttr, Tryz.f108, exC_eq, exR_len]
  repeat' ((first | apply split_cond | apply split_yes | apply split_no) <;> intro hc <;> simp -implicitDefEqProofs only [hc, go_sem, simprocAttr, exC_eq, exR_len])
  obtain ⟨acc', lk⟩ := lk _ _ rfl
  rw [lk]
  by_cases hq : txL e.args = 0
  · rw [if_pos hq]
    rw [if_neg (by simpa using hq)] at etx
    by_cases h1 : exF e = 0
    · rw [if_neg (by simpa using h1)] at eo
      rw [h1] at hfm
      by_cases h2 : (leaf0 e).2 = 0
      · have ek : kd0 e = (leaf0 e).1 := if_pos (by rw [etx, eo]; exact h2)
        rw [ek, etx, eo, h2]
        rw [h2] at hlf
        simp -implicitDefEqProofs only [go_sem, simprocAttr, hfm, bne, beq_self_eq_true, hlf]
        repeat' ((first | apply split_cond | apply split_yes | apply split_no) <;> intro hc <;> simp -implicitDefEqProofs only [hc, go_sem, simprocAttr, hfm, bne, beq_self_eq_true, hlf])
      · have b2 : ((leaf0 e).2 == 0) = false := by simpa using h2
        have ek : kd0 e = (leaf0 e).1 := by
          unfold kd0
          rw [if_neg (by rw [etx, eo]; exact h2)]
          unfold leaf0 at h2 ⊢
          repeat' (first | rfl | split at h2 | (simp at h2; done) | split)
          all_goals simp_all
        rw [ek, etx, eo]
        simp -implicitDefEqProofs only [go_sem, simprocAttr, hfm, bne, beq_self_eq_true, hlf, b2]
        repeat' ((first | apply split_cond | apply split_yes | apply split_no) <;> intro hc <;> simp -implicitDefEqProofs only [hc, go_sem, simprocAttr, hfm, bne, beq_self_eq_true, hlf, b2])
    · have b1 : (exF e == 0) = false := by simpa using h1
      rw [if_pos h1] at eo
      have ek : kd0 e = 0 := if_neg (by rw [etx, eo]; exact h1)
      rw [ek, etx, eo]
      simp -implicitDefEqProofs only [go_sem, simprocAttr, hfm, bne, b1]
      repeat' ((first | apply split_cond | apply split_yes | apply split_no) <;> intro hc <;> simp -implicitDefEqProofs only [hc, go_sem, simprocAttr, hfm, bne, b1])
  · rw [if_neg hq]
    rw [if_pos hq] at etx
    have ek : kd0 e = 0 := if_neg (by rw [etx]; exact hq)
    rw [ek, etx]
abbrev SL (l : List (List UInt8)) : List (List AV) := l.map fun s => [AV.str s]
theorem strsOf_SL : ∀ l : List (List UInt8), strsOf (SL l) = some l
  | [] => rfl
  | s :: r => by
    have := strsOf_SL r
    simp only [SL, List.map_cons, strsOf] at this ⊢
    rw [this]
theorem SL_snoc (l : List (List UInt8)) (s : List UInt8) : SL l ++ [[.str s]] = SL (l ++ [s]) := by simp [SL]
theorem p_Join (l : List (List UInt8)) (sep : List UInt8) (h1 : l.length ≤ 40000000) (h2 : (Lib.join l sep).length ≤ 40000000) : R K (.call 173 [.rows (SL l), .str sep] []) = some (.str (Lib.join l sep), []) := R_prim (by
  show pJoin [.rows (SL l), .str sep] = _
  simp only [pJoin]
  rw [strsOf_SL]
  simp only
  rw [if_pos (by simp only [Bool.and_eq_true, decide_eq_true_eq]; omega)])
theorem r_opNames : R K (.call 174 [] []) = some (.rows (SL ([] :: opNames)), []) := by
  rw [call_174]
  simp -implicitDefEqProofs only [go_sem, simprocAttr, Tryz.f174]
  repeat' ((first | apply split_cond | apply split_yes | apply split_no) <;> intro hc <;> simp -implicitDefEqProofs only [hc, go_sem, simprocAttr])
  all_goals rfl
theorem join_exT : ∀ l : List Ex, Lib.join (l.map exT) [44] = (exQ l).drop 1
  | [] => rfl
  | a :: r => by
    have key : ∀ r : List Ex, Lib.joinTail [44] (r.map exT) = exQ r := by
      intro r
      induction r with
      | nil => rfl
      | cons b r ih => rw [List.map_cons, exQ_cons, ← ih]; simp [Lib.joinTail]
    rw [List.map_cons, Lib.join_cons, key, exQ_cons, List.drop_succ_cons, List.drop_zero]
theorem exQ_mem {a : Ex} : ∀ {l : List Ex}, a ∈ l → (exT a).length + 1 ≤ (exQ l).length
  | b :: l, h => by
    rw [exQ_cons, List.length_cons, List.length_append]
    rcases List.mem_cons.1 h with rfl | h
    · omega
    · have := exQ_mem h; omega
theorem l_scText (args : List Ex) (hlen : args.length ≤ 99000) (ih : ∀ a ∈ args, R K (.call 113 [.agg (exC a)] []) = some (.str (exT a), [])) (H0 : List AV) (hH : locsL H0 = []) (ks : List It) : ∀ (m j : Nat) (i : Int) (acc acc' : List (List UInt8)) (Bo : Code), Loop Tryz.f113 0 Bo → i = (j : Int) → args.length = j + m → acc.length = j → acc' = acc ++ (args.drop j).map exT →
   RL K (.run 113 0 (.code Bo :: .lp Bo (some ([1, 3, 9, 10, 11], [])) 2 :: .blk 0 2 :: ks) [(1, .ptr 0 0), (3, .own 1 acc.length), (9, .rows (exR args)), (10, I (args.length : Int)), (11, I i)] [.cells H0, .rows 1 (SL acc) false]) =
   R K (.run 113 0 ks [(1, .ptr 0 0), (3, .own 1 acc'.length)] [.cells H0, .rows 1 (SL acc') false])
  | 0, j, i, acc, acc', Bo, hB, hi, hj, ha, he => by
    subst hi
    have h1 : decide ((j : Int) < (args.length : Int)) = false := decide_eq_false (by omega)
    rw [List.drop_of_length_le (by omega), List.map_nil, List.append_nil] at he
    subst he
    unfold Loop at hB
    simp -implicitDefEqProofs only [go_sem, simprocAttr, Tryz.f113, loopOf] at hB
    subst hB
    rw [RL_eq]
    simp -implicitDefEqProofs only [go_sem, simprocAttr, h1, hH]
    repeat' ((first | apply split_cond | apply split_yes | apply split_no) <;> intro hc <;> simp -implicitDefEqProofs only [hc, go_sem, simprocAttr, h1, hH])
  | m + 1, j, i, acc, acc', Bo, hB, hi, hj, ha, he => by
    subst hi
    have hB' := hB
    have h1 : decide ((j : Int) < (args.length : Int)) = true := decide_eq_true (by omega)
    have h7 := next_id (i := j) (n := args.length) (by omega) (by omega)
    obtain ⟨x, hx⟩ := some_at (l := args) (i := j) (by omega)
    have hg := ex_get hx
    have r := ih x (List.mem_of_getElem? hx)
    have hr := room_small (acc.length + 1) (by omega)
    have hsn := SL_snoc acc (exT x)
    obtain ⟨acc1, h1e⟩ : ∃ acc1, acc1 = acc ++ [exT x] := ⟨_, rfl⟩
    rw [← h1e] at hsn
    have hl1 : acc1.length = acc.length + 1 := by rw [h1e]; simp
    rw [drop_ex hx, List.map_cons] at he
    have ih2 := l_scText args hlen ih H0 hH ks m (j + 1) _ acc1 acc' Bo hB' rfl (by omega) (by omega) (by rw [he, h1e]; simp)
    rw [hl1] at ih2
    simp only [SL] at hsn ih2 ⊢
    unfold Loop at hB
    simp -implicitDefEqProofs only [go_sem, simprocAttr, Tryz.f113, loopOf] at hB
    subst hB
    rw [RL_eq]
    simp -implicitDefEqProofs only [go_sem, simprocAttr, h1, hH, h7, hg, exC_len, exC_take, r, hr, hsn, List.length_map]
    repeat' ((first | apply split_cond | apply split_yes | apply split_no) <;> intro hc <;> simp -implicitDefEqProofs only [hc, go_sem, simprocAttr, h1, hH, h7, hg, exC_len, exC_take, r, hr, hsn, List.length_map])
    rw [ih2]
theorem tx_mem : ∀ {l : List Ex}, txL l = 0 → ∀ a ∈ l, txE a = 0
  | [], _, a, ha => by simp at ha
  | b :: l, h, a, ha => by
    obtain ⟨t1, t2⟩ := txL_cons.1 h
    rcases List.mem_cons.1 ha with rfl | ha
    · exact t1
    · exact tx_mem t2 a ha
theorem str_one : (1 ≤ strMax) = True := eq_true (by decide)
theorem str_two : (1 + 1 ≤ strMax) = True := eq_true (by decide)
theorem str_two' : (2 ≤ strMax) = True := eq_true (by decide)
theorem join_none : R K (.call 173 [.rows [], .str [44]] []) = some (.str [], []) := by
  have hj := p_Join [] [44] (by simp) (by simp [Lib.join])
  have ej : Lib.join [] [44] = [] := rfl
  rw [ej] at hj
  exact hj
theorem r_tval (v : Val) : R K (.call 113 [.agg (exC (mkV v))] []) = some (.str (showS v), []) := by
  have hsh : R K (.call 14 [V v.k v.n v.s] []) = some (.str (showS v), []) := r_Shown v.k v.n v.s
  have hj := join_none
  have lk := fun ks B hB => l_scText [] (by simp) (fun a ha => by simp at ha) (exC (mkV v)) (exC_locs _) ks 0 0 0 [] [] B hB rfl rfl rfl rfl
  simp only [mkV, mkP, mkC, null, exC, exR, List.length_nil, SL, List.map_nil, Int.natCast_zero] at lk
  rw [call_113]
  simp -implicitDefEqProofs only [go_sem, simprocAttr, Tryz.f113, mkV, mkP, mkC, null, exC, exR]
  repeat' ((first | apply split_cond | apply split_yes | apply split_no) <;> intro hc <;> simp -implicitDefEqProofs only [hc, go_sem, simprocAttr, mkV, mkP, mkC, null, exC, exR])
  rw [lk _ _ ?_]
  · simp -implicitDefEqProofs only [go_sem, simprocAttr, hj, str_one, str_two, str_two', List.nil_append, List.cons_append, List.length_cons, List.length_nil, hsh]
    repeat' ((first | apply split_cond | apply split_yes | apply split_no) <;> intro hc <;> simp -implicitDefEqProofs only [hc, go_sem, simprocAttr, hj, str_one, str_two, str_two', List.nil_append, List.cons_append, List.length_cons, List.length_nil, hsh])
  · rfl
theorem r_tpar (n : Int) (h0 : 0 ≤ n) (h1 : n ≤ 59) : R K (.call 113 [.agg (exC (mkP n))] []) = some (.str (63 :: Lib.itoa n), []) := by
  have hit := Lib.itoa_length_le n (by omega) (by omega)
  have hi := p_Itoa n (by omega) (by omega)
  have g1 : (1 + (Lib.itoa n).length ≤ strMax) = True := eq_true (by unfold strMax; omega)
  have c1 : ((2 : Int) == 1) = false := rfl
  have c2 : ((2 : Int) == 2) = true := rfl
  have hj := join_none
  have lk := fun ks B hB => l_scText [] (by simp) (fun a ha => by simp at ha) (exC (mkP n)) (exC_locs _) ks 0 0 0 [] [] B hB rfl rfl rfl rfl
  simp only [mkV, mkP, mkC, null, exC, exR, List.length_nil, SL, List.map_nil, Int.natCast_zero] at lk
  rw [call_113]
  simp -implicitDefEqProofs only [go_sem, simprocAttr, Tryz.f113, mkV, mkP, mkC, null, exC, exR]
  repeat' ((first | apply split_cond | apply split_yes | apply split_no) <;> intro hc <;> simp -implicitDefEqProofs only [hc, go_sem, simprocAttr, mkV, mkP, mkC, null, exC, exR])
  rw [lk _ _ ?_]
  · simp -implicitDefEqProofs only [go_sem, simprocAttr, hj, str_one, str_two, str_two', List.nil_append, List.cons_append, List.length_cons, List.length_nil, hi, g1, c1, c2]
    repeat' ((first | apply split_cond | apply split_yes | apply split_no) <;> intro hc <;> simp -implicitDefEqProofs only [hc, go_sem, simprocAttr, hj, str_one, str_two, str_two', List.nil_append, List.cons_append, List.length_cons, List.length_nil, hi, g1, c1, c2])
  · rfl
theorem r_tcol (a m : List UInt8) (hl : a.length + m.length ≤ 40000000) : R K (.call 113 [.agg (exC (mkC a m))] []) = some (.str (a ++ 58 :: m), []) := by
  have g1 : (a.length + 1 ≤ strMax) = True := eq_true (by unfold strMax; omega)
  have g2 : (a.length + 1 + m.length ≤ strMax) = True := eq_true (by unfold strMax; omega)
  have g3 : (a.length + (m.length + 1) ≤ strMax) = True := eq_true (by unfold strMax; omega)
  have c1 : ((3 : Int) == 1) = false := rfl
  have c2 : ((3 : Int) == 2) = false := rfl
  have c3 : ((3 : Int) == 3) = true := rfl
  have hj := join_none
  have lk := fun ks B hB => l_scText [] (by simp) (fun a ha => by simp at ha) (exC (mkC a m)) (exC_locs _) ks 0 0 0 [] [] B hB rfl rfl rfl rfl
  simp only [mkV, mkP, mkC, null, exC, exR, List.length_nil, SL, List.map_nil, Int.natCast_zero] at lk
  rw [call_113]
  simp -implicitDefEqProofs only [go_sem, simprocAttr, Tryz.f113, mkV, mkP, mkC, null, exC, exR]
  repeat' ((first | apply split_cond | apply split_yes | apply split_no) <;> intro hc <;> simp -implicitDefEqProofs only [hc, go_sem, simprocAttr, mkV, mkP, mkC, null, exC, exR])
  rw [lk _ _ ?_]
  · simp -implicitDefEqProofs only [go_sem, simprocAttr, hj, str_one, str_two, str_two', List.nil_append, List.cons_append, List.length_cons, List.length_nil, g1, g2, g3, c1, c2, c3, List.append_assoc]
    repeat' ((first | apply split_cond | apply split_yes | apply split_no) <;> intro hc <;> simp -implicitDefEqProofs only [hc, go_sem, simprocAttr, hj, str_one, str_two, str_two', List.nil_append, List.cons_append, List.length_cons, List.length_nil, g1, g2, g3, c1, c2, c3, List.append_assoc])
  · rfl
theorem r_tcase  (l : List Ex) (hlen : l.length ≤ 99000) (ih : ∀ a ∈ l, R K (.call 113 [.agg (exC a)] []) = some (.str (exT a), [])) (hT : ((exQ l).drop 1).length ≤ 39000000) : R K (.call 113 [.agg (exC (mkO 5 0 0 l))] []) = some (.str ([99, 97, 115, 101] ++ 40 :: ((exQ l).drop 1 ++ [41])), []) := by
  have c1 : ((5 : Int) == 1) = false := rfl
  have c2 : ((5 : Int) == 2) = false := rfl
  have c3 : ((5 : Int) == 3) = false := rfl
  have c5 : ((5 : Int) == 5) = true := rfl
  have hje := join_exT l
  have hj := p_Join (l.map exT) [44] (by rw [List.length_map]; omega) (by rw [hje]; omega)
  rw [hje] at hj
  simp only [SL] at hj
  have lk := fun ks B hB => l_scText l hlen ih (exC (mkO 5 0 0 l)) (exC_locs _) ks l.length 0 0 [] (l.map exT) B hB rfl (by omega) rfl (by simp)
  simp only [mkO, null, exC, List.length_nil, SL, List.map_nil] at lk
  generalize (exQ l).drop 1 = J at hj hT ⊢
  have j1 : (1 + J.length ≤ strMax) = True := eq_true (by unfold strMax; omega)
  have j2 : (1 + J.length + 1 ≤ strMax) = True := eq_true (by unfold strMax; omega)
  have j3 : (J.length + 1 ≤ strMax) = True := eq_true (by unfold strMax; omega)
  have j4 : (J.length + 1 + 1 ≤ strMax) = True := eq_true (by unfold strMax; omega)
  have j5 : (2 + (J.length + 1 + 1) ≤ strMax) = True := eq_true (by unfold strMax; omega)
  have j6 : (4 + (J.length + 1 + 1) ≤ strMax) = True := eq_true (by unfold strMax; omega)
  rw [call_113]
  simp -implicitDefEqProofs only [go_sem, simprocAttr, Tryz.f113, mkO, null, exC, exR_len]
  repeat' ((first | apply split_cond | apply split_yes | apply split_no) <;> intro hc <;> simp -implicitDefEqProofs only [hc, go_sem, simprocAttr, mkO, null, exC, exR_len])
  rw [lk _ _ ?_]
  · simp -implicitDefEqProofs only [go_sem, simprocAttr, hj, j1, j2, j3, j4, j5, j6, List.nil_append, List.cons_append, List.append_assoc, List.length_cons, List.length_nil, List.length_append, List.length_map, c1, c2, c3, c5]
    repeat' ((first | apply split_cond | apply split_yes | apply split_no) <;> intro hc <;> simp -implicitDefEqProofs only [hc, go_sem, simprocAttr, hj, j1, j2, j3, j4, j5, j6, List.nil_append, List.cons_append, List.append_assoc, List.length_cons, List.length_nil, List.length_append, List.length_map, c1, c2, c3, c5])
  · rfl
theorem r_tin  (l : List Ex) (hlen : l.length ≤ 99000) (ih : ∀ a ∈ l, R K (.call 113 [.agg (exC a)] []) = some (.str (exT a), [])) (hT : ((exQ l).drop 1).length ≤ 39000000) : R K (.call 113 [.agg (exC (mkO 6 0 0 l))] []) = some (.str ([105, 110] ++ 40 :: ((exQ l).drop 1 ++ [41])), []) := by
  have c1 : ((6 : Int) == 1) = false := rfl
  have c2 : ((6 : Int) == 2) = false := rfl
  have c3 : ((6 : Int) == 3) = false := rfl
  have c5 : ((6 : Int) == 5) = false := rfl
  have c6 : ((6 : Int) == 6) = true := rfl
  have hje := join_exT l
  have hj := p_Join (l.map exT) [44] (by rw [List.length_map]; omega) (by rw [hje]; omega)
  rw [hje] at hj
  simp only [SL] at hj
  have lk := fun ks B hB => l_scText l hlen ih (exC (mkO 6 0 0 l)) (exC_locs _) ks l.length 0 0 [] (l.map exT) B hB rfl (by omega) rfl (by simp)
  simp only [mkO, null, exC, List.length_nil, SL, List.map_nil] at lk
  generalize (exQ l).drop 1 = J at hj hT ⊢
  have j1 : (1 + J.length ≤ strMax) = True := eq_true (by unfold strMax; omega)
  have j2 : (1 + J.length + 1 ≤ strMax) = True := eq_true (by unfold strMax; omega)
  have j3 : (J.length + 1 ≤ strMax) = True := eq_true (by unfold strMax; omega)
  have j4 : (J.length + 1 + 1 ≤ strMax) = True := eq_true (by unfold strMax; omega)
  have j5 : (2 + (J.length + 1 + 1) ≤ strMax) = True := eq_true (by unfold strMax; omega)
  have j6 : (4 + (J.length + 1 + 1) ≤ strMax) = True := eq_true (by unfold strMax; omega)
  rw [call_113]
  simp -implicitDefEqProofs only [go_sem, simprocAttr, Tryz.f113, mkO, null, exC, exR_len]
  repeat' ((first | apply split_cond | apply split_yes | apply split_no) <;> intro hc <;> simp -implicitDefEqProofs only [hc, go_sem, simprocAttr, mkO, null, exC, exR_len])
  rw [lk _ _ ?_]
  · simp -implicitDefEqProofs only [go_sem, simprocAttr, hj, j1, j2, j3, j4, j5, j6, List.nil_append, List.cons_append, List.append_assoc, List.length_cons, List.length_nil, List.length_append, List.length_map, c1, c2, c3, c5, c6]
    repeat' ((first | apply split_cond | apply split_yes | apply split_no) <;> intro hc <;> simp -implicitDefEqProofs only [hc, go_sem, simprocAttr, hj, j1, j2, j3, j4, j5, j6, List.nil_append, List.cons_append, List.append_assoc, List.length_cons, List.length_nil, List.length_append, List.length_map, c1, c2, c3, c5, c6])
  · rfl
theorem r_top0 (op n : Int) (hw : within op 1 27 = true) (hh : hasNS op = false) (l : List Ex) (hlen : l.length ≤ 99000) (ih : ∀ a ∈ l, R K (.call 113 [.agg (exC a)] []) = some (.str (exT a), [])) (hT : ((exQ l).drop 1).length ≤ 39000000) : R K (.call 113 [.agg (exC (mkO 4 op n l))] []) = some (.str (opNameS op ++ 40 :: ((exQ l).drop 1 ++ [41])), []) := by
  have c1 : ((4 : Int) == 1) = false := rfl
  have c2 : ((4 : Int) == 2) = false := rfl
  have c3 : ((4 : Int) == 3) = false := rfl
  have c5 : ((4 : Int) == 5) = false := rfl
  have c6 : ((4 : Int) == 6) = false := rfl
  have hb := (wit_iff _ _ _).1 hw
  have hno := r_opNames
  have hsh := name_short op
  have hat : at? (SL ([] :: opNames)) op = some [.str (opNameS op)] := by
    have h := opName_at hw
    unfold at? at h ⊢
    rw [if_pos (by omega)] at h ⊢
    obtain ⟨q, hq⟩ : ∃ q : Nat, op = (q : Int) + 1 := ⟨(op - 1).toNat, by omega⟩
    subst hq
    have e1 : ((q : Int) + 1 - 1).toNat = q := by omega
    have e2 : ((q : Int) + 1).toNat = q + 1 := by omega
    rw [e1] at h
    rw [e2, SL, List.map_cons, List.getElem?_cons_succ]
    exact h
  simp only [SL, List.map_cons] at hno hat
  have d25 : decide ((25 : Int) ≤ op) = hasNS op := by
    unfold hasNS
    rw [Bool.eq_iff_iff, decide_eq_true_eq, wit_iff]; omega
  have hnb : R K (.call 175 [I op] []) = some (.bool (hasNS op), []) := by
    rw [call_175]
    simp -implicitDefEqProofs only [go_sem, simprocAttr, Tryz.f175, d25]
    repeat' ((first | apply split_cond | apply split_yes | apply split_no) <;> intro hc <;> simp -implicitDefEqProofs only [hc, go_sem, simprocAttr, d25])
  rw [hh] at hnb
  have hje := join_exT l
  have hj := p_Join (l.map exT) [44] (by rw [List.length_map]; omega) (by rw [hje]; omega)
  rw [hje] at hj
  simp only [SL] at hj
  have lk := fun ks B hB => l_scText l hlen ih (exC (mkO 4 op n l)) (exC_locs _) ks l.length 0 0 [] (l.map exT) B hB rfl (by omega) rfl (by simp)
  simp only [mkO, null, exC, List.length_nil, SL, List.map_nil] at lk
  generalize (exQ l).drop 1 = J at hj hT ⊢
  have j7 : ((opNameS op).length + (J.length + 1 + 1) ≤ strMax) = True := eq_true (by unfold strMax; omega)
  have j1 : (1 + J.length ≤ strMax) = True := eq_true (by unfold strMax; omega)
  have j2 : (1 + J.length + 1 ≤ strMax) = True := eq_true (by unfold strMax; omega)
  have j3 : (J.length + 1 ≤ strMax) = True := eq_true (by unfold strMax; omega)
  have j4 : (J.length + 1 + 1 ≤ strMax) = True := eq_true (by unfold strMax; omega)
  have j5 : (2 + (J.length + 1 + 1) ≤ strMax) = True := eq_true (by unfold strMax; omega)
  have j6 : (4 + (J.length + 1 + 1) ≤ strMax) = True := eq_true (by unfold strMax; omega)
  rw [call_113]
  simp -implicitDefEqProofs only [go_sem, simprocAttr, Tryz.f113, mkO, null, exC, exR_len]
  repeat' ((first | apply split_cond | apply split_yes | apply split_no) <;> intro hc <;> simp -implicitDefEqProofs only [hc, go_sem, simprocAttr, mkO, null, exC, exR_len])
  rw [lk _ _ ?_]
  · simp -implicitDefEqProofs only [go_sem, simprocAttr, hj, j1, j2, j3, j4, j5, j6, j7, List.nil_append, List.cons_append, List.append_assoc, List.length_cons, List.length_nil, List.length_append, List.length_map, c1, c2, c3, c5, c6, hno, hat, hnb]
    repeat' ((first | apply split_cond | apply split_yes | apply split_no) <;> intro hc <;> simp -implicitDefEqProofs only [hc, go_sem, simprocAttr, hj, j1, j2, j3, j4, j5, j6, j7, List.nil_append, List.cons_append, List.append_assoc, List.length_cons, List.length_nil, List.length_append, List.length_map, c1, c2, c3, c5, c6, hno, hat, hnb])
  · rfl
theorem r_topN (op n : Int) (hw : within op 1 27 = true) (hh : hasNS op = true) (n0 : -9223372036854775808 ≤ n) (n1 : n ≤ 9223372036854775807) (l : List Ex) (hlen : l.length ≤ 99000) (ih : ∀ a ∈ l, R K (.call 113 [.agg (exC a)] []) = some (.str (exT a), [])) (hT : ((exQ l).drop 1).length ≤ 39000000) : R K (.call 113 [.agg (exC (mkO 4 op n l))] []) = some (.str (opNameS op ++ 46 :: Lib.itoa n ++ 40 :: ((exQ l).drop 1 ++ [41])), []) := by
  have c1 : ((4 : Int) == 1) = false := rfl
  have c2 : ((4 : Int) == 2) = false := rfl
  have c3 : ((4 : Int) == 3) = false := rfl
  have c5 : ((4 : Int) == 5) = false := rfl
  have c6 : ((4 : Int) == 6) = false := rfl
  have hb := (wit_iff _ _ _).1 hw
  have hno := r_opNames
  have hsh := name_short op
  have hat : at? (SL ([] :: opNames)) op = some [.str (opNameS op)] := by
    have h := opName_at hw
    unfold at? at h ⊢
    rw [if_pos (by omega)] at h ⊢
    obtain ⟨q, hq⟩ : ∃ q : Nat, op = (q : Int) + 1 := ⟨(op - 1).toNat, by omega⟩
    subst hq
    have e1 : ((q : Int) + 1 - 1).toNat = q := by omega
    have e2 : ((q : Int) + 1).toNat = q + 1 := by omega
    rw [e1] at h
    rw [e2, SL, List.map_cons, List.getElem?_cons_succ]
    exact h
  simp only [SL, List.map_cons] at hno hat
  have d25 : decide ((25 : Int) ≤ op) = hasNS op := by
    unfold hasNS
    rw [Bool.eq_iff_iff, decide_eq_true_eq, wit_iff]; omega
  have hnb : R K (.call 175 [I op] []) = some (.bool (hasNS op), []) := by
    rw [call_175]
    simp -implicitDefEqProofs only [go_sem, simprocAttr, Tryz.f175, d25]
    repeat' ((first | apply split_cond | apply split_yes | apply split_no) <;> intro hc <;> simp -implicitDefEqProofs only [hc, go_sem, simprocAttr, d25])
  rw [hh] at hnb
  have hit := Lib.itoa_length_le n n0 n1
  have hi := p_Itoa n n0 n1
  have hje := join_exT l
  have hj := p_Join (l.map exT) [44] (by rw [List.length_map]; omega) (by rw [hje]; omega)
  rw [hje] at hj
  simp only [SL] at hj
  have lk := fun ks B hB => l_scText l hlen ih (exC (mkO 4 op n l)) (exC_locs _) ks l.length 0 0 [] (l.map exT) B hB rfl (by omega) rfl (by simp)
  simp only [mkO, null, exC, List.length_nil, SL, List.map_nil] at lk
  generalize (exQ l).drop 1 = J at hj hT ⊢
  have j7 : ((opNameS op).length + ((Lib.itoa n).length + 1 + (J.length + 1 + 1)) ≤ strMax) = True := eq_true (by unfold strMax; omega)
  have j8 : ((opNameS op).length + ((Lib.itoa n).length + 1) ≤ strMax) = True := eq_true (by unfold strMax; omega)
  have j9 : (1 + (Lib.itoa n).length ≤ strMax) = True := eq_true (by unfold strMax; omega)
  have j10 : ((opNameS op).length + ((Lib.itoa n).length + 1) + (J.length + 1 + 1) ≤ strMax) = True := eq_true (by unfold strMax; omega)
  have j1 : (1 + J.length ≤ strMax) = True := eq_true (by unfold strMax; omega)
  have j2 : (1 + J.length + 1 ≤ strMax) = True := eq_true (by unfold strMax; omega)
  have j3 : (J.length + 1 ≤ strMax) = True := eq_true (by unfold strMax; omega)
  have j4 : (J.length + 1 + 1 ≤ strMax) = True := eq_true (by unfold strMax; omega)
  have j5 : (2 + (J.length + 1 + 1) ≤ strMax) = True := eq_true (by unfold strMax; omega)
  have j6 : (4 + (J.length + 1 + 1) ≤ strMax) = True := eq_true (by unfold strMax; omega)
  rw [call_113]
  simp -implicitDefEqProofs only [go_sem, simprocAttr, Tryz.f113, mkO, null, exC, exR_len]
  repeat' ((first | apply split_cond | apply split_yes | apply split_no) <;> intro hc <;> simp -implicitDefEqProofs only [hc, go_sem, simprocAttr, mkO, null, exC, exR_len])
  rw [lk _ _ ?_]
  · simp -implicitDefEqProofs only [go_sem, simprocAttr, hj, j1, j2, j3, j4, j5, j6, j7, j8, j9, j10, List.nil_append, List.cons_append, List.append_assoc, List.length_cons, List.length_nil, List.length_append, List.length_map, c1, c2, c3, c5, c6, hno, hat, hnb, hi]
    repeat' ((first | apply split_cond | apply split_yes | apply split_no) <;> intro hc <;> simp -implicitDefEqProofs only [hc, go_sem, simprocAttr, hj, j1, j2, j3, j4, j5, j6, j7, j8, j9, j10, List.nil_append, List.cons_append, List.append_assoc, List.length_cons, List.length_nil, List.length_append, List.length_map, c1, c2, c3, c5, c6, hno, hat, hnb, hi])
  · rfl
theorem r_scalarText : ∀ e : Ex, exN e ≤ 99000 → txE e = 0 → (exT e).length ≤ 39000000 → R K (.call 113 [.agg (exC e)] []) = some (.str (exT e), []) := by
  refine Ex.ind fun e ih => ?_
  intro hN ht hT
  obtain ⟨hL, hs⟩ := tx_split e ht
  cases hs with
  | val v h hv => subst h; rw [exT_val]; exact r_tval v
  | par n h h0 h1 => subst h; rw [exT_par]; exact r_tpar n h0 h1
  | col s m h h0 h1 h2 =>
    subst h
    rw [exT_col] at hT ⊢
    simp only [List.length_append, List.length_cons] at hT
    exact r_tcol s m (by omega)
  | opr k op n l h h0 h1 =>
    subst h
    have hl := exL_len hN
    have hL : txL l = 0 := hL
    rw [exT_opr l h0] at hT ⊢
    simp only [List.length_append, List.length_cons, List.length_nil] at hT
    have hq := exQ_len l
    have ihw : ∀ a ∈ l, R K (.call 113 [.agg (exC a)] []) = some (.str (exT a), []) := fun a ha => ih a (by simpa [mkO, Ex.args] using ha) (by
      have := exN_mem ha
      simp only [mkO, exN] at hN; omega) (tx_mem hL a ha) (by
      have := exQ_mem ha
      split at hq <;> omega)
    rcases h0 with ⟨rfl, hw, hn, hr⟩ | ⟨hk, rfl, rfl⟩
    · cases hh : hasNS op with
      | true =>
        have hb := headN hh hr
        have eh : headT 4 op n = opNameS op ++ 46 :: Lib.itoa n := by unfold headT; rw [if_pos rfl, hh, if_pos rfl]
        rw [eh]
        exact r_topN op n hw hh (by omega) (by omega) l hl ihw (by omega)
      | false =>
        have eh : headT 4 op n = opNameS op := by unfold headT; rw [if_pos rfl, hh, if_neg (by simp), List.append_nil]
        rw [eh]
        exact r_top0 op n hw hh l hl ihw (by omega)
    · rcases hk with rfl | rfl
      · exact r_tcase l hl ihw (by omega)
      · exact r_tin l hl ihw (by omega)
theorem small_iff (e : Ex) : smallS e = true ↔ exN e ≤ 400 ∧ exD e ≤ 24 := by
  simp only [smallS, Bool.and_eq_true, decide_eq_true_eq]
theorem r_ScalarText (e : Ex) (hN : exN e ≤ 1000000) (hL : exL 1000000 e) (hT : txE e = 0 → smallS e = true → (exT e).length ≤ 39000000) : R K (.call 48 [.agg (exC e)] []) = some (.tup [.str (writeS e).1, I (writeS e).2], []) := by
  have h := r_sizeOf e hN
  unfold writeS
  cases hq : smallS e with
  | false =>
    rw [if_pos rfl]
    by_cases h1 : exN e ≤ 400
    · have h2 : ¬ exD e ≤ 24 := fun h2 => by
        have := (small_iff e).2 ⟨h1, h2⟩
        rw [hq] at this; simp at this
      have d1 : decide ((400 : Int) < (exN e : Int)) = false := decide_eq_false (by omega)
      have d2 : decide ((24 : Int) < (exD e : Int)) = true := decide_eq_true (by omega)
      rw [call_48]
      simp -implicitDefEqProofs only [go_sem, simprocAttr, Tryz.f48, exC_len, exC_take, h, d1, d2]
      repeat' ((first | apply split_cond | apply split_yes | apply split_no) <;> intro hc <;> simp -implicitDefEqProofs only [hc, go_sem, simprocAttr, exC_len, exC_take, h, d1, d2])
    · have d1 : decide ((400 : Int) < (exN e : Int)) = true := decide_eq_true (by omega)
      rw [call_48]
      simp -implicitDefEqProofs only [go_sem, simprocAttr, Tryz.f48, exC_len, exC_take, h, d1]
      repeat' ((first | apply split_cond | apply split_yes | apply split_no) <;> intro hc <;> simp -implicitDefEqProofs only [hc, go_sem, simprocAttr, exC_len, exC_take, h, d1])
  | true =>
    obtain ⟨s1, s2⟩ := (small_iff e).1 hq
    have d1 : decide ((400 : Int) < (exN e : Int)) = false := decide_eq_false (by omega)
    have d2 : decide ((24 : Int) < (exD e : Int)) = false := decide_eq_false (by omega)
    have hs := r_scalar0 e (by omega) hL
    rw [if_neg (by simp)]
    by_cases h0 : txE e = 0
    · have hT := hT h0 hq
      have ht := r_scalarText e (by omega) h0 hT
      rw [if_neg (by simpa using h0)]
      rw [h0] at hs
      generalize exT e = t at hT ht ⊢
      by_cases hl : 65536 < t.length
      · have d : decide ((65536 : Int) < (t.length : Int)) = true := decide_eq_true (by omega)
        rw [if_pos hl]
        rw [call_48]
        simp -implicitDefEqProofs only [go_sem, simprocAttr, Tryz.f48, exC_len, exC_take, h, d1, d2, hs, bne, beq_self_eq_true, ht, d]
        repeat' ((first | apply split_cond | apply split_yes | apply split_no) <;> intro hc <;> simp -implicitDefEqProofs only [hc, go_sem, simprocAttr, exC_len, exC_take, h, d1, d2, hs, bne, beq_self_eq_true, ht, d])
      · have d : decide ((65536 : Int) < (t.length : Int)) = false := decide_eq_false (by omega)
        rw [if_neg hl]
        rw [call_48]
        simp -implicitDefEqProofs only [go_sem, simprocAttr, Tryz.f48, exC_len, exC_take, h, d1, d2, hs, bne, beq_self_eq_true, ht, d]
        repeat' ((first | apply split_cond | apply split_yes | apply split_no) <;> intro hc <;> simp -implicitDefEqProofs only [hc, go_sem, simprocAttr, exC_len, exC_take, h, d1, d2, hs, bne, beq_self_eq_true, ht, d])
    · have b0 : (txE e == 0) = false := by simpa using h0
      rw [if_pos h0]
      rw [call_48]
      simp -implicitDefEqProofs only [go_sem, simprocAttr, Tryz.f48, exC_len, exC_take, h, d1, d2, hs, bne, b0]
      repeat' ((first | apply split_cond | apply split_yes | apply split_no) <;> intro hc <;> simp -implicitDefEqProofs only [hc, go_sem, simprocAttr, exC_len, exC_take, h, d1, d2, hs, bne, b0])
theorem exL_mono {N M : Nat} (h : N ≤ M) : ∀ e : Ex, exL N e → exL M e := by
  refine Ex.ind fun e ih => ?_
  obtain ⟨k, op, n, v, src, nm, d, args⟩ := e
  intro hL
  simp only [exL] at hL ⊢
  refine ⟨by omega, by omega, ?_⟩
  have key : ∀ l : List Ex, (∀ a ∈ l, exL N a → exL M a) → exLs N l → exLs M l := by
    intro l
    induction l with
    | nil => intro _ _; trivial
    | cons b l ihl => intro h1 h2; exact ⟨h1 b (by simp) h2.1, ihl (fun a ha => h1 a (List.mem_cons_of_mem _ ha)) h2.2⟩
  exact key args ih hL.2.2
noncomputable def readR (t : List UInt8) : Ex × Int :=
  if 65536 < t.length then (ex0, 2) else match refR t with
    | none => (ex0, 14)
    | some e => if smallS e = true then (e, 0) else (ex0, 2)
theorem read_same (t : List UInt8) (h : t.count 41 ≤ 1000) : readE t = readR t := by
  unfold readE readR
  rw [reads_eq t h] <;> cases refR t <;> rfl
theorem r_ScalarRead (t : List UInt8) (hF : t.length ≤ 65536 → R K (.call 115 [.str t, I 0] []) = some (.agg (exC (sF 1001 t)), [])) : R K (.call 52 [.str t] []) = some (.tup [.agg (exC (readR t).1), I (readR t).2], []) := by
  by_cases h : 65536 < t.length
  · have d : decide ((65536 : Int) < (t.length : Int)) = true := decide_eq_true (by omega)
    have e : readR t = (ex0, 2) := if_pos h
    rw [e]
    rw [call_52]
    simp -implicitDefEqProofs only [go_sem, simprocAttr, Tryz.f52, d]
    repeat' ((first | apply split_cond | apply split_yes | apply split_no) <;> intro hc <;> simp -implicitDefEqProofs only [hc, go_sem, simprocAttr, d])
    all_goals rfl
  · have d : decide ((65536 : Int) < (t.length : Int)) = false := decide_eq_false (by omega)
    have hF := hF (by omega)
    have hf := sF_fits t.length 1001 t (Nat.le_refl _)
    have e : readR t = (match refR t with
      | none => (ex0, 14)
      | some e => if smallS e = true then (e, 0) else (ex0, 2)) := if_neg h
    rw [e]
    unfold refR
    generalize sF 1001 t = x at hF hf ⊢
    have hn := hf.n
    have hs := r_scalar0 x (by omega) (exL_mono (by omega) x hf.l)
    by_cases h0 : txE x = 0
    · have ht := r_scalarText x (by omega) h0 (by have := hf.t; omega)
      rw [h0] at hs
      by_cases hx : exT x = t
      · have bt : (exT x == t) = true := by simpa using hx
        rw [if_pos ⟨h0, hx⟩]
        have hz := r_sizeOf x (by omega)
        cases hq : smallS x with
        | true =>
          obtain ⟨s1, s2⟩ := (small_iff x).1 hq
          have d1 : decide ((400 : Int) < (exN x : Int)) = false := decide_eq_false (by omega)
          have d2 : decide ((24 : Int) < (exD x : Int)) = false := decide_eq_false (by omega)
          rw [call_52]
          simp -implicitDefEqProofs only [go_sem, simprocAttr, Tryz.f52, d, hF, exC_len, exC_take, hs, bne, beq_self_eq_true, ht, bt, hz, d1, d2, hq]
          repeat' ((first | apply split_cond | apply split_yes | apply split_no) <;> intro hc <;> simp -implicitDefEqProofs only [hc, go_sem, simprocAttr, d, hF, exC_len, exC_take, hs, bne, beq_self_eq_true, ht, bt, hz, d1, d2, hq])
        | false =>
          by_cases h1 : exN x ≤ 400
          · have h2 : ¬ exD x ≤ 24 := fun h2 => by
              have := (small_iff x).2 ⟨h1, h2⟩
              rw [hq] at this; simp at this
            have d1 : decide ((400 : Int) < (exN x : Int)) = false := decide_eq_false (by omega)
            have d2 : decide ((24 : Int) < (exD x : Int)) = true := decide_eq_true (by omega)
            rw [call_52]
            simp -implicitDefEqProofs only [go_sem, simprocAttr, Tryz.f52, d, hF, exC_len, exC_take, hs, bne, beq_self_eq_true, ht, bt, hz, d1, d2, hq]
            repeat' ((first | apply split_cond | apply split_yes | apply split_no) <;> intro hc <;> simp -implicitDefEqProofs only [hc, go_sem, simprocAttr, d, hF, exC_len, exC_take, hs, bne, beq_self_eq_true, ht, bt, hz, d1, d2, hq])
            all_goals rfl
          · have d1 : decide ((400 : Int) < (exN x : Int)) = true := decide_eq_true (by omega)
            rw [call_52]
            simp -implicitDefEqProofs only [go_sem, simprocAttr, Tryz.f52, d, hF, exC_len, exC_take, hs, bne, beq_self_eq_true, ht, bt, hz, d1, hq]
            repeat' ((first | apply split_cond | apply split_yes | apply split_no) <;> intro hc <;> simp -implicitDefEqProofs only [hc, go_sem, simprocAttr, d, hF, exC_len, exC_take, hs, bne, beq_self_eq_true, ht, bt, hz, d1, hq])
            all_goals rfl
      · have bt : (exT x == t) = false := by simpa using hx
        rw [if_neg (fun h => hx h.2)]
        rw [call_52]
        simp -implicitDefEqProofs only [go_sem, simprocAttr, Tryz.f52, d, hF, exC_len, exC_take, hs, bne, beq_self_eq_true, ht, bt]
        repeat' ((first | apply split_cond | apply split_yes | apply split_no) <;> intro hc <;> simp -implicitDefEqProofs only [hc, go_sem, simprocAttr, d, hF, exC_len, exC_take, hs, bne, beq_self_eq_true, ht, bt])
        all_goals rfl
    · have b0 : (txE x == 0) = false := by simpa using h0
      rw [if_neg (fun h => h0 h.1)]
      rw [call_52]
      simp -implicitDefEqProofs only [go_sem, simprocAttr, Tryz.f52, d, hF, exC_len, exC_take, hs, bne, b0]
      repeat' ((first | apply split_cond | apply split_yes | apply split_no) <;> intro hc <;> simp -implicitDefEqProofs only [hc, go_sem, simprocAttr, d, hF, exC_len, exC_take, hs, bne, b0])
      all_goals rfl
theorem cur_next {s : List UInt8} {f j : Nat} {x : UInt8} (hx : s[j]? = some x) (hf : f ≤ j) : (s.drop f).take (j + 1 - f) = (s.drop f).take (j - f) ++ [x] := by
  have e : j + 1 - f = (j - f) + 1 := by omega
  rw [e, List.take_add_one, List.getElem?_drop]
  have e2 : f + (j - f) = j := by omega
  rw [e2, hx]; rfl
theorem l_argsIn (s : List UInt8) (hs : s.length ≤ 70000) (ks : List It) : ∀ (m j : Nat) (i : Int) (d : Int) (q : Bool) (f : Nat) (acc : List (List UInt8)) (Bo : Code), Loop Tryz.f181 0 Bo → i = (j : Int) → s.length = j + m → f ≤ j → acc.length ≤ j → -(j : Int) ≤ d → d ≤ j →
   ∃ (acc' : List (List UInt8)) (f' : Nat), RL K (.run 181 0 (.code Bo :: .lp Bo (some ([0, 3, 4, 5, 6, 7], [])) 1 :: .blk 0 1 :: ks) [(0, .str s), (3, .own 0 acc.length), (4, I d), (5, I (f : Int)), (6, .bool q), (7, I i)] [.rows 1 (SL acc) false]) =
   R K (.run 181 0 ks [(0, .str s), (3, .own 0 acc'.length), (5, I (f' : Int))] [.rows 1 (SL acc') false]) ∧ f' ≤ s.length ∧ acc'.length ≤ s.length ∧ acc' ++ [s.drop f'] = acc ++ argG (s.drop j) d q ((s.drop f).take (j - f))
  | 0, j, i, d, q, f, acc, Bo, hB, hi, hj, hf, ha, hd0, hd1 => by
    subst hi
    have h1 : decide ((j : Int) < (s.length : Int)) = false := decide_eq_false (by omega)
    refine ⟨acc, f, ?_, by omega, by omega, ?_⟩
    · unfold Loop at hB
      simp -implicitDefEqProofs only [go_sem, simprocAttr, Tryz.f181, loopOf] at hB
      subst hB
      rw [RL_eq]
      simp -implicitDefEqProofs only [go_sem, simprocAttr, h1]
      repeat' ((first | apply split_cond | apply split_yes | apply split_no) <;> intro hc <;> simp -implicitDefEqProofs only [hc, go_sem, simprocAttr, h1])
    · rw [List.drop_of_length_le (i := j) (by omega), argG, List.take_of_length_le (by rw [List.length_drop]; omega)]
  | m + 1, j, i, d, q, f, acc, Bo, hB, hi, hj, hf, ha, hd0, hd1 => by
    subst hi
    have hB' := hB
    have h1 : decide ((j : Int) < (s.length : Int)) = true := decide_eq_true (by omega)
    obtain ⟨x, hx⟩ := some_at (l := s) (i := j) (by omega)
    have hg := byte_get hx
    have w1 : wrapI .i64 ((j : Int) + 1) = ((j + 1 : Nat) : Int) := by rw [wrap_id (by omega) (by omega)]; rfl
    have w2 : wrapI .i64 (d + 1) = d + 1 := wrap_id (by omega) (by omega)
    have w3 : wrapI .i64 (d - 1) = d - 1 := wrap_id (by omega) (by omega)
    have hcur := cur_next hx hf
    rw [drop_get hx, argG]
    by_cases c39 : x = 39
    · subst c39
      have b : ((((39 : UInt8).toNat : Nat) : Int) == 39) = true := rfl
      obtain ⟨acc', f', ih, q1, q2, q3⟩ := l_argsIn s hs ks m (j + 1) _ d (!q) f acc Bo hB' rfl (by omega) (by omega) (by omega) (by omega) (by omega)
      refine ⟨acc', f', ?_, q1, q2, ?_⟩
      · simp only [SL] at ih ⊢
        unfold Loop at hB
        simp -implicitDefEqProofs only [go_sem, simprocAttr, Tryz.f181, loopOf] at hB
        subst hB
        rw [RL_eq]
        simp -implicitDefEqProofs only [go_sem, simprocAttr, h1, hg, b, w1]
        repeat' ((first | apply split_cond | apply split_yes | apply split_no) <;> intro hc <;> simp -implicitDefEqProofs only [hc, go_sem, simprocAttr, h1, hg, b, w1])
        rw [ih]
      · rw [if_pos rfl, q3, hcur]
    have b39 : (((x.toNat : Nat) : Int) == 39) = false := by simpa using u8_no (n := 39) c39
    rw [if_neg c39]
    cases q with
    | true =>
      obtain ⟨acc', f', ih, q1, q2, q3⟩ := l_argsIn s hs ks m (j + 1) _ d true f acc Bo hB' rfl (by omega) (by omega) (by omega) (by omega) (by omega)
      refine ⟨acc', f', ?_, q1, q2, ?_⟩
      · simp only [SL] at ih ⊢
        unfold Loop at hB
        simp -implicitDefEqProofs only [go_sem, simprocAttr, Tryz.f181, loopOf] at hB
        subst hB
        rw [RL_eq]
        simp -implicitDefEqProofs only [go_sem, simprocAttr, h1, hg, b39, w1]
        repeat' ((first | apply split_cond | apply split_yes | apply split_no) <;> intro hc <;> simp -implicitDefEqProofs only [hc, go_sem, simprocAttr, h1, hg, b39, w1])
        rw [ih]
      · rw [if_pos rfl, q3, hcur]
    | false =>
    rw [if_neg (by simp)]
    by_cases c40 : x = 40
    · subst c40
      have b : ((((40 : UInt8).toNat : Nat) : Int) == 40) = true := rfl
      obtain ⟨acc', f', ih, q1, q2, q3⟩ := l_argsIn s hs ks m (j + 1) _ (d + 1) false f acc Bo hB' rfl (by omega) (by omega) (by omega) (by omega) (by omega)
      refine ⟨acc', f', ?_, q1, q2, ?_⟩
      · simp only [SL] at ih ⊢
        unfold Loop at hB
        simp -implicitDefEqProofs only [go_sem, simprocAttr, Tryz.f181, loopOf] at hB
        subst hB
        rw [RL_eq]
        simp -implicitDefEqProofs only [go_sem, simprocAttr, h1, hg, b39, b, w1, w2]
        repeat' ((first | apply split_cond | apply split_yes | apply split_no) <;> intro hc <;> simp -implicitDefEqProofs only [hc, go_sem, simprocAttr, h1, hg, b39, b, w1, w2])
        rw [ih]
      · rw [if_pos rfl, q3, hcur]
    have b40 : (((x.toNat : Nat) : Int) == 40) = false := by simpa using u8_no (n := 40) c40
    rw [if_neg c40]
    by_cases c41 : x = 41
    · subst c41
      have b : ((((41 : UInt8).toNat : Nat) : Int) == 41) = true := rfl
      obtain ⟨acc', f', ih, q1, q2, q3⟩ := l_argsIn s hs ks m (j + 1) _ (d - 1) false f acc Bo hB' rfl (by omega) (by omega) (by omega) (by omega) (by omega)
      refine ⟨acc', f', ?_, q1, q2, ?_⟩
      · simp only [SL] at ih ⊢
        unfold Loop at hB
        simp -implicitDefEqProofs only [go_sem, simprocAttr, Tryz.f181, loopOf] at hB
        subst hB
        rw [RL_eq]
        simp -implicitDefEqProofs only [go_sem, simprocAttr, h1, hg, b39, b40, b, w1, w3]
        repeat' ((first | apply split_cond | apply split_yes | apply split_no) <;> intro hc <;> simp -implicitDefEqProofs only [hc, go_sem, simprocAttr, h1, hg, b39, b40, b, w1, w3])
        rw [ih]
      · rw [if_pos rfl, q3, hcur]
    have b41 : (((x.toNat : Nat) : Int) == 41) = false := by simpa using u8_no (n := 41) c41
    rw [if_neg c41]
    by_cases c44 : x = 44
    · by_cases d0 : d = 0
      · subst d0
        subst c44
        have b : ((((44 : UInt8).toNat : Nat) : Int) == 44) = true := rfl
        have hr := room_small (acc.length + 1) (by omega)
        have g1 : ((f : Int) ≤ (j : Int)) = True := eq_true (by omega)
        have g2 : ((j : Int) ≤ (s.length : Int)) = True := eq_true (by omega)
        have g3 : ((0 : Int) ≤ (f : Int)) = True := eq_true (by omega)
        have g4 : ((0 : Int) ≤ (j : Int)) = True := eq_true (by omega)
        have g5 : ((f : Int) ≤ (s.length : Int)) = True := eq_true (by omega)
        obtain ⟨acc1, h1e⟩ : ∃ acc1, acc1 = acc ++ [(s.drop f).take (j - f)] := ⟨_, rfl⟩
        have hsn := SL_snoc acc ((s.drop f).take (j - f))
        rw [← h1e] at hsn
        have hl1 : acc1.length = acc.length + 1 := by rw [h1e]; simp
        obtain ⟨acc', f', ih, q1, q2, q3⟩ := l_argsIn s hs ks m (j + 1) _ 0 false (j + 1) acc1 Bo hB' rfl (by omega) (by omega) (by omega) (by omega) (by omega)
        refine ⟨acc', f', ?_, q1, q2, ?_⟩
        · rw [hl1] at ih
          simp only [SL] at ih hsn ⊢
          unfold Loop at hB
          simp -implicitDefEqProofs only [go_sem, simprocAttr, Tryz.f181, loopOf] at hB
          subst hB
          rw [RL_eq]
          simp -implicitDefEqProofs only [go_sem, simprocAttr, h1, hg, b39, b40, b41, b, beq_self_eq_true, w1, g1, g2, g3, g4, g5, Int.toNat_natCast, hr, hsn, List.length_map]
          repeat' ((first | apply split_cond | apply split_yes | apply split_no) <;> intro hc <;> simp -implicitDefEqProofs only [hc, go_sem, simprocAttr, h1, hg, b39, b40, b41, b, beq_self_eq_true, w1, g1, g2, g3, g4, g5, Int.toNat_natCast, hr, hsn, List.length_map])
          rw [ih]
        · rw [if_pos ⟨rfl, rfl⟩, q3, h1e]
          simp
      · subst c44
        have b : ((((44 : UInt8).toNat : Nat) : Int) == 44) = true := rfl
        have bd : (d == 0) = false := by simpa using d0
        obtain ⟨acc', f', ih, q1, q2, q3⟩ := l_argsIn s hs ks m (j + 1) _ d false f acc Bo hB' rfl (by omega) (by omega) (by omega) (by omega) (by omega)
        refine ⟨acc', f', ?_, q1, q2, ?_⟩
        · simp only [SL] at ih ⊢
          unfold Loop at hB
          simp -implicitDefEqProofs only [go_sem, simprocAttr, Tryz.f181, loopOf] at hB
          subst hB
          rw [RL_eq]
          simp -implicitDefEqProofs only [go_sem, simprocAttr, h1, hg, b39, b40, b41, b, bd, w1]
          repeat' ((first | apply split_cond | apply split_yes | apply split_no) <;> intro hc <;> simp -implicitDefEqProofs only [hc, go_sem, simprocAttr, h1, hg, b39, b40, b41, b, bd, w1])
          rw [ih]
        · rw [if_neg (fun h => d0 h.2), q3, hcur]
    · have b44 : (((x.toNat : Nat) : Int) == 44) = false := by simpa using u8_no (n := 44) c44
      obtain ⟨acc', f', ih, q1, q2, q3⟩ := l_argsIn s hs ks m (j + 1) _ d false f acc Bo hB' rfl (by omega) (by omega) (by omega) (by omega) (by omega)
      refine ⟨acc', f', ?_, q1, q2, ?_⟩
      · simp only [SL] at ih ⊢
        unfold Loop at hB
        simp -implicitDefEqProofs only [go_sem, simprocAttr, Tryz.f181, loopOf] at hB
        subst hB
        rw [RL_eq]
        simp -implicitDefEqProofs only [go_sem, simprocAttr, h1, hg, b39, b40, b41, b44, w1]
        repeat' ((first | apply split_cond | apply split_yes | apply split_no) <;> intro hc <;> simp -implicitDefEqProofs only [hc, go_sem, simprocAttr, h1, hg, b39, b40, b41, b44, w1])
        rw [ih]
      · rw [if_neg (fun h => c44 h.1), q3, hcur]
theorem r_argsIn (s : List UInt8) (hs : s.length ≤ 70000) : R K (.call 181 [.str s] []) = some (.rows (SL (argG s 0 false [])), []) := by
  have lk := fun ks B hB => l_argsIn s hs ks s.length 0 0 0 false 0 [] B hB rfl (by omega) (by omega) (by simp) (by omega) (by omega)
  simp only [List.drop_zero, List.length_nil, SL, List.map_nil, List.nil_append, Nat.sub_zero, List.take_zero, Int.natCast_zero] at lk
  rw [call_181]
  simp -implicitDefEqProofs only [go_sem, simprocAttr, Tryz.f181]
  repeat' ((first | apply split_cond | apply split_yes | apply split_no) <;> intro hc <;> simp -implicitDefEqProofs only [hc, go_sem, simprocAttr])
  obtain ⟨acc', f', lk, q1, q2, q3⟩ := lk _ _ rfl
  have hr := room_small (acc'.length + 1) (by omega)
  have g1 : ((0 : Int) ≤ (f' : Int)) = True := eq_true (by omega)
  have g2 : ((f' : Int) ≤ (s.length : Int)) = True := eq_true (by omega)
  have hsn := SL_snoc acc' (s.drop f')
  rw [q3] at hsn
  simp only [SL] at hsn
  have e1 : (s.drop f').take (s.length - f') = s.drop f' := take_self s f'
  have hla : ((argG s 0 false []).length = acc'.length + 1) = True := eq_true (by rw [← q3]; simp)
  rw [lk]
  simp -implicitDefEqProofs only [go_sem, simprocAttr, hla, g1, g2, Int.toNat_natCast, e1, hr, hsn, List.length_map]
  repeat' ((first | apply split_cond | apply split_yes | apply split_no) <;> intro hc <;> simp -implicitDefEqProofs only [hc, go_sem, simprocAttr, hla, g1, g2, Int.toNat_natCast, e1, hr, hsn, List.length_map])
def ixF (w : List UInt8) : List (List UInt8) → Int → Int
  | [], _ => -1
  | s :: r, i => if s = w then i else ixF w r (i + 1)
theorem ixF_eq (w : List UInt8) : ∀ (l : List (List UInt8)) (i : Int), ixF w l i = match l.findIdx? (· == w) with
    | some k => (k : Int) + i
    | none => -1
  | [], i => rfl
  | s :: r, i => by
    rw [ixF, List.findIdx?_cons]
    by_cases h : s = w
    · simp [h]
    · have : (s == w) = false := by simpa using h
      rw [if_neg h, ixF_eq w r (i + 1), this]
      cases r.findIdx? (· == w) with
      | none => rfl
      | some k =>
        show (k : Int) + (i + 1) = ((k + 1 : Nat) : Int) + i
        omega
theorem ix_op (w : List UInt8) : (if ixF w ([] :: opNames) 0 < 0 then 0 else ixF w ([] :: opNames) 0) = opIx w := by
  unfold opIx
  by_cases h : w = []
  · subst h; rw [if_pos rfl, ixF, if_pos rfl]; rfl
  · have e0 : ixF w ([] :: opNames) 0 = ixF w opNames (0 + 1) := if_neg (fun e => h e.symm)
    rw [if_neg h, e0, ixF_eq]
    unfold opNamedS
    cases opNames.findIdx? (· == w) with
    | none => rfl
    | some k =>
      simp only
      rw [if_neg (by omega)]; omega
theorem str_get {l : List (List UInt8)} {i : Nat} {v : List UInt8} (h : l[i]? = some v) : at? (SL l) (i : Int) = some [.str v] := at_get (by simp [h])
theorem l_ix (w : List UInt8) (l : List (List UInt8)) (hl : l.length ≤ 1000000) (ks : List It) : ∀ (m j : Nat) (i : Int) (Bo : Code), Loop Tryz.f180 0 Bo → i = (j : Int) → l.length = j + m →
   RL K (.run 180 0 (.code Bo :: .lp Bo (some ([0, 1, 7, 8], [])) 0 :: .blk 0 0 :: ks) [(0, .rows (SL l)), (1, .str w), (7, I (l.length : Int)), (8, I i)] []) =
   if 0 ≤ ixF w (l.drop j) i then some (I (ixF w (l.drop j) i), []) else R K (.run 180 0 ks [] [])
  | 0, j, i, Bo, hB, hi, hj => by
    subst hi
    have h1 : decide ((j : Int) < (l.length : Int)) = false := decide_eq_false (by omega)
    rw [List.drop_of_length_le (by omega)]
    have hz : ¬ 0 ≤ ixF w [] (j : Int) := fun h => absurd (show (0 : Int) ≤ -1 from h) (by decide)
    rw [if_neg hz]
    simp only [SL]
    unfold Loop at hB
    simp -implicitDefEqProofs only [go_sem, simprocAttr, Tryz.f180, loopOf] at hB
    subst hB
    rw [RL_eq]
    simp -implicitDefEqProofs only [go_sem, simprocAttr, h1]
    repeat' ((first | apply split_cond | apply split_yes | apply split_no) <;> intro hc <;> simp -implicitDefEqProofs only [hc, go_sem, simprocAttr, h1])
  | m + 1, j, i, Bo, hB, hi, hj => by
    have hB' := hB
    subst hi
    have h1 : decide ((j : Int) < (l.length : Int)) = true := decide_eq_true (by omega)
    obtain ⟨x, hx⟩ := some_at (l := l) (i := j) (by omega)
    have hg := str_get hx
    have w1 : wrapI .i64 ((j : Int) + 1) = ((j + 1 : Nat) : Int) := by rw [wrap_id (by omega) (by omega)]; rfl
    rw [drop_get hx, ixF]
    by_cases hq : x = w
    · have b1 : (w == x) = true := by simpa using hq.symm
      rw [if_pos hq, if_pos (by omega)]
      simp only [SL] at hg ⊢
      unfold Loop at hB
      simp -implicitDefEqProofs only [go_sem, simprocAttr, Tryz.f180, loopOf] at hB
      subst hB
      rw [RL_eq]
      simp -implicitDefEqProofs only [go_sem, simprocAttr, h1, hg, b1]
      repeat' ((first | apply split_cond | apply split_yes | apply split_no) <;> intro hc <;> simp -implicitDefEqProofs only [hc, go_sem, simprocAttr, h1, hg, b1])
    · have b1 : (w == x) = false := by simpa using fun e : w = x => hq e.symm
      have ih := l_ix w l hl ks m (j + 1) _ Bo hB' rfl (by omega)
      rw [if_neg hq]
      have e2 : ((j : Int) + 1) = ((j + 1 : Nat) : Int) := by omega
      rw [e2]
      simp only [SL] at hg ih ⊢
      unfold Loop at hB
      simp -implicitDefEqProofs only [go_sem, simprocAttr, Tryz.f180, loopOf] at hB
      subst hB
      rw [RL_eq]
      simp -implicitDefEqProofs only [go_sem, simprocAttr, h1, hg, b1, w1]
      repeat' ((first | apply split_cond | apply split_yes | apply split_no) <;> intro hc <;> simp -implicitDefEqProofs only [hc, go_sem, simprocAttr, h1, hg, b1, w1])
      rw [ih]
theorem r_ix (w : List UInt8) : R K (.call 180 [.rows (SL ([] :: opNames)), .str w] []) = some (I (ixF w ([] :: opNames) 0), []) := by
  have lk := fun ks B hB => l_ix w ([] :: opNames) (by have := names_len; simp; omega) ks ([] :: opNames).length 0 0 B hB rfl (by omega)
  simp only [List.drop_zero] at lk
  generalize hn : ([] :: opNames : List (List UInt8)) = l at lk ⊢
  have hneg : ¬ 0 ≤ ixF w l 0 → ixF w l 0 = -1 := fun h => by
    rw [ixF_eq] at h ⊢
    cases hf : l.findIdx? (· == w) with
    | none => rfl
    | some k => rw [hf] at h; simp only at h; omega
  simp only [SL] at lk ⊢
  rw [call_180]
  simp -implicitDefEqProofs only [go_sem, simprocAttr, Tryz.f180, List.length_map]
  repeat' ((first | apply split_cond | apply split_yes | apply split_no) <;> intro hc <;> simp -implicitDefEqProofs only [hc, go_sem, simprocAttr, List.length_map])
  rw [lk _ _ ?_]
  · by_cases h : 0 ≤ ixF w l 0
    · rw [if_pos h]
    · rw [if_neg h, hneg h]
      simp -implicitDefEqProofs only [go_sem, simprocAttr]
      repeat' ((first | apply split_cond | apply split_yes | apply split_no) <;> intro hc <;> simp -implicitDefEqProofs only [hc, go_sem, simprocAttr])
  · rfl
theorem p_HasSuffix (s p : List UInt8) (hs : s.length ≤ 10000000) : R K (.call 179 [.str s, .str p] []) = some (.bool (Lib.hasSuffix s p), []) := R_prim (by
  show pHasSuffix [.str s, .str p] = _
  simp only [pHasSuffix]
  rw [if_pos (by simp only [decide_eq_true_eq]; omega)])
theorem p_CutPrefix (s p : List UInt8) : R K (.call 177 [.str s, .str p] []) = some (.tup [.str (Lib.trimPrefix s p), .bool (Lib.hasPrefix s p)], []) := R_prim rfl
theorem readsV (t : List UInt8) (ht : t.length ≤ 10000000) : R K (.call 12 [.str t] []) = some (.tup [enc (readS t).1, I (readS t).2], []) := by rw [r_ReadValue t ht, read_law]
theorem f_val (t : List UInt8) (ht : t.length ≤ 66000) (lv : Int) (h : (readS t).2 = 0) : R K (.call 115 [.str t, I lv] []) = some (.agg (exC (mkV (readS t).1)), []) := by
  have hr := readsV t (by omega)
  rw [h] at hr
  rw [call_115]
  simp -implicitDefEqProofs only [go_sem, simprocAttr, Tryz.f115, hr, enc, beq_self_eq_true]
  repeat' ((first | apply split_cond | apply split_yes | apply split_no) <;> intro hc <;> simp -implicitDefEqProofs only [hc, go_sem, simprocAttr, hr, enc, beq_self_eq_true])
  all_goals rfl
theorem f_par (t : List UInt8) (ht : t.length ≤ 66000) (lv : Int) (h : ¬ (readS t).2 = 0) (h2 : Lib.hasPrefix t [63] = true) : R K (.call 115 [.str t, I lv] []) = some (.agg (exC (mkP (atoiV (Lib.trimPrefix t [63])))), []) := by
  have hr := readsV t (by omega)
  have b0 : ((readS t).2 == 0) = false := by simpa using h
  have hc := p_CutPrefix t [63]
  rw [h2] at hc
  have hl : (Lib.trimPrefix t [63]).length ≤ t.length := Lib.trimPrefix_le t [63]
  obtain ⟨e, ha, _, _⟩ := p_Atoi (Lib.trimPrefix t [63]) (by omega)
  rw [call_115]
  simp -implicitDefEqProofs only [go_sem, simprocAttr, Tryz.f115, hr, enc, b0, hc, ha]
  repeat' ((first | apply split_cond | apply split_yes | apply split_no) <;> intro hc <;> simp -implicitDefEqProofs only [hc, go_sem, simprocAttr, hr, enc, b0, hc, ha])
  all_goals rfl
theorem f_col (t : List UInt8) (ht : t.length ≤ 66000) (lv : Int) (h : ¬ (readS t).2 = 0) (h2 : ¬ Lib.hasPrefix t [63] = true) (h3 : 1000 < lv ∨ (Lib.cut t [40]).2.2 = false ∨ Lib.hasSuffix (Lib.cut t [40]).2.1 [41] = false) : R K (.call 115 [.str t, I lv] []) = some (.agg (exC (colR t)), []) := by
  have hr := readsV t (by omega)
  have b0 : ((readS t).2 == 0) = false := by simpa using h
  have hc := p_CutPrefix t [63]
  have h2 : Lib.hasPrefix t [63] = false := by simpa using h2
  rw [h2] at hc
  have hk := p_Cut t [40] (by omega)
  have hk2 := p_Cut t [58] (by omega)
  have hl := cutL_le t 40
  have hsf := p_HasSuffix (Lib.cut t [40]).2.1 [41] (by omega)
  generalize Lib.hasSuffix (Lib.cut t [40]).2.1 [41] = y at h3 hsf
  generalize Lib.cut t [40] = z at h3 hk hsf
  obtain ⟨z1, z2, z3⟩ := z
  simp only at h3 hk hsf
  unfold colR
  generalize Lib.cut t [58] = c at hk2
  obtain ⟨c1, c2, c3⟩ := c
  simp only at hk2
  cases z3 with
  | false =>
    rw [call_115]
    simp -implicitDefEqProofs only [go_sem, simprocAttr, Tryz.f115, hr, enc, b0, hc, hk, hk2]
    repeat' ((first | apply split_cond | apply split_yes | apply split_no) <;> intro hc <;> simp -implicitDefEqProofs only [hc, go_sem, simprocAttr, hr, enc, b0, hc, hk, hk2])
    all_goals rfl
  | true =>
    cases y with
    | false =>
      rw [call_115]
      simp -implicitDefEqProofs only [go_sem, simprocAttr, Tryz.f115, hr, enc, b0, hc, hk, hsf, hk2]
      repeat' ((first | apply split_cond | apply split_yes | apply split_no) <;> intro hc <;> simp -implicitDefEqProofs only [hc, go_sem, simprocAttr, hr, enc, b0, hc, hk, hsf, hk2])
      all_goals rfl
    | true =>
      have d : decide ((1000 : Int) < lv) = true := decide_eq_true (by rcases h3 with h3 | h3 | h3 <;> first | exact h3 | (simp at h3))
      rw [call_115]
      simp -implicitDefEqProofs only [go_sem, simprocAttr, Tryz.f115, hr, enc, b0, hc, hk, hsf, d, hk2]
      repeat' ((first | apply split_cond | apply split_yes | apply split_no) <;> intro hc <;> simp -implicitDefEqProofs only [hc, go_sem, simprocAttr, hr, enc, b0, hc, hk, hsf, d, hk2])
      all_goals rfl
abbrev HF (v0 : List AV) (k op n : Int) (l : List Ex) : Heap := [.cells zeroN, .cells v0, .cells [I k, I op, I n, I 0, I 0, .str [], .str [], .str [], .bool false, .own 3 l.length, .nils, .nils, .nils], .rows 13 (exR l) false]
theorem HF_snoc (v0 : List AV) (k op n : Int) (l : List Ex) (e : Ex) : HF v0 k op n (l ++ [e]) = [.cells zeroN, .cells v0, .cells [I k, I op, I n, I 0, I 0, .str [], .str [], .str [], .bool false, .own 3 (l.length + 1), .nils, .nils, .nils], .rows 13 (exR l ++ [exC e]) false] := by
  rw [exR_one]; simp
theorem l_from (lv : Int) (l0 : 0 ≤ lv) (l1 : lv ≤ 1000) (F : List UInt8 → Ex) (xs : List (List UInt8)) (hx : xs.length ≤ 99000) (ih : ∀ a ∈ xs, R K (.call 115 [.str a, I (lv + 1)] []) = some (.agg (exC (F a)), [])) (v0 : List AV) (hv : locsL v0 = []) (k op n : Int) (ks : List It) : ∀ (m j : Nat) (i : Int) (l l' : List Ex) (Bo : Code), Loop Tryz.f115 1 Bo → i = (j : Int) → xs.length = j + m → l.length = j → l' = l ++ (xs.drop j).map F →
   RL K (.run 115 0 (.code Bo :: .lp Bo (some ([1, 4, 20, 100, 101, 102], [])) 4 :: .blk 1 4 :: ks) [(1, I lv), (4, .ptr 0 0), (20, .ptr 2 0), (100, .rows (SL xs)), (101, I (xs.length : Int)), (102, I i)] (HF v0 k op n l)) =
   R K (.run 115 0 ks [(4, .ptr 0 0), (20, .ptr 2 0)] (HF v0 k op n l'))
  | 0, j, i, l, l', Bo, hB, hi, hj, hl, he => by
    subst hi
    have h1 : decide ((j : Int) < (xs.length : Int)) = false := decide_eq_false (by omega)
    rw [List.drop_of_length_le (by omega), List.map_nil, List.append_nil] at he
    subst he
    simp only [SL]
    unfold Loop at hB
    simp -implicitDefEqProofs only [go_sem, simprocAttr, Tryz.f115, loopOf] at hB
    subst hB
    rw [RL_eq]
    simp -implicitDefEqProofs only [go_sem, simprocAttr, h1, hv]
    repeat' ((first | apply split_cond | apply split_yes | apply split_no) <;> intro hc <;> simp -implicitDefEqProofs only [hc, go_sem, simprocAttr, h1, hv])
  | m + 1, j, i, l, l', Bo, hB, hi, hj, hl, he => by
    subst hi
    have hB' := hB
    have h1 : decide ((j : Int) < (xs.length : Int)) = true := decide_eq_true (by omega)
    obtain ⟨x, hx'⟩ := some_at (l := xs) (i := j) (by omega)
    have hg := str_get hx'
    have w1 : wrapI .i64 ((j : Int) + 1) = ((j + 1 : Nat) : Int) := by rw [wrap_id (by omega) (by omega)]; rfl
    have w2 : wrapI .i64 (lv + 1) = lv + 1 := wrap_id (by omega) (by omega)
    have r := ih x (List.mem_of_getElem? hx')
    have hroom := room_small (l.length + 1) (by omega)
    rw [drop_get hx', List.map_cons] at he
    have ih2 := l_from lv l0 l1 F xs hx ih v0 hv k op n ks m (j + 1) _ (l ++ [F x]) l' Bo hB' rfl (by omega) (by simp; omega) (by rw [he]; simp)
    rw [HF_snoc] at ih2
    simp only [SL] at hg ih2 ⊢
    unfold Loop at hB
    simp -implicitDefEqProofs only [go_sem, simprocAttr, Tryz.f115, loopOf] at hB
    subst hB
    rw [RL_eq]
    simp -implicitDefEqProofs only [go_sem, simprocAttr, h1, hv, hg, r, w1, w2, hroom, exR_len, exC_len, exC_take]
    repeat' ((first | apply split_cond | apply split_yes | apply split_no) <;> intro hc <;> simp -implicitDefEqProofs only [hc, go_sem, simprocAttr, h1, hv, hg, r, w1, w2, hroom, exR_len, exC_len, exC_take])
    rw [ih2]
theorem f_op (t : List UInt8) (ht : t.length ≤ 66000) (lv : Int) (l0 : 0 ≤ lv) (l1 : lv ≤ 1000) (d : Nat) (ih : ∀ a : List UInt8, a.length ≤ t.length → R K (.call 115 [.str a, I (lv + 1)] []) = some (.agg (exC (sF d a)), [])) (h : ¬ (readS t).2 = 0) (h2 : ¬ Lib.hasPrefix t [63] = true) (h3 : ¬ ((Lib.cut t [40]).2.2 = false ∨ Lib.hasSuffix (Lib.cut t [40]).2.1 [41] = false)) : R K (.call 115 [.str t, I lv] []) = some (.agg (exC (mkO (kindR (Lib.cut (Lib.cut t [40]).1 [46]).1) (opIx (Lib.cut (Lib.cut t [40]).1 [46]).1) (atoiV (Lib.cut (Lib.cut t [40]).1 [46]).2.1) ((argG (Lib.cut t [40]).2.1.dropLast 0 false []).map (sF d)))), []) := by
  have hr := readsV t (by omega)
  have b0 : ((readS t).2 == 0) = false := by simpa using h
  have hc := p_CutPrefix t [63]
  have h2 : Lib.hasPrefix t [63] = false := by simpa using h2
  rw [h2] at hc
  have hk := p_Cut t [40] (by omega)
  have hl := cutL_le t 40
  have hsf := p_HasSuffix (Lib.cut t [40]).2.1 [41] (by omega)
  have hz2 : Lib.hasSuffix (Lib.cut t [40]).2.1 [41] = true → 1 ≤ (Lib.cut t [40]).2.1.length := fun h => by
    cases hr : (Lib.cut t [40]).2.1 with
    | nil => rw [hr] at h; exact absurd h (by decide)
    | cons a r => simp
  generalize Lib.hasSuffix (Lib.cut t [40]).2.1 [41] = y at h3 hsf hz2
  generalize Lib.cut t [40] = z at h3 hk hsf hl hz2 ⊢
  obtain ⟨z1, z2, z3⟩ := z
  simp only [not_or, Bool.not_eq_false] at h3 hk hsf hl hz2 ⊢
  obtain ⟨rfl, rfl⟩ := h3
  have hz2 := hz2 rfl
  have dd : decide ((1000 : Int) < lv) = false := decide_eq_false (by omega)
  have hk2 := p_Cut z1 [46] (by omega)
  have hl2 := cutL_le z1 46
  generalize Lib.cut z1 [46] = c at hk2 hl2 ⊢
  obtain ⟨c1, c2, c3⟩ := c
  simp only at hk2 hl2 ⊢
  have hno := r_opNames
  have hix := r_ix c1
  obtain ⟨e, ha, _, _⟩ := p_Atoi c2 (by omega)
  have hio := ix_op c1
  have hag := r_argsIn z2.dropLast (by rw [List.length_dropLast]; omega)
  have htot := arg_tot z2.dropLast 0 false []
  simp only [List.length_dropLast, List.length_nil] at htot
  have hmem : ∀ (l : List (List UInt8)), l.length ≤ tot l ∧ ∀ a ∈ l, a.length + 1 ≤ tot l := by
    intro l
    induction l with
    | nil => exact ⟨by simp, fun a h => by simp at h⟩
    | cons b l ihl =>
      simp only [tot, List.length_cons]
      refine ⟨by omega, fun a h => ?_⟩
      rcases List.mem_cons.1 h with rfl | h
      · omega
      · have := ihl.2 a h; omega
  generalize ixF c1 ([] :: opNames) 0 = iz at hix hio
  obtain ⟨n, hn⟩ : ∃ n : Nat, n = z2.length - 1 := ⟨_, rfl⟩
  have w4 : wrapI .i64 ((z2.length : Int) - 1) = (n : Int) := by rw [wrap_id (by omega) (by omega)]; omega
  have g1 : ((0 : Int) ≤ (n : Int)) = True := eq_true (by omega)
  have g2 : ((n : Int) ≤ (z2.length : Int)) = True := eq_true (by omega)
  have dl : z2.take n = z2.dropLast := by rw [List.dropLast_eq_take, hn]
  generalize argG z2.dropLast 0 false [] = xs at hag htot ⊢
  obtain ⟨hm1, hm2⟩ := hmem xs
  have lk := fun v0 hv kk ks B hB => l_from lv l0 l1 (sF d) xs (by omega) (fun a ha => ih a (by have := hm2 a ha; omega)) v0 hv kk (opIx c1) (atoiV c2) ks xs.length 0 0 [] (xs.map (sF d)) B hB rfl (by omega) rfl (by simp)
  simp only [SL, List.map_cons, HF, exR, List.length_nil] at hno hix hag lk
  by_cases k5 : c1 = [99, 97, 115, 101]
  · have b5 : (c1 == [99, 97, 115, 101]) = true := by simpa using k5
    have ek : kindR c1 = 5 := if_pos k5
    rw [ek]
    rw [call_115]
    simp -implicitDefEqProofs only [go_sem, simprocAttr, Tryz.f115, hr, enc, b0, hc, hk, hsf, dd, hk2, hno, hix, hio, b5, ha, w4, g1, g2, and_self, Int.toNat_natCast, Nat.sub_zero, List.drop_zero, dl, hag, List.length_map]
    repeat' ((first | apply split_cond | apply split_yes | apply split_no) <;> intro hc <;> simp -implicitDefEqProofs only [hc, go_sem, simprocAttr, hr, enc, b0, hc, hk, hsf, dd, hk2, hno, hix, hio, b5, ha, w4, g1, g2, and_self, Int.toNat_natCast, Nat.sub_zero, List.drop_zero, dl, hag, List.length_map])
    rw [lk _ _ _ _ _ ?_]
    · simp -implicitDefEqProofs only [go_sem, simprocAttr, exR_len]
      repeat' ((first | apply split_cond | apply split_yes | apply split_no) <;> intro hc <;> simp -implicitDefEqProofs only [hc, go_sem, simprocAttr, exR_len])
      all_goals rfl
    · rfl
    · rfl
  have b5 : (c1 == [99, 97, 115, 101]) = false := by simpa using k5
  by_cases k6 : c1 = [105, 110]
  · have b6 : (c1 == [105, 110]) = true := by simpa using k6
    have ek : kindR c1 = 6 := by unfold kindR; rw [if_neg k5, if_pos k6]
    rw [ek]
    rw [call_115]
    simp -implicitDefEqProofs only [go_sem, simprocAttr, Tryz.f115, hr, enc, b0, hc, hk, hsf, dd, hk2, hno, hix, hio, b5, b6, ha, w4, g1, g2, and_self, Int.toNat_natCast, Nat.sub_zero, List.drop_zero, dl, hag, List.length_map]
    repeat' ((first | apply split_cond | apply split_yes | apply split_no) <;> intro hc <;> simp -implicitDefEqProofs only [hc, go_sem, simprocAttr, hr, enc, b0, hc, hk, hsf, dd, hk2, hno, hix, hio, b5, b6, ha, w4, g1, g2, and_self, Int.toNat_natCast, Nat.sub_zero, List.drop_zero, dl, hag, List.length_map])
    rw [lk _ _ _ _ _ ?_]
    · simp -implicitDefEqProofs only [go_sem, simprocAttr, exR_len]
      repeat' ((first | apply split_cond | apply split_yes | apply split_no) <;> intro hc <;> simp -implicitDefEqProofs only [hc, go_sem, simprocAttr, exR_len])
      all_goals rfl
    · rfl
    · rfl
  · have b6 : (c1 == [105, 110]) = false := by simpa using k6
    have ek : kindR c1 = 4 := by unfold kindR; rw [if_neg k5, if_neg k6]
    rw [ek]
    rw [call_115]
    simp -implicitDefEqProofs only [go_sem, simprocAttr, Tryz.f115, hr, enc, b0, hc, hk, hsf, dd, hk2, hno, hix, hio, b5, b6, ha, w4, g1, g2, and_self, Int.toNat_natCast, Nat.sub_zero, List.drop_zero, dl, hag, List.length_map]
    repeat' ((first | apply split_cond | apply split_yes | apply split_no) <;> intro hc <;> simp -implicitDefEqProofs only [hc, go_sem, simprocAttr, hr, enc, b0, hc, hk, hsf, dd, hk2, hno, hix, hio, b5, b6, ha, w4, g1, g2, and_self, Int.toNat_natCast, Nat.sub_zero, List.drop_zero, dl, hag, List.length_map])
    rw [lk _ _ _ _ _ ?_]
    · simp -implicitDefEqProofs only [go_sem, simprocAttr, exR_len]
      repeat' ((first | apply split_cond | apply split_yes | apply split_no) <;> intro hc <;> simp -implicitDefEqProofs only [hc, go_sem, simprocAttr, exR_len])
      all_goals rfl
    · rfl
    · rfl
theorem r_from : ∀ (d : Nat) (t : List UInt8) (lv : Int), t.length ≤ 66000 → lv = 1001 - (d : Int) → d ≤ 1001 → R K (.call 115 [.str t, I lv] []) = some (.agg (exC (sF d t)), [])
  | 0, t, lv, ht, hl, hd => by
    by_cases h : (readS t).2 = 0
    · rw [sF, if_pos h]; exact f_val t ht lv h
    by_cases h2 : Lib.hasPrefix t [63] = true
    · rw [sF, if_neg h, if_pos h2]; exact f_par t ht lv h h2
    · rw [sF, if_neg h, if_neg h2]; exact f_col t ht lv h h2 (.inl (by omega))
  | d + 1, t, lv, ht, hl, hd => by
    by_cases h : (readS t).2 = 0
    · rw [sF, if_pos h]; exact f_val t ht lv h
    by_cases h2 : Lib.hasPrefix t [63] = true
    · rw [sF, if_neg h, if_pos h2]; exact f_par t ht lv h h2
    by_cases h3 : (Lib.cut t [40]).2.2 = false ∨ Lib.hasSuffix (Lib.cut t [40]).2.1 [41] = false
    · rw [sF, if_neg h, if_neg h2, if_pos h3]; exact f_col t ht lv h h2 (.inr h3)
    · rw [sF, if_neg h, if_neg h2, if_neg h3]
      exact f_op t ht lv (by omega) (by omega) d (fun a ha => r_from d a (lv + 1) (by omega) (by omega) (by omega)) h h2 h3
theorem r_Read (t : List UInt8) : R K (.call 52 [.str t] []) = some (.tup [.agg (exC (readR t).1), I (readR t).2], []) :=
  r_ScalarRead t fun h => r_from 1001 t 0 (by omega) (by omega) (by omega)
theorem utf_one : ∀ i : Fin 128, (Utf8.encode ((i.val : Nat) : Int)).data.toList = [UInt8.ofNat i.val] := by decide +kernel
theorem wrap_one : ∀ i : Fin 128, wrapI .i32 ((i.val : Nat) : Int) = ((i.val : Nat) : Int) := by decide +kernel
theorem utf_c (c : UInt8) (h : c.toNat < 128) : (Utf8.encode ((c.toNat : Nat) : Int)).data.toList = [c] := by
  have := utf_one ⟨c.toNat, h⟩
  simpa using this
section
variable {L : List Int} {a B : Int}
theorem cnt_take (t : List UInt8) (i j : Nat) (h : i ≤ j) : (t.take i).length + (t.drop j).length ≤ t.length ∧ (t.take i).count 41 + (t.drop j).count 41 ≤ t.count 41 := by
  have e : t.count 41 = (t.take i).count 41 + (t.drop i).count 41 := by rw [← List.count_append, List.take_append_drop]
  have e2 : t.drop j = (t.drop i).drop (j - i) := by rw [List.drop_drop]; congr 1; omega
  have e3 : (t.drop j).count 41 ≤ (t.drop i).count 41 := by rw [e2]; exact List.Sublist.count_le _ (List.drop_sublist _ _)
  refine ⟨?_, by omega⟩
  rw [List.length_take, List.length_drop]; omega
theorem cnt_one (c : UInt8) : [c].count 41 ≤ 1 := by
  rw [List.count_cons, List.count_nil]; split <;> omega
theorem g_Changed (h : Gd L a B) (hB : 3 ≤ B) (t w : List UInt8) (ht : t.length ≤ 10000000) (hw0 : w ≠ []) (hw1 : w.length ≤ 9) (hw2 : w.all (fun c => decide (c.toNat < 128)) = true) (hw3 : w.count 41 ≤ 1) : ∃ u a', R K (.call 50 [.ptr 0 0, .str t, .str w] (St L a)) = some (.str u, St L a') ∧ a ≤ a' ∧ a' ≤ a + 3 ∧ u.length ≤ t.length + 9 ∧ u.count 41 ≤ t.count 41 + 1 := by
  have bw : (w == []) = false := by simpa using hw0
  cases t with
  | nil =>
    refine ⟨w, a, ?_, by omega, by omega, by simp; omega, by simp; omega⟩
    rw [call_50]
    simp -implicitDefEqProofs only [go_sem, simprocAttr, Tryz.f50, beq_self_eq_true]
    repeat' ((first | apply split_cond | apply split_yes | apply split_no) <;> intro hc <;> simp -implicitDefEqProofs only [hc, go_sem, simprocAttr, beq_self_eq_true])
  | cons t0 tr =>
    generalize htt : t0 :: tr = t at ht ⊢
    have bt : (t == []) = false := by rw [← htt]; rfl
    have hl : 1 ≤ t.length := by rw [← htt]; simp
    have hlw : 1 ≤ w.length := by cases w; exact absurd rfl hw0; simp
    clear htt
    have x0 := g_Next h (by omega) (t.length : Int)
    have b0 := next_bounds L a (t.length : Int) (by omega) (by omega)
    have x1 := g_Next (h.step (a + 1) (B - 1) (by omega) (by omega)) (by omega) (w.length : Int)
    have b1 := next_bounds L (a + 1) (w.length : Int) (by omega) (by omega)
    have x2 := g_Next (h.step (a + 1 + 1) (B - 2) (by omega) (by omega)) (by omega) 3
    have b2 := next_bounds L (a + 1 + 1) 3 (by omega) (by omega)
    generalize nextS L a (t.length : Int) = i at x0 b0
    generalize nextS L (a + 1) (w.length : Int) = j at x1 b1
    generalize nextS L (a + 1 + 1) 3 = q at x2 b2
    obtain ⟨i, rfl⟩ := Int.eq_ofNat_of_zero_le b0.1
    obtain ⟨j, rfl⟩ := Int.eq_ofNat_of_zero_le b1.1
    obtain ⟨c, hc⟩ := some_at (l := w) (i := j) (by omega)
    have hg := byte_get hc
    have hcl : c.toNat < 128 := by
      have := List.all_eq_true.1 hw2 c (List.mem_of_getElem? hc)
      simpa using this
    have hu := utf_c c hcl
    have n1 := cnt_take t i (i + 1) (by omega)
    have n2 := cnt_take t i i (by omega)
    have n3 := cnt_one c
    have w1 : wrapI .i64 ((i : Int) + 1) = ((i + 1 : Nat) : Int) := by rw [wrap_id (by omega) (by omega)]; rfl
    have wc : wrapI .i32 ((c.toNat : Nat) : Int) = ((c.toNat : Nat) : Int) := wrap_one ⟨c.toNat, hcl⟩
    have g1 : ((0 : Int) ≤ (i : Int)) = True := eq_true (by omega)
    have g2 : ((i : Int) ≤ (t.length : Int)) = True := eq_true (by omega)
    have g3 : ((0 : Int) ≤ ((i + 1 : Nat) : Int)) = True := eq_true (by omega)
    have g4 : (((i + 1 : Nat) : Int) ≤ (t.length : Int)) = True := eq_true (by omega)
    have e1 : (t.drop i).take (t.length - i) = t.drop i := take_self t i
    have e2 : (t.drop (i + 1)).take (t.length - (i + 1)) = t.drop (i + 1) := take_self t (i + 1)
    have ltk : (t.take i).length = i := by rw [List.length_take]; omega
    have s1 : (i + 1 ≤ strMax) = True := eq_true (by unfold strMax; omega)
    have s2 : (i + 1 + (t.drop (i + 1)).length ≤ strMax) = True := eq_true (by unfold strMax; rw [List.length_drop]; omega)
    have s3 : (i + 1 + (t.drop i).length ≤ strMax) = True := eq_true (by unfold strMax; rw [List.length_drop]; omega)
    have s4 : (i + (t.drop (i + 1)).length ≤ strMax) = True := eq_true (by unfold strMax; rw [List.length_drop]; omega)
    by_cases q0 : q = 0
    · subst q0
      refine ⟨t.take i ++ [c] ++ t.drop (i + 1), a + 1 + 1 + 1, ?_, by omega, by omega, by simp only [List.length_append, List.length_cons, List.length_nil]; omega, by simp only [List.count_append]; omega⟩
      rw [call_50]
      simp -implicitDefEqProofs only [go_sem, simprocAttr, Tryz.f50, bt, bw, x0, x1, x2, hg, hu, wc, w1, g1, g2, g3, g4, and_self, Int.toNat_natCast, Nat.sub_zero, List.drop_zero, e1, e2, ltk, s1, s2, beq_self_eq_true]
      repeat' ((first | apply split_cond | apply split_yes | apply split_no) <;> intro hc <;> simp -implicitDefEqProofs only [hc, go_sem, simprocAttr, bt, bw, x0, x1, x2, hg, hu, wc, w1, g1, g2, g3, g4, and_self, Int.toNat_natCast, Nat.sub_zero, List.drop_zero, e1, e2, ltk, s1, s2, beq_self_eq_true])
    have bq0 : (q == 0) = false := by simpa using q0
    by_cases q1 : q = 1
    · subst q1
      refine ⟨t.take i ++ [c] ++ t.drop i, a + 1 + 1 + 1, ?_, by omega, by omega, by simp only [List.length_append, List.length_cons, List.length_nil]; omega, by simp only [List.count_append]; omega⟩
      rw [call_50]
      simp -implicitDefEqProofs only [go_sem, simprocAttr, Tryz.f50, bt, bw, x0, x1, x2, hg, hu, wc, w1, g1, g2, g3, g4, and_self, Int.toNat_natCast, Nat.sub_zero, List.drop_zero, e1, e2, ltk, s1, s3, bq0, beq_self_eq_true]
      repeat' ((first | apply split_cond | apply split_yes | apply split_no) <;> intro hc <;> simp -implicitDefEqProofs only [hc, go_sem, simprocAttr, bt, bw, x0, x1, x2, hg, hu, wc, w1, g1, g2, g3, g4, and_self, Int.toNat_natCast, Nat.sub_zero, List.drop_zero, e1, e2, ltk, s1, s3, bq0, beq_self_eq_true])
    have bq1 : (q == 1) = false := by simpa using q1
    refine ⟨t.take i ++ t.drop (i + 1), a + 1 + 1 + 1, ?_, by omega, by omega, by simp only [List.length_append, List.length_cons, List.length_nil]; omega, by simp only [List.count_append]; omega⟩
    rw [call_50]
    simp -implicitDefEqProofs only [go_sem, simprocAttr, Tryz.f50, bt, bw, x0, x1, x2, hg, hu, wc, w1, g1, g2, g3, g4, and_self, Int.toNat_natCast, Nat.sub_zero, List.drop_zero, e1, e2, ltk, s4, bq0, bq1]
    repeat' ((first | apply split_cond | apply split_yes | apply split_no) <;> intro hc <;> simp -implicitDefEqProofs only [hc, go_sem, simprocAttr, bt, bw, x0, x1, x2, hg, hu, wc, w1, g1, g2, g3, g4, and_self, Int.toNat_natCast, Nat.sub_zero, List.drop_zero, e1, e2, ltk, s4, bq0, bq1])
end
theorem exB_L : ∀ e : Ex, exB e → exL 1000 e ∧ exP e := by
  refine Ex.ind fun e ih => ?_
  obtain ⟨k, op, n, v, src, nm, d, args⟩ := e
  intro hB
  simp only [exB] at hB
  have key : ∀ l : List Ex, (∀ a ∈ l, exB a → exL 1000 a ∧ exP a) → exBs l → exLs 1000 l ∧ exPs l := by
    intro l
    induction l with
    | nil => intro _ _; exact ⟨trivial, trivial⟩
    | cons b l ihl =>
      intro h1 h2
      obtain ⟨q1, q2⟩ := h1 b (by simp) h2.1
      obtain ⟨q3, q4⟩ := ihl (fun a ha => h1 a (List.mem_cons_of_mem _ ha)) h2.2
      exact ⟨⟨q1, q3⟩, q2, q4⟩
  obtain ⟨k1, k2⟩ := key args ih hB.2.2
  simp only [exL, exP]
  exact ⟨⟨by omega, by omega, k1⟩, List.count_eq_zero.1 (by omega), k2⟩
def withs : List (List UInt8) := [[40], [41], [44], [58], [63], [46], [39], [48], [49], [45], [97], [110, 117, 108, 108], [97, 100, 100, 40], [99, 97, 115, 101, 40, 49, 44, 50, 41], [105, 110], [32]]
theorem withs_ok : ∀ w ∈ withs, w ≠ [] ∧ w.length ≤ 9 ∧ w.all (fun c => decide (c.toNat < 128)) = true ∧ w.count 41 ≤ 1 := by decide
theorem with_at (i : Int) (h0 : 0 ≤ i) (h1 : i < 16) : ∃ w ∈ withs, at? (SL withs) i = some [.str w] := by
  obtain ⟨n, rfl⟩ := Int.eq_ofNat_of_zero_le h0
  obtain ⟨w, hw⟩ := some_at (l := withs) (i := n) (by have : withs.length = 16 := rfl; omega)
  exact ⟨w, List.mem_of_getElem? hw, str_get hw⟩
section
variable {L : List Int}
theorem l_changed (n : Nat) (ks : List It) (H0 : List AV) (hH : locsL H0 = []) : ∀ (m j : Nat) (i a B : Int) (t : List UInt8) (Bo : Code), Loop Tryz.f10 0 Bo → Gd L a B → 4 * m ≤ B → i = (j : Int) → n = j + m → n ≤ 10 → t.length ≤ 70000 + 9 * j → 
   ∃ (t' : List UInt8) (a' : Int), t'.length ≤ t.length + 9 * m ∧ t'.count 41 ≤ t.count 41 + m ∧
   RL K (.run 10 0 (.code Bo :: .lp Bo (some ([3, 9, 49, 50], [])) 2 :: .blk 0 2 :: ks) [(3, .ptr 0 0), (9, .str t), (49, I (n : Int)), (50, I i)] [.cells [LR L, I a], .cells H0]) =
   R K (.run 10 0 ks [(9, .str t')] [.cells [LR L, I a'], .cells H0])
  | 0, j, i, a, B, t, Bo, hB, hG, hm, hi, hj, hn, ht => by
    subst hi
    have h1 : decide ((j : Int) < (n : Int)) = false := decide_eq_false (by omega)
    refine ⟨t, a, by omega, by omega, ?_⟩
    unfold Loop at hB
    simp -implicitDefEqProofs only [go_sem, simprocAttr, Tryz.f10, loopOf] at hB
    subst hB
    rw [RL_eq]
    simp -implicitDefEqProofs only [go_sem, simprocAttr, h1, hH]
    repeat' ((first | apply split_cond | apply split_yes | apply split_no) <;> intro hc <;> simp -implicitDefEqProofs only [hc, go_sem, simprocAttr, h1, hH])
  | m + 1, j, i, a, B, t, Bo, hB, hG, hm, hi, hj, hn, ht => by
    subst hi
    have hB' := hB
    have h1 : decide ((j : Int) < (n : Int)) = true := decide_eq_true (by omega)
    have w1 : wrapI .i64 ((j : Int) + 1) = ((j + 1 : Nat) : Int) := by rw [wrap_id (by omega) (by omega)]; rfl
    have x0 := g_Next hG (by omega) 16
    have b0 := next_bounds L a 16 (by omega) (by omega)
    obtain ⟨w, hw, hg⟩ := with_at _ b0.1 b0.2
    obtain ⟨k0, k1, k2, k3⟩ := withs_ok w hw
    generalize nextS L a 16 = p at x0 hg
    have hG1 := hG.step (a + 1) (B - 1) (by omega) (by omega)
    obtain ⟨u, a1, x1, q1, q2, q3, q4⟩ := g_Changed hG1 (by omega) t w (by omega) k0 k1 k2 k3
    obtain ⟨t', a', r1, r2, ih⟩ := l_changed n ks H0 hH m (j + 1) _ a1 (B - 4) u Bo hB' (hG.step _ _ (by omega) (by omega)) (by omega) rfl (by omega) (by omega) (by omega)
    refine ⟨t', a', by omega, by omega, ?_⟩
    simp only [withs, SL, List.map_cons, List.map_nil] at hg
    unfold Loop at hB
    simp -implicitDefEqProofs only [go_sem, simprocAttr, Tryz.f10, loopOf] at hB
    subst hB
    rw [RL_eq]
    simp -implicitDefEqProofs only [go_sem, simprocAttr, h1, hH, x0, hg, x1, w1]
    repeat' ((first | apply split_cond | apply split_yes | apply split_no) <;> intro hc <;> simp -implicitDefEqProofs only [hc, go_sem, simprocAttr, h1, hH, x0, hg, x1, w1])
    rw [ih]
theorem read_text (t : List UInt8) : exN (readE t).1 ≤ 1000000 ∧ exL 1000000 (readE t).1 ∧ (txE (readE t).1 = 0 → smallS (readE t).1 = true → (exT (readE t).1).length ≤ 39000000) := by
  have h0 : exN ex0 ≤ 1000000 ∧ exL 1000000 ex0 ∧ (txE ex0 = 0 → smallS ex0 = true → (exT ex0).length ≤ 39000000) := by
    refine ⟨by simp [ex0, exN, exNs], by simp [ex0, exL, exLs], fun h _ => ?_⟩
    have := (own_parts ex0 (by simpa [ex0, txE, txL] using h)).1
    exact absurd this (by decide)
  unfold readE
  by_cases h : 65536 < t.length
  · rw [if_pos h]; exact h0
  · rw [if_neg h]
    have hs := fun e hp => progR_size t (by omega) e hp
    cases hp : progR t with
    | none => exact h0
    | some e =>
      obtain ⟨q1, q2, q3, q4⟩ := hs e hp
      simp only
      split
      · exact ⟨q1, exL_mono (by omega) e q4, fun _ _ => by simp only [q3]; omega⟩
      · exact h0
theorem d_text (e : Ex) (hN : exN e ≤ 1000000) (hL : exL 1000000 e) (hT : txE e = 0 → smallS e = true → (exT e).length ≤ 39000000) : R K (.call 53 [.agg (exC e)] []) = some (.str (writeS e).1, []) := by
  have h := r_ScalarText e hN hL hT
  rw [call_53]
  simp -implicitDefEqProofs only [go_sem, simprocAttr, Tryz.f53, h, exC_len, exC_take]
  repeat' ((first | apply split_cond | apply split_yes | apply split_no) <;> intro hc <;> simp -implicitDefEqProofs only [hc, go_sem, simprocAttr, h, exC_len, exC_take])
theorem write_small (e : Ex) (hB : exP e) : (writeS e).1.length ≤ 65536 ∧ (writeS e).1.count 41 ≤ 400 := by
  unfold writeS
  cases hq : smallS e with
  | false => rw [if_pos rfl]; simp
  | true =>
    rw [if_neg (by simp)]
    by_cases h0 : txE e = 0
    · rw [if_neg (by simpa using h0)]
      split
      · simp
      · have := exT_count e h0 hB
        have := ((small_iff e).1 hq).1
        exact ⟨by simp only; omega, by simp only; omega⟩
    · rw [if_pos h0]; simp
theorem scalarTexts_of (hL : L.length ≤ 9223372036854775807) : R K (.call 10 [LR L] []) = some (.bool true, []) := by
  have hG : Gd L 0 4611686018427387904 := ⟨by omega, by omega, hL⟩
  obtain ⟨cols, ps, e, a1, x1, q1, q2, q3, q4, q5, q6, q7⟩ := g_scalar hG (by omega)
  obtain ⟨hE, hP⟩ := exB_L e q6
  have hE2 := exL_mono (show 1000 ≤ 1000000 by omega) e hE
  have hT : txE e = 0 → smallS e = true → (exT e).length ≤ 39000000 := fun h _ => by have := exT_len e h hE; omega
  have y1 := c_ExprText e (by omega) hE2 hT
  have y2 := r_ScalarText e (by omega) hE2 hT
  obtain ⟨z1, z2⟩ := write_small e hP
  generalize writeS e = W at y1 y2 z1 z2
  obtain ⟨want, f⟩ := W
  simp only at y1 y2 z1 z2
  have hG1 := hG.step a1 (4611686018427387904 - 200000) (by omega) (by omega)
  obtain ⟨n, hn, x2⟩ := g_Pick hG1 (by omega) [0, 1, 1, 2] (by simp) (by simp)
  have hn2 : 0 ≤ n ∧ n ≤ 2 := by
    simp only [List.mem_cons, List.not_mem_nil, or_false] at hn
    omega
  obtain ⟨n, rfl⟩ := Int.eq_ofNat_of_zero_le hn2.1
  obtain ⟨t, a3, r1, r2, lk⟩ := l_changed (L := L) n _ (exC e) (exC_locs e) n 0 0 (a1 + 1) 4611686018427000000 want _ rfl (hG1.step (a1 + 1) 4611686018427000000 (by omega) (by omega)) (by omega) rfl (by omega) (by omega) (by omega)
  have u1 := c_ExprRead t
  have u2 := r_Read t
  rw [← read_same t (by omega)] at u2
  obtain ⟨v1, v2, v3⟩ := read_text t
  have u3 := d_text _ v1 v2 v3
  generalize readE t = X at u1 u2 u3
  obtain ⟨x, g⟩ := X
  generalize (writeS x).1 = ux at u3
  simp only [List.map_cons, List.map_nil] at x2
  simp only [exC_eq] at lk x1 y1 y2
  rw [call_10]
  simp -implicitDefEqProofs only [go_sem, simprocAttr, Tryz.f10, x1, exC_eq, y1, y2, r_values, bne, beq_self_eq_true, x2]
  repeat' ((first | apply split_cond | apply split_yes | apply split_no) <;> intro hc <;> simp -implicitDefEqProofs only [hc, go_sem, simprocAttr, x1, exC_eq, y1, y2, r_values, bne, beq_self_eq_true, x2])
  rw [lk]
  simp -implicitDefEqProofs only [go_sem, simprocAttr, u1, u2, u3, exC_len, exC_take, beq_self_eq_true]
  repeat' ((first | apply split_cond | apply split_yes | apply split_no) <;> intro hc <;> simp -implicitDefEqProofs only [hc, go_sem, simprocAttr, u1, u2, u3, exC_len, exC_take, beq_self_eq_true])
end
theorem law_scalarTexts (L : List Int) (hL : L.length ≤ 9223372036854775807) : R K (.call 10 [LR L] []) = some (.bool true, []) := scalarTexts_of hL
end Go.Ab
