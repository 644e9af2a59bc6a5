/- What is proved: contracts of the program's and the reference's functions in the evaluator, and plain laws on them. Conditions: as each states. -/
import Derived.Test.YtbeggbbiihhodaaGreatDoorMQ1
set_option linter.unusedSimpArgs false
set_option linter.unusedVariables false
set_option maxRecDepth 100000
namespace Go.Ab
open Go Go.Proofs
theorem v_21 (x : List Tbl) (hx : FitX x) (hR : RightX x) (i : Nat) (hi : i < x.length) (o : List Nat) (t : Tbl) (ht : t ∈ x) (f : Fgn) (hf : f ∈ t.fgn) :
    callV nlA (R K) (wsH x i o) [fgnA f] (.fn 21 [.ptr 0 0, .ptr 1 0, .ptr 2 0, .ptr 3 0]) = some (.bool (waitP x i o f), wsH x i o) := by
  have hk := k_21 x hx hR i hi o t ht f hf
  simp only [wsH, fgnA, fgnC] at hk ⊢
  simp -implicitDefEqProofs only [go_sem, simprocAttr, hk, locsR_bls, renR_bls]
  repeat' ((first | apply split_cond | apply split_yes | apply split_no) <;> intro hc <;> simp -implicitDefEqProofs only [hc, go_sem, simprocAttr, hk, locsR_bls, renR_bls])
theorem c_any21 (x : List Tbl) (hx : FitX x) (hR : RightX x) (i : Nat) (hi : i < x.length) (o : List Nat) (t : Tbl) (ht : x[i]? = some t) :
    R K (.call 20 [.rows (t.fgn.map fgnC), .fn 21 [.ptr 0 0, .ptr 1 0, .ptr 2 0, .ptr 3 0]] (wsH x i o)) = some (.bool (waitB (reachM x) (toL x i) (fun j => o.contains j) i), wsH x i o) := by
  have hm := List.mem_of_getElem? ht
  have hu : under (wsH x i o).length (locsH (wsH x i o)) = true := by
    refine under_of fun l hl => ?_
    simp [wsH, locsH, locsB, locsL, locs, locsR_bls] at hl
    rcases hl with rfl | rfl <;> simp
  have hi2 := c_ixFgn _ (wsH x i o) (waitP x i o) hu t.fgn (hx.tbl t hm).fgn (v_21 x hx hR i hi o t hm)
  have e := ixP_any (waitP x i o) t.fgn 0
  rw [any_waits ht o] at e
  simp only [wsH] at hi2
  rw [call_20]
  simp -implicitDefEqProofs only [go_sem, simprocAttr, Tryz.f20, hi2, e, locsR_bls, renR_bls]
  repeat' ((first | apply split_cond | apply split_yes | apply split_no) <;> intro hc <;> simp -implicitDefEqProofs only [hc, go_sem, simprocAttr, hi2, e, locsR_bls, renR_bls])
abbrev o4H (x : List Tbl) (cs : List (List UInt8)) (o : List Nat) : Heap := [.cells [.rows (x.map tblC)], .cells [reachA x], .cells [.fn 19 [.ptr 1 0]], .rows 1 (SLs cs) false, .rows 1 (bls x.length fun j => o.contains j) true, .cells [.own 4 x.length], .rows 1 (SLs (o.map (nmX x))) false]
theorem bls_add (n i : Nat) (o : List Nat) : (bls n fun j => o.contains j).set i [.bool true] = bls n fun j => (o ++ [i]).contains j := by
  rw [bls_set]
  refine bls_congr fun j _ => ?_
  rw [Bool.eq_iff_iff]
  simp only [List.contains_iff_mem, List.mem_append, List.mem_singleton]
  by_cases h : j = i
  · simp [h]
  · simp [h]
theorem SLs_add {x : List Tbl} {i : Nat} {t : Tbl} (ht : x[i]? = some t) (o : List Nat) : SLs (o.map (nmX x)) ++ [[AV.str t.nm]] = SLs ((o ++ [i]).map (nmX x)) := by
  rw [SLs_app, List.map_append, List.map_singleton, nmX_at ht]
theorem l_or6 (x : List Tbl) (hx : FitX x) (hR : RightX x) (cs : List (List UInt8)) (o : List Nat) (ho : o.length ≤ 1000000) (ks : List It) : ∀ (q i : Nat) (ii : Int) (Bo : Code), Loop Tryz.f6 6 Bo → ii = (i : Int) → x.length = i + q →
    RL K (.run 6 0 (.code Bo :: .lp Bo (some ([1, 7, 8, 9, 10, 14, 59, 60, 61], [])) 7 :: .blk 6 7 :: ks) [(1, .ptr 0 0), (7, I (x.length : Int)), (8, .ptr 2 0), (9, .own 6 o.length), (10, .own 3 cs.length), (14, .ptr 5 0), (59, .rows (x.map tblC)), (60, I (x.length : Int)), (61, I ii)] (o4H x cs o)) =
    match nextF (freeB x o) i q with
    | some k => R K (.run 6 0 ks [(1, .ptr 0 0), (7, I (x.length : Int)), (8, .ptr 2 0), (9, .own 6 (o ++ [k]).length), (10, .own 3 cs.length), (14, .ptr 5 0)] (o4H x cs (o ++ [k])))
    | none => R K (.run 6 0 ks [(1, .ptr 0 0), (7, I (x.length : Int)), (8, .ptr 2 0), (9, .own 6 o.length), (10, .own 3 cs.length), (14, .ptr 5 0)] (o4H x cs o))
  | 0, i, ii, Bo, hB, hi, hq => by
    subst hi
    have d : ¬ (i : Int) < (x.length : Int) := by omega
    simp only [nextF]
    unfold Loop at hB
    simp -implicitDefEqProofs only [go_sem, simprocAttr, Tryz.f6, loopOf] at hB
    subst hB
    rw [RL_eq]
    simp -implicitDefEqProofs only [go_sem, simprocAttr, o4H, d, locsR_SLs, locsR_bls]
    repeat' ((first | apply split_cond | apply split_yes | apply split_no) <;> intro hc <;> simp -implicitDefEqProofs only [hc, go_sem, simprocAttr, o4H, d, locsR_SLs, locsR_bls])
  | q + 1, i, ii, Bo, hB, hi, hq => by
    subst hi
    have hB' := hB
    have hlen := hx.len
    have d : (i : Int) < (x.length : Int) := by omega
    have h7 : wrapI .i64 ((i : Int) + 1) = ((i + 1 : Nat) : Int) := next_id (n := x.length) (by omega) (by omega)
    obtain ⟨t, ht⟩ := some_at (l := x) (i := i) (by omega)
    have hg := tbl_get ht
    have hc := c_any21 x hx hR i (by omega) o t ht
    have b1 := bls_get (n := x.length) (fun j => o.contains j) (show i < x.length by omega)
    have b2 := bls_at (n := x.length) (fun j => o.contains j) (show i < x.length by omega)
    have lb := bls_len x.length (fun j => o.contains j)
    have ba := bls_add x.length i o
    have sa := SLs_add ht o
    have sp : splice [AV.bool false] 0 [.bool true] = [.bool true] := rfl
    have rm : ((o.length + 1) * 17 ≤ roomMax) = True := eq_true (by unfold roomMax; omega)
    have ih := l_or6 x hx hR cs o ho ks q (i + 1) _ Bo hB' rfl (by omega)
    have hN : nextF (freeB x o) i (q + 1) = if freeB x o i = true then some i else nextF (freeB x o) (i + 1) q := rfl
    have hF : freeB x o i = (!o.contains i && !waitB (reachM x) (toL x i) (fun j => o.contains j) i) := rfl
    rw [hN, hF]
    simp only [o4H, List.length_append, List.length_cons, List.length_nil, Nat.zero_add] at ih
    simp only [wsH] at hc
    simp only [tblC] at hg
    cases ho2 : o.contains i with
    | true =>
      rw [ho2] at b1 b2
      simp only [Bool.not_true, Bool.false_and, Bool.false_eq_true, if_false]
      unfold Loop at hB
      simp -implicitDefEqProofs only [go_sem, simprocAttr, Tryz.f6, loopOf] at hB
      subst hB
      rw [RL_eq]
      simp -implicitDefEqProofs only [go_sem, simprocAttr, o4H, tblC, d, h7, hg, List.length_map, locsR_SLs, locsR_bls, renR_bls, hc, b1, b2, lb, Int.toNat_natCast]
      repeat' ((first | apply split_cond | apply split_yes | apply split_no) <;> intro hc <;> simp -implicitDefEqProofs only [hc, go_sem, simprocAttr, o4H, tblC, d, h7, hg, List.length_map, locsR_SLs, locsR_bls, renR_bls, hc, b1, b2, lb, Int.toNat_natCast])
      exact ih
    | false =>
      rw [ho2] at b1 b2
      cases hw : waitB (reachM x) (toL x i) (fun j => o.contains j) i with
      | true =>
        rw [hw] at hc
        simp only [Bool.not_true, Bool.and_false, Bool.false_eq_true, if_false]
        unfold Loop at hB
        simp -implicitDefEqProofs only [go_sem, simprocAttr, Tryz.f6, loopOf] at hB
        subst hB
        rw [RL_eq]
        simp -implicitDefEqProofs only [go_sem, simprocAttr, o4H, tblC, d, h7, hg, List.length_map, locsR_SLs, locsR_bls, renR_bls, hc, b1, b2, lb, Int.toNat_natCast]
        repeat' ((first | apply split_cond | apply split_yes | apply split_no) <;> intro hc <;> simp -implicitDefEqProofs only [hc, go_sem, simprocAttr, o4H, tblC, d, h7, hg, List.length_map, locsR_SLs, locsR_bls, renR_bls, hc, b1, b2, lb, Int.toNat_natCast])
        exact ih
      | false =>
        rw [hw] at hc
        simp only [Bool.not_false, Bool.and_true, if_true]
        unfold Loop at hB
        simp -implicitDefEqProofs only [go_sem, simprocAttr, Tryz.f6, loopOf] at hB
        subst hB
        rw [RL_eq]
        simp -implicitDefEqProofs only [go_sem, simprocAttr, o4H, tblC, d, h7, hg, List.length_map, locsR_SLs, locsR_bls, renR_bls, hc, b1, b2, lb, ba, sa, sp, rm, SLs_len, List.length_append, Int.toNat_natCast]
        repeat' ((first | apply split_cond | apply split_yes | apply split_no) <;> intro hc <;> simp -implicitDefEqProofs only [hc, go_sem, simprocAttr, o4H, tblC, d, h7, hg, List.length_map, locsR_SLs, locsR_bls, renR_bls, hc, b1, b2, lb, ba, sa, sp, rm, SLs_len, List.length_append, Int.toNat_natCast])
theorem l_or4 (x : List Tbl) (hx : FitX x) (hR : RightX x) (cs : List (List UInt8)) (ks : List It) : ∀ (m : Nat) (o : List Nat) (Bo : Code), Loop Tryz.f6 4 Bo → x.length = o.length + m →
    RL K (.run 6 0 (.code Bo :: .lp Bo (some ([1, 7, 8, 9, 10, 14], [])) 7 :: .blk 4 7 :: ks) [(1, .ptr 0 0), (7, I (x.length : Int)), (8, .ptr 2 0), (9, .own 6 o.length), (10, .own 3 cs.length), (14, .ptr 5 0)] (o4H x cs o)) =
    R K (.run 6 0 ks [(9, .own 6 (ordN x m o).length), (10, .own 3 cs.length)] (o4H x cs (ordN x m o)))
  | 0, o, Bo, hB, hq => by
    have d : ¬ (o.length : Int) < (x.length : Int) := by omega
    simp only [ordN]
    unfold Loop at hB
    simp -implicitDefEqProofs only [go_sem, simprocAttr, Tryz.f6, loopOf] at hB
    subst hB
    rw [RL_eq]
    simp -implicitDefEqProofs only [go_sem, simprocAttr, o4H, d, locsR_SLs, locsR_bls]
    repeat' ((first | apply split_cond | apply split_yes | apply split_no) <;> intro hc <;> simp -implicitDefEqProofs only [hc, go_sem, simprocAttr, o4H, d, locsR_SLs, locsR_bls])
  | m + 1, o, Bo, hB, hq => by
    have hB' := hB
    have hlen := hx.len
    have d : (o.length : Int) < (x.length : Int) := by omega
    obtain ⟨i, e1, _, _⟩ := next_is hR o (by omega)
    have l6 := fun ks B hB => l_or6 x hx hR cs o (by omega) ks x.length 0 0 B hB rfl (by omega)
    have ih := l_or4 x hx hR cs ks m (o ++ [i]) _ hB' (by simp; omega)
    have hN : ordN x (m + 1) o = ordN x m (o ++ [i]) := by simp only [ordN]; rw [e1]
    rw [hN]
    rw [e1] at l6
    simp only at l6
    simp only [o4H, List.length_append, List.length_cons, List.length_nil, Nat.zero_add] at l6 ih
    unfold Loop at hB
    simp -implicitDefEqProofs only [go_sem, simprocAttr, Tryz.f6, loopOf] at hB
    subst hB
    rw [RL_eq]
    simp -implicitDefEqProofs only [go_sem, simprocAttr, o4H, d, List.length_map]
    repeat' ((first | apply split_cond | apply split_yes | apply split_no) <;> intro hc <;> simp -implicitDefEqProofs only [hc, go_sem, simprocAttr, o4H, d, List.length_map])
    rw [l6 _ _ ?_]
    · simp -implicitDefEqProofs only [go_sem, simprocAttr, locsR_SLs, locsR_bls]
      repeat' ((first | apply split_cond | apply split_yes | apply split_no) <;> intro hc <;> simp -implicitDefEqProofs only [hc, go_sem, simprocAttr, locsR_SLs, locsR_bls])
      exact ih
    · rfl
def ordS (x : List Tbl) : AV := .rows (SLs ((ordN x x.length []).map (nmX x)))
def cirS (x : List Tbl) : AV := .rows (SLs ((circN x 0 x.length).map (nmX x)))
theorem c_Order (x : List Tbl) (hx : FitX x) : R K (.call 6 [schC x] []) = some (if chkE x = 0 then .tup [ordS x, cirS x, I 0] else .tup [.rows [], .rows [], I (chkE x)], []) := by
  have hl := hx.len
  have g1 := c_CheckSchema x hx
  by_cases h0 : chkE x = 0
  · rw [if_pos h0]
    have hR := chk_right h0
    rw [h0] at g1
    have g2 := c_reaches x hx hR
    have l0 := fun ks B hB => l_or0 x hx ks x.length 0 [] 0 B hB rfl (by omega) (by simp)
    have l4 := fun ks B hB => l_or4 x hx hR ((circN x 0 x.length).map (nmX x)) ks x.length [] B hB (by simp)
    have mk := fun h => mk60 h x.length hl
    simp only [orH, List.nil_append] at l0
    simp only [o4H, List.contains_nil, List.map_nil, List.length_nil] at l4
    rw [call_6]
    simp -implicitDefEqProofs only [go_sem, simprocAttr, Tryz.f6, List.length_map, g1, g2]
    repeat' ((first | apply split_cond | apply split_yes | apply split_no) <;> intro hc <;> simp -implicitDefEqProofs only [hc, go_sem, simprocAttr, List.length_map, g1, g2])
    rw [show (AV.own 3 0) = AV.own 3 ([] : List (List UInt8)).length from rfl, show ([] : List (List AV)) = SLs [] from rfl, l0 _ _ ?_]
    · simp -implicitDefEqProofs only [go_sem, simprocAttr, locsR_SLs, mk, List.length_map]
      repeat' ((first | apply split_cond | apply split_yes | apply split_no) <;> intro hc <;> simp -implicitDefEqProofs only [hc, go_sem, simprocAttr, locsR_SLs, mk, List.length_map])
      rw [show (circN x 0 x.length).length = ((circN x 0 x.length).map (nmX x)).length by rw [List.length_map], l4 _ _ ?_]
      · simp -implicitDefEqProofs only [go_sem, simprocAttr, locsR_SLs, List.length_map, SLs_len]
        repeat' ((first | apply split_cond | apply split_yes | apply split_no) <;> intro hc <;> simp -implicitDefEqProofs only [hc, go_sem, simprocAttr, locsR_SLs, List.length_map, SLs_len])
        rfl
      · rfl
    · rfl
  · rw [if_neg h0]
    have dz : (chkE x == 0) = false := by simpa using h0
    rw [call_6]
    simp -implicitDefEqProofs only [go_sem, simprocAttr, Tryz.f6, List.length_map, g1, bne, dz]
    repeat' ((first | apply split_cond | apply split_yes | apply split_no) <;> intro hc <;> simp -implicitDefEqProofs only [hc, go_sem, simprocAttr, List.length_map, g1, bne, dz])
abbrev ooH (x : List Tbl) (v : AV) (ns : List (List UInt8)) : Heap := [.cells [.rows (x.map tblC)], .cells [v], .cells [reachA x], .rows 1 (SLs ns) false]
theorem if_app (ns : List (List UInt8)) (s : List UInt8) (h : ns.contains s = false) (b : Bool) : (ns ++ if b = true then [s] else []).contains s = b := by
  cases b with
  | true =>
    rw [List.contains_iff_mem]
    simp
  | false => simpa using h
theorem l_oo2 (x : List Tbl) (hx : FitX x) (i : Nat) (hi : i < x.length) (t : Tbl) (ns : List (List UInt8)) (hns : ns.length ≤ 100000) (hno : ns.contains t.nm = false) (ks : List It) : ∀ (q k : Nat) (b : Bool) (kk : Int) (Bo : Code), Loop Tryz.f9 2 Bo → kk = (k : Int) → x.length = k + q →
    RL K (.run 9 0 (.code Bo :: .lp Bo (some ([1, 2, 3, 4, 5, 6, 14, 15, 16, 23, 24], [])) 5 :: .blk 2 5 :: ks) [(1, .ptr 0 0), (2, .ptr 1 0), (3, .own 3 (ns ++ if b = true then [t.nm] else []).length), (4, .ptr 2 0), (5, I (i : Int)), (6, .ptr 4 0), (14, .rows (x.map tblC)), (15, I (x.length : Int)), (16, I (i : Int)), (23, I (x.length : Int)), (24, I kk)] (ooH x .nils (ns ++ if b = true then [t.nm] else []) ++ [.cells (tblC t)])) =
    R K (.run 9 0 ks [(1, .ptr 0 0), (2, .ptr 1 0), (3, .own 3 (ns ++ if (b || anyF (circB x i) k q) = true then [t.nm] else []).length), (4, .ptr 2 0), (14, .rows (x.map tblC)), (15, I (x.length : Int)), (16, I (i : Int))] (ooH x .nils (ns ++ if (b || anyF (circB x i) k q) = true then [t.nm] else []) ++ [.cells (tblC t)]))
  | 0, k, b, kk, Bo, hB, hk, hq => by
    subst hk
    have d : ¬ (k : Int) < (x.length : Int) := by omega
    simp only [anyF, Bool.or_false]
    generalize (ns ++ if b = true then [t.nm] else []) = ms
    unfold Loop at hB
    simp -implicitDefEqProofs only [go_sem, simprocAttr, Tryz.f9, loopOf] at hB
    subst hB
    rw [RL_eq]
    simp -implicitDefEqProofs only [go_sem, simprocAttr, ooH, tblC, d]
    repeat' ((first | apply split_cond | apply split_yes | apply split_no) <;> intro hc <;> simp -implicitDefEqProofs only [hc, go_sem, simprocAttr, ooH, tblC, d])
  | q + 1, k, b, kk, Bo, hB, hk, hq => by
    subst hk
    have hB' := hB
    have hlen := hx.len
    have d : (k : Int) < (x.length : Int) := by omega
    have h7 : wrapI .i64 ((k : Int) + 1) = ((k + 1 : Nat) : Int) := next_id (n := x.length) (by omega) (by omega)
    have g1 := reach_get hi
    have g2 := reach_get (x := x) (show k < x.length by omega)
    have b1 := reach_bit (x := x) (i := i) (show k < x.length by omega)
    have b2 := reach_bit (x := x) (i := k) hi
    have e0 : ((k : Int) == (i : Int)) = (i == k) := by rw [Bool.eq_iff_iff, beq_iff_eq, beq_iff_eq]; omega
    have eN : (b || anyF (circB x i) k (q + 1)) = ((b || circB x i k) || anyF (circB x i) (k + 1) q) := by simp only [anyF, Bool.or_assoc]
    have ih := l_oo2 x hx i hi t ns hns hno ks q (k + 1) (b || circB x i k) _ Bo hB' rfl (by omega)
    have hlm : (ns ++ if b = true then [t.nm] else []).length ≤ 1000000 := by rw [List.length_append]; split <;> simp <;> omega
    have hcn := c_contains t.nm (ns ++ if b = true then [t.nm] else []) hlm
    rw [if_app ns t.nm hno b] at hcn
    have rm : (((ns ++ if b = true then [t.nm] else []).length + 1) * 17 ≤ roomMax) = True := eq_true (by unfold roomMax; omega)
    rw [eN]
    have cB : circB x i k = (!(i == k) && (reachM x i k && reachM x k i)) := rfl
    rw [cB] at ih ⊢
    generalize anyF (circB x i) (k + 1) q = z at *
    generalize reachM x i k = u at *
    generalize reachM x k i = v at *
    cases he : (i == k) with
    | true =>
      rw [he] at e0 ih
      simp only [Bool.not_true, Bool.false_and, Bool.or_false] at ih ⊢
      generalize (ns ++ if b = true then [t.nm] else []) = ms at *
      simp only [ooH, tblC, List.cons_append, List.nil_append] at ih
      unfold Loop at hB
      simp -implicitDefEqProofs only [go_sem, simprocAttr, Tryz.f9, loopOf] at hB
      subst hB
      rw [RL_eq]
      simp -implicitDefEqProofs only [go_sem, simprocAttr, ooH, tblC, d, h7, e0, bne]
      repeat' ((first | apply split_cond | apply split_yes | apply split_no) <;> intro hc <;> simp -implicitDefEqProofs only [hc, go_sem, simprocAttr, ooH, tblC, d, h7, e0, bne])
      rw [ih, List.length_append]
    | false =>
      rw [he] at e0 ih
      cases u with
      | false =>
        simp only [Bool.not_false, Bool.and_false, Bool.false_and, Bool.or_false] at ih ⊢
        generalize (ns ++ if b = true then [t.nm] else []) = ms at *
        simp only [ooH, tblC, List.cons_append, List.nil_append] at ih
        unfold Loop at hB
        simp -implicitDefEqProofs only [go_sem, simprocAttr, Tryz.f9, loopOf] at hB
        subst hB
        rw [RL_eq]
        simp -implicitDefEqProofs only [go_sem, simprocAttr, ooH, tblC, d, h7, e0, bne, g1, g2, b1, b2]
        repeat' ((first | apply split_cond | apply split_yes | apply split_no) <;> intro hc <;> simp -implicitDefEqProofs only [hc, go_sem, simprocAttr, ooH, tblC, d, h7, e0, bne, g1, g2, b1, b2])
        rw [ih, List.length_append]
      | true =>
        cases v with
        | false =>
          simp only [Bool.not_false, Bool.and_false, Bool.or_false] at ih ⊢
          generalize (ns ++ if b = true then [t.nm] else []) = ms at *
          simp only [ooH, tblC, List.cons_append, List.nil_append] at ih
          unfold Loop at hB
          simp -implicitDefEqProofs only [go_sem, simprocAttr, Tryz.f9, loopOf] at hB
          subst hB
          rw [RL_eq]
          simp -implicitDefEqProofs only [go_sem, simprocAttr, ooH, tblC, d, h7, e0, bne, g1, g2, b1, b2]
          repeat' ((first | apply split_cond | apply split_yes | apply split_no) <;> intro hc <;> simp -implicitDefEqProofs only [hc, go_sem, simprocAttr, ooH, tblC, d, h7, e0, bne, g1, g2, b1, b2])
          rw [ih, List.length_append]
        | true =>
          cases b with
          | true =>
            simp only [Bool.not_false, Bool.and_true, Bool.or_true, Bool.true_or, if_true] at ih hcn hlm rm ⊢
            generalize (ns ++ [t.nm]) = ms at *
            simp only [ooH, tblC, List.cons_append, List.nil_append] at ih
            unfold Loop at hB
            simp -implicitDefEqProofs only [go_sem, simprocAttr, Tryz.f9, loopOf] at hB
            subst hB
            rw [RL_eq]
            simp -implicitDefEqProofs only [go_sem, simprocAttr, ooH, tblC, d, h7, e0, bne, g1, g2, b1, b2, locsR_SLs, SLs_len, hcn]
            repeat' ((first | apply split_cond | apply split_yes | apply split_no) <;> intro hc <;> simp -implicitDefEqProofs only [hc, go_sem, simprocAttr, ooH, tblC, d, h7, e0, bne, g1, g2, b1, b2, locsR_SLs, SLs_len, hcn])
            rw [ih]
          | false =>
            simp only [Bool.not_false, Bool.and_true, Bool.or_true, Bool.true_or, if_true, Bool.false_eq_true, if_false, List.append_nil] at ih hcn hlm rm ⊢
            simp only [ooH, tblC, List.cons_append, List.nil_append, List.length_append, List.length_cons, List.length_nil, Nat.zero_add] at ih
            unfold Loop at hB
            simp -implicitDefEqProofs only [go_sem, simprocAttr, Tryz.f9, loopOf] at hB
            subst hB
            rw [RL_eq]
            simp -implicitDefEqProofs only [go_sem, simprocAttr, ooH, tblC, d, h7, e0, bne, g1, g2, b1, b2, locsR_SLs, SLs_len, hcn, rm, SLs_app, List.length_append, List.length_cons, List.length_nil, Nat.zero_add]
            repeat' ((first | apply split_cond | apply split_yes | apply split_no) <;> intro hc <;> simp -implicitDefEqProofs only [hc, go_sem, simprocAttr, ooH, tblC, d, h7, e0, bne, g1, g2, b1, b2, locsR_SLs, SLs_len, hcn, rm, SLs_app, List.length_append, List.length_cons, List.length_nil, Nat.zero_add])
            rw [ih]
theorem l_oo0 (x : List Tbl) (hx : FitX x) (hR : RightX x) (hn : x.length ≤ 60) (ks : List It) : ∀ (q i : Nat) (C : List Nat) (ii : Int) (Bo : Code), Loop Tryz.f9 0 Bo → ii = (i : Int) → x.length = i + q → (∀ c ∈ C, c < i) → C.length ≤ i →
    RL K (.run 9 0 (.code Bo :: .lp Bo (some ([1, 2, 3, 4, 14, 15, 16], [])) 4 :: .blk 0 4 :: ks) [(1, .ptr 0 0), (2, .ptr 1 0), (3, .own 3 (C.map (nmX x)).length), (4, .ptr 2 0), (14, .rows (x.map tblC)), (15, I (x.length : Int)), (16, I ii)] (ooH x .nils (C.map (nmX x)))) =
    R K (.run 9 0 ks [(1, .ptr 0 0), (2, .ptr 1 0), (3, .own 3 ((C ++ circN x i q).map (nmX x)).length), (4, .ptr 2 0)] (ooH x .nils ((C ++ circN x i q).map (nmX x))))
  | 0, i, C, ii, Bo, hB, hi, hq, hC, hl => by
    subst hi
    have d : ¬ (i : Int) < (x.length : Int) := by omega
    simp only [circN, List.append_nil]
    generalize C.map (nmX x) = ms
    unfold Loop at hB
    simp -implicitDefEqProofs only [go_sem, simprocAttr, Tryz.f9, loopOf] at hB
    subst hB
    rw [RL_eq]
    simp -implicitDefEqProofs only [go_sem, simprocAttr, ooH, d]
    repeat' ((first | apply split_cond | apply split_yes | apply split_no) <;> intro hc <;> simp -implicitDefEqProofs only [hc, go_sem, simprocAttr, ooH, d])
  | q + 1, i, C, ii, Bo, hB, hi, hq, hC, hl => by
    subst hi
    have hB' := hB
    have d : (i : Int) < (x.length : Int) := by omega
    have h7 : wrapI .i64 ((i : Int) + 1) = ((i + 1 : Nat) : Int) := next_id (n := x.length) (by omega) (by omega)
    obtain ⟨t, ht⟩ := some_at (l := x) (i := i) (by omega)
    have hg := tbl_get ht
    have hno : (C.map (nmX x)).contains t.nm = false := by
      rw [← nmX_at ht, in_names hR (fun j hj => by have := hC j hj; omega) (by omega)]
      cases e : C.contains i with
      | false => rfl
      | true =>
        have := hC i (by simpa using e)
        omega
    have l2 := fun ks B hB => l_oo2 x hx i (by omega) t (C.map (nmX x)) (by rw [List.length_map]; omega) hno ks x.length 0 false 0 B hB rfl (by omega)
    have hC2 : ∀ c ∈ C ++ (if anyF (circB x i) 0 x.length = true then [i] else []), c < i + 1 := by
      intro c hc
      rcases List.mem_append.1 hc with h | h
      · have := hC c h; omega
      · split at h
        · simp at h; omega
        · simp at h
    have hl2 : (C ++ if anyF (circB x i) 0 x.length = true then [i] else []).length ≤ i + 1 := by
      rw [List.length_append]; split <;> simp <;> omega
    have ih := l_oo0 x hx hR hn ks q (i + 1) (C ++ if anyF (circB x i) 0 x.length = true then [i] else []) _ Bo hB' rfl (by omega) hC2 hl2
    have e : C ++ circN x i (q + 1) = (C ++ if anyF (circB x i) 0 x.length = true then [i] else []) ++ circN x (i + 1) q := by
      rw [List.append_assoc]; rfl
    have e2 : (C.map (nmX x) ++ if anyF (circB x i) 0 x.length = true then [t.nm] else []) = (C ++ if anyF (circB x i) 0 x.length = true then [i] else []).map (nmX x) := by
      rw [List.map_append]
      split
      · rw [List.map_singleton, nmX_at ht]
      · rfl
    rw [e]
    simp only [Bool.false_or, Bool.false_eq_true, if_false, List.append_nil] at l2
    rw [e2] at l2
    generalize (C ++ if anyF (circB x i) 0 x.length = true then [i] else []) = D at *
    generalize (D ++ circN x (i + 1) q).map (nmX x) = fs at *
    generalize C.map (nmX x) = cs at *
    generalize D.map (nmX x) = ds at *
    simp only [ooH, tblC, List.cons_append, List.nil_append] at hg l2 ih
    unfold Loop at hB
    simp -implicitDefEqProofs only [go_sem, simprocAttr, Tryz.f9, loopOf] at hB
    subst hB
    rw [RL_eq]
    simp -implicitDefEqProofs only [go_sem, simprocAttr, ooH, tblC, d, h7, hg, List.length_map]
    repeat' ((first | apply split_cond | apply split_yes | apply split_no) <;> intro hc <;> simp -implicitDefEqProofs only [hc, go_sem, simprocAttr, ooH, tblC, d, h7, hg, List.length_map])
    rw [l2 _ _ ?_]
    · simp -implicitDefEqProofs only [go_sem, simprocAttr, h7, locsR_SLs]
      repeat' ((first | apply split_cond | apply split_yes | apply split_no) <;> intro hc <;> simp -implicitDefEqProofs only [hc, go_sem, simprocAttr, h7, locsR_SLs])
      rw [ih]
    · rfl
abbrev waH (x : List Tbl) (i : Nat) : Heap := [.cells [.rows (x.map tblC)], .cells [I (i : Int)], .cells [.nils], .cells [reachA x]]
abbrev wbH (x : List Tbl) (i : Nat) (o : List Nat) : Heap := [.cells [.rows (x.map tblC)], .cells [I (i : Int)], .cells [.own 4 o.length], .cells [reachA x], .rows 1 (SLs (o.map (nmX x))) false]
theorem k_38a (x : List Tbl) (hx : FitX x) (hR : RightX x) (i : Nat) (hi : i < x.length) (t : Tbl) (ht : t ∈ x) (f : Fgn) (hf : f ∈ t.fgn) :
    R K (.call 38 [fgnA f, .ptr 0 0, .ptr 1 0, .ptr 2 0, .ptr 3 0] (waH x i)) = some (.bool (waitP x i [] f), waH x i) := by
  obtain ⟨n1, n2, n3⟩ := toN_is hR ht hf
  have g1 := r_TableAt x f.tb hx.len
  rw [n3] at g1
  have hcn : R K (.call 37 [.rows [], .str f.tb] []) = some (.bool false, []) := c_contains f.tb [] (by simp)
  unfold waitP
  generalize toN x f = j at *
  have e0 : ((j : Int) == (i : Int)) = (j == i) := by rw [Bool.eq_iff_iff, beq_iff_eq, beq_iff_eq]; omega
  have r1 := reach_get hi
  have r2 := reach_get n1
  have b1 := reach_bit (x := x) (i := i) n1
  have b2 := reach_bit (x := x) (i := j) hi
  simp only [List.contains_nil]
  generalize reachM x i j = u at *
  generalize reachM x j i = v at *
  cases he : (j == i) with
  | true =>
    rw [he] at e0
    rw [call_38]
    simp -implicitDefEqProofs only [go_sem, simprocAttr, Tryz.f38, fgnC, g1, e0, bne]
    repeat' ((first | apply split_cond | apply split_yes | apply split_no) <;> intro hc <;> simp -implicitDefEqProofs only [hc, go_sem, simprocAttr, fgnC, g1, e0, bne])
    all_goals rfl
  | false =>
    rw [he] at e0
    cases u with
    | true =>
      rw [call_38]
      simp -implicitDefEqProofs only [go_sem, simprocAttr, Tryz.f38, fgnC, g1, e0, bne, hcn, r1, r2, b1, b2]
      repeat' ((first | apply split_cond | apply split_yes | apply split_no) <;> intro hc <;> simp -implicitDefEqProofs only [hc, go_sem, simprocAttr, fgnC, g1, e0, bne, hcn, r1, r2, b1, b2])
      all_goals rfl
    | false =>
      rw [call_38]
      simp -implicitDefEqProofs only [go_sem, simprocAttr, Tryz.f38, fgnC, g1, e0, bne, hcn, r1, r2, b1, b2]
      repeat' ((first | apply split_cond | apply split_yes | apply split_no) <;> intro hc <;> simp -implicitDefEqProofs only [hc, go_sem, simprocAttr, fgnC, g1, e0, bne, hcn, r1, r2, b1, b2])
      all_goals rfl
theorem k_38b (x : List Tbl) (hx : FitX x) (hR : RightX x) (i : Nat) (hi : i < x.length) (o : List Nat) (ho : ∀ j ∈ o, j < x.length) (hl : o.length ≤ 1000000) (t : Tbl) (ht : t ∈ x) (f : Fgn) (hf : f ∈ t.fgn) :
    R K (.call 38 [fgnA f, .ptr 0 0, .ptr 1 0, .ptr 2 0, .ptr 3 0] (wbH x i o)) = some (.bool (waitP x i o f), wbH x i o) := by
  obtain ⟨n1, n2, n3⟩ := toN_is hR ht hf
  have g1 := r_TableAt x f.tb hx.len
  rw [n3] at g1
  have hcn := c_contains f.tb (o.map (nmX x)) (by rw [List.length_map]; exact hl)
  have lo : (SLs (o.map (nmX x))).length = o.length := by rw [SLs_len, List.length_map]
  rw [← n2, in_names hR ho n1, n2] at hcn
  unfold waitP
  generalize toN x f = j at *
  have e0 : ((j : Int) == (i : Int)) = (j == i) := by rw [Bool.eq_iff_iff, beq_iff_eq, beq_iff_eq]; omega
  have r1 := reach_get hi
  have r2 := reach_get n1
  have b1 := reach_bit (x := x) (i := i) n1
  have b2 := reach_bit (x := x) (i := j) hi
  generalize reachM x i j = u at *
  generalize reachM x j i = v at *
  generalize o.contains j = c at *
  cases he : (j == i) with
  | true =>
    rw [he] at e0
    rw [call_38]
    simp -implicitDefEqProofs only [go_sem, simprocAttr, Tryz.f38, fgnC, g1, e0, bne, locsR_SLs, lo]
    repeat' ((first | apply split_cond | apply split_yes | apply split_no) <;> intro hc <;> simp -implicitDefEqProofs only [hc, go_sem, simprocAttr, fgnC, g1, e0, bne, locsR_SLs, lo])
    all_goals rfl
  | false =>
    rw [he] at e0
    cases c with
    | true =>
      rw [call_38]
      simp -implicitDefEqProofs only [go_sem, simprocAttr, Tryz.f38, fgnC, g1, e0, bne, hcn, r1, r2, b1, b2, locsR_SLs, lo]
      repeat' ((first | apply split_cond | apply split_yes | apply split_no) <;> intro hc <;> simp -implicitDefEqProofs only [hc, go_sem, simprocAttr, fgnC, g1, e0, bne, hcn, r1, r2, b1, b2, locsR_SLs, lo])
      all_goals rfl
    | false =>
      cases u with
      | true =>
        rw [call_38]
        simp -implicitDefEqProofs only [go_sem, simprocAttr, Tryz.f38, fgnC, g1, e0, bne, hcn, r1, r2, b1, b2, locsR_SLs, lo]
        repeat' ((first | apply split_cond | apply split_yes | apply split_no) <;> intro hc <;> simp -implicitDefEqProofs only [hc, go_sem, simprocAttr, fgnC, g1, e0, bne, hcn, r1, r2, b1, b2, locsR_SLs, lo])
        all_goals rfl
      | false =>
        rw [call_38]
        simp -implicitDefEqProofs only [go_sem, simprocAttr, Tryz.f38, fgnC, g1, e0, bne, hcn, r1, r2, b1, b2, locsR_SLs, lo]
        repeat' ((first | apply split_cond | apply split_yes | apply split_no) <;> intro hc <;> simp -implicitDefEqProofs only [hc, go_sem, simprocAttr, fgnC, g1, e0, bne, hcn, r1, r2, b1, b2, locsR_SLs, lo])
        all_goals rfl
theorem renR_SLs (σ : Nat → Nat) : ∀ l : List (List UInt8), renR σ (SLs l) = SLs l
  | [] => rfl
  | s :: l => by
    have := renR_SLs σ l
    simp only [SLs, List.map_cons, renR, renL, ren] at this ⊢
    rw [this]
theorem v_38a (x : List Tbl) (hx : FitX x) (hR : RightX x) (i : Nat) (hi : i < x.length) (t : Tbl) (ht : t ∈ x) (f : Fgn) (hf : f ∈ t.fgn) :
    callV nlA (R K) (waH x i) [fgnA f] (.fn 38 [.ptr 0 0, .ptr 1 0, .ptr 2 0, .ptr 3 0]) = some (.bool (waitP x i [] f), waH x i) := by
  have hk := k_38a x hx hR i hi t ht f hf
  simp only [waH, fgnA, fgnC] at hk ⊢
  simp -implicitDefEqProofs only [go_sem, simprocAttr, hk]
  repeat' ((first | apply split_cond | apply split_yes | apply split_no) <;> intro hc <;> simp -implicitDefEqProofs only [hc, go_sem, simprocAttr, hk])
theorem v_38b (x : List Tbl) (hx : FitX x) (hR : RightX x) (i : Nat) (hi : i < x.length) (o : List Nat) (ho : ∀ j ∈ o, j < x.length) (hl : o.length ≤ 1000000) (t : Tbl) (ht : t ∈ x) (f : Fgn) (hf : f ∈ t.fgn) :
    callV nlA (R K) (wbH x i o) [fgnA f] (.fn 38 [.ptr 0 0, .ptr 1 0, .ptr 2 0, .ptr 3 0]) = some (.bool (waitP x i o f), wbH x i o) := by
  have hk := k_38b x hx hR i hi o ho hl t ht f hf
  have lo : (SLs (o.map (nmX x))).length = o.length := by rw [SLs_len, List.length_map]
  simp only [wbH, fgnA, fgnC] at hk ⊢
  simp -implicitDefEqProofs only [go_sem, simprocAttr, hk, locsR_SLs, renR_SLs, lo]
  repeat' ((first | apply split_cond | apply split_yes | apply split_no) <;> intro hc <;> simp -implicitDefEqProofs only [hc, go_sem, simprocAttr, hk, locsR_SLs, renR_SLs, lo])
theorem c_any38a (x : List Tbl) (hx : FitX x) (hR : RightX x) (i : Nat) (hi : i < x.length) (t : Tbl) (ht : x[i]? = some t) :
    R K (.call 20 [.rows (t.fgn.map fgnC), .fn 38 [.ptr 0 0, .ptr 1 0, .ptr 2 0, .ptr 3 0]] (waH x i)) = some (.bool (waitB (reachM x) (toL x i) (fun j => ([] : List Nat).contains j) i), waH x i) := by
  have hm := List.mem_of_getElem? ht
  have hi2 := c_ixFgn _ (waH x i) (waitP x i []) rfl t.fgn (hx.tbl t hm).fgn (v_38a x hx hR i hi t hm)
  have e := ixP_any (waitP x i []) t.fgn 0
  rw [any_waits ht []] at e
  simp only [waH] at hi2
  rw [call_20]
  simp -implicitDefEqProofs only [go_sem, simprocAttr, Tryz.f20, hi2, e]
  repeat' ((first | apply split_cond | apply split_yes | apply split_no) <;> intro hc <;> simp -implicitDefEqProofs only [hc, go_sem, simprocAttr, hi2, e])
theorem c_any38b (x : List Tbl) (hx : FitX x) (hR : RightX x) (i : Nat) (hi : i < x.length) (o : List Nat) (ho : ∀ j ∈ o, j < x.length) (hl : o.length ≤ 1000000) (t : Tbl) (ht : x[i]? = some t) :
    R K (.call 20 [.rows (t.fgn.map fgnC), .fn 38 [.ptr 0 0, .ptr 1 0, .ptr 2 0, .ptr 3 0]] (wbH x i o)) = some (.bool (waitB (reachM x) (toL x i) (fun j => o.contains j) i), wbH x i o) := by
  have hm := List.mem_of_getElem? ht
  have hu : under (wbH x i o).length (locsH (wbH x i o)) = true := by
    refine under_of fun l hl => ?_
    simp only [locsH, locsB, locsL, locs, locsR_SLs, List.append_nil, List.nil_append, List.mem_cons, List.not_mem_nil, or_false] at hl
    subst hl
    simp
  have lo : (SLs (o.map (nmX x))).length = o.length := by rw [SLs_len, List.length_map]
  have hi2 := c_ixFgn _ (wbH x i o) (waitP x i o) hu t.fgn (hx.tbl t hm).fgn (v_38b x hx hR i hi o ho hl t hm)
  have e := ixP_any (waitP x i o) t.fgn 0
  rw [any_waits ht o] at e
  simp only [wbH] at hi2
  rw [call_20]
  simp -implicitDefEqProofs only [go_sem, simprocAttr, Tryz.f20, hi2, e, locsR_SLs, renR_SLs, lo]
  repeat' ((first | apply split_cond | apply split_yes | apply split_no) <;> intro hc <;> simp -implicitDefEqProofs only [hc, go_sem, simprocAttr, hi2, e, locsR_SLs, renR_SLs, lo])
abbrev o7H (x : List Tbl) (cs : List (List UInt8)) (i0 : Nat) (t0 : Tbl) (o : List Nat) : Heap := [.cells [.rows (x.map tblC)], .cells [.own 6 o.length], .cells [reachA x], .rows 1 (SLs cs) false, .cells [I (i0 : Int)], .cells (tblC t0), .rows 1 (SLs (o.map (nmX x))) false]
theorem l_oo6a (x : List Tbl) (hx : FitX x) (hR : RightX x) (cs : List (List UInt8)) (k : Nat) (tk : Tbl) (htk : x[k]? = some tk) (ks : List It) : ∀ (q i : Nat) (ii : Int) (Bo : Code), Loop Tryz.f9 6 Bo → ii = (i : Int) → x.length = i + q → nextF (freeB x []) i q = some k →
    RL K (.run 9 0 (.code Bo :: .lp Bo (some ([1, 2, 3, 4, 69, 70, 71], [])) 4 :: .blk 6 4 :: ks) [(1, .ptr 0 0), (2, .ptr 1 0), (3, .own 3 cs.length), (4, .ptr 2 0), (69, .rows (x.map tblC)), (70, I (x.length : Int)), (71, I ii)] (ooH x .nils cs)) =
    R K (.run 9 0 ks [(1, .ptr 0 0), (2, .ptr 1 0), (3, .own 3 cs.length), (4, .ptr 2 0)] (o7H x cs k tk [k]))
  | 0, i, ii, Bo, hB, hi, hq, hk => by simp [nextF] at hk
  | q + 1, i, ii, Bo, hB, hi, hq, hk => by
    subst hi
    have hB' := hB
    have hlen := hx.len
    have d : (i : Int) < (x.length : Int) := by omega
    have h7 : wrapI .i64 ((i : Int) + 1) = ((i + 1 : Nat) : Int) := next_id (n := x.length) (by omega) (by omega)
    obtain ⟨t, ht⟩ := some_at (l := x) (i := i) (by omega)
    have hg := tbl_get ht
    have hc := c_any38a x hx hR i (by omega) t ht
    have hcn : R K (.call 37 [.rows [], .str t.nm] []) = some (.bool false, []) := c_contains t.nm [] (by simp)
    have ih := fun hk => l_oo6a x hx hR cs k tk htk ks q (i + 1) _ Bo hB' rfl (by omega) hk
    have hF : freeB x [] i = !waitB (reachM x) (toL x i) (fun j => ([] : List Nat).contains j) i := rfl
    have hN : nextF (freeB x []) i (q + 1) = if freeB x [] i = true then some i else nextF (freeB x []) (i + 1) q := rfl
    have rm : (17 ≤ roomMax) = True := eq_true (by unfold roomMax; omega)
    rw [hN, hF] at hk
    simp only [waH] at hc
    simp only [tblC] at hg
    cases hw : waitB (reachM x) (toL x i) (fun j => ([] : List Nat).contains j) i with
    | true =>
      rw [hw] at hc hk
      have ih := ih (by simpa using hk)
      simp only [ooH, o7H] at ih
      unfold Loop at hB
      simp -implicitDefEqProofs only [go_sem, simprocAttr, Tryz.f9, loopOf] at hB
      subst hB
      rw [RL_eq]
      simp -implicitDefEqProofs only [go_sem, simprocAttr, ooH, tblC, d, h7, hg, List.length_map, locsR_SLs, hc]
      repeat' ((first | apply split_cond | apply split_yes | apply split_no) <;> intro hc <;> simp -implicitDefEqProofs only [hc, go_sem, simprocAttr, ooH, tblC, d, h7, hg, List.length_map, locsR_SLs, hc])
      exact ih
    | false =>
      rw [hw] at hc hk
      have ek : i = k := by simpa using hk
      subst ek
      rw [ht] at htk
      obtain rfl := Option.some.inj htk
      have en := nmX_at ht
      unfold Loop at hB
      simp -implicitDefEqProofs only [go_sem, simprocAttr, Tryz.f9, loopOf] at hB
      subst hB
      rw [RL_eq]
      simp -implicitDefEqProofs only [go_sem, simprocAttr, ooH, tblC, d, h7, hg, List.length_map, locsR_SLs, hc, hcn, rm, Nat.zero_add, Nat.one_mul]
      repeat' ((first | apply split_cond | apply split_yes | apply split_no) <;> intro hc <;> simp -implicitDefEqProofs only [hc, go_sem, simprocAttr, ooH, tblC, d, h7, hg, List.length_map, locsR_SLs, hc, hcn, rm, Nat.zero_add, Nat.one_mul])
      simp only [o7H, tblC, List.map_singleton, en]
      rfl
theorem l_oo6b (x : List Tbl) (hx : FitX x) (hR : RightX x) (cs : List (List UInt8)) (i0 : Nat) (t0 : Tbl) (o : List Nat) (ho : ∀ j ∈ o, j < x.length) (hl : o.length ≤ 1000000) (k : Nat) (ks : List It) : ∀ (q i : Nat) (ii : Int) (Bo : Code), Loop Tryz.f9 6 Bo → ii = (i : Int) → x.length = i + q → nextF (freeB x o) i q = some k →
    RL K (.run 9 0 (.code Bo :: .lp Bo (some ([1, 2, 3, 4, 69, 70, 71], [])) 7 :: .blk 6 7 :: ks) [(1, .ptr 0 0), (2, .ptr 1 0), (3, .own 3 cs.length), (4, .ptr 2 0), (69, .rows (x.map tblC)), (70, I (x.length : Int)), (71, I ii)] (o7H x cs i0 t0 o)) =
    R K (.run 9 0 ks [(1, .ptr 0 0), (2, .ptr 1 0), (3, .own 3 cs.length), (4, .ptr 2 0)] (o7H x cs i0 t0 (o ++ [k])))
  | 0, i, ii, Bo, hB, hi, hq, hk => by simp [nextF] at hk
  | q + 1, i, ii, Bo, hB, hi, hq, hk => by
    subst hi
    have hB' := hB
    have hlen := hx.len
    have d : (i : Int) < (x.length : Int) := by omega
    have h7 : wrapI .i64 ((i : Int) + 1) = ((i + 1 : Nat) : Int) := next_id (n := x.length) (by omega) (by omega)
    obtain ⟨t, ht⟩ := some_at (l := x) (i := i) (by omega)
    have hg := tbl_get ht
    have hc := c_any38b x hx hR i (by omega) o ho hl t ht
    have hcn := c_contains t.nm (o.map (nmX x)) (by rw [List.length_map]; exact hl)
    rw [← nmX_at ht, in_names hR ho (by omega), nmX_at ht] at hcn
    have lo : (SLs (o.map (nmX x))).length = o.length := by rw [SLs_len, List.length_map]
    have sa := SLs_add ht o
    have ih := fun hk => l_oo6b x hx hR cs i0 t0 o ho hl k ks q (i + 1) _ Bo hB' rfl (by omega) hk
    have hF : freeB x o i = (!o.contains i && !waitB (reachM x) (toL x i) (fun j => o.contains j) i) := rfl
    have hN : nextF (freeB x o) i (q + 1) = if freeB x o i = true then some i else nextF (freeB x o) (i + 1) q := rfl
    have rm : ((o.length + 1) * 17 ≤ roomMax) = True := eq_true (by unfold roomMax; omega)
    rw [hN, hF] at hk
    simp only [wbH] at hc
    simp only [tblC] at hg
    cases hw : waitB (reachM x) (toL x i) (fun j => o.contains j) i with
    | true =>
      rw [hw] at hc hk
      have ih := ih (by simpa using hk)
      simp only [o7H, tblC, List.length_append, List.length_cons, List.length_nil, Nat.zero_add] at ih
      unfold Loop at hB
      simp -implicitDefEqProofs only [go_sem, simprocAttr, Tryz.f9, loopOf] at hB
      subst hB
      rw [RL_eq]
      simp -implicitDefEqProofs only [go_sem, simprocAttr, o7H, tblC, d, h7, hg, List.length_map, locsR_SLs, renR_SLs, lo, hc]
      repeat' ((first | apply split_cond | apply split_yes | apply split_no) <;> intro hc <;> simp -implicitDefEqProofs only [hc, go_sem, simprocAttr, o7H, tblC, d, h7, hg, List.length_map, locsR_SLs, renR_SLs, lo, hc])
      exact ih
    | false =>
      rw [hw] at hc hk
      cases hn : o.contains i with
      | true =>
        rw [hn] at hk hcn
        have ih := ih (by simpa using hk)
        simp only [o7H, tblC, List.length_append, List.length_cons, List.length_nil, Nat.zero_add] at ih
        unfold Loop at hB
        simp -implicitDefEqProofs only [go_sem, simprocAttr, Tryz.f9, loopOf] at hB
        subst hB
        rw [RL_eq]
        simp -implicitDefEqProofs only [go_sem, simprocAttr, o7H, tblC, d, h7, hg, List.length_map, locsR_SLs, renR_SLs, lo, hc, hcn]
        repeat' ((first | apply split_cond | apply split_yes | apply split_no) <;> intro hc <;> simp -implicitDefEqProofs only [hc, go_sem, simprocAttr, o7H, tblC, d, h7, hg, List.length_map, locsR_SLs, renR_SLs, lo, hc, hcn])
        exact ih
      | false =>
        rw [hn] at hk hcn
        have ek : i = k := by simpa using hk
        subst ek
        unfold Loop at hB
        simp -implicitDefEqProofs only [go_sem, simprocAttr, Tryz.f9, loopOf] at hB
        subst hB
        rw [RL_eq]
        simp -implicitDefEqProofs only [go_sem, simprocAttr, o7H, tblC, d, h7, hg, List.length_map, locsR_SLs, renR_SLs, lo, hc, hcn, rm, sa, List.length_append, List.length_cons, List.length_nil, Nat.zero_add]
        repeat' ((first | apply split_cond | apply split_yes | apply split_no) <;> intro hc <;> simp -implicitDefEqProofs only [hc, go_sem, simprocAttr, o7H, tblC, d, h7, hg, List.length_map, locsR_SLs, renR_SLs, lo, hc, hcn, rm, sa, List.length_append, List.length_cons, List.length_nil, Nat.zero_add])
theorem l_oo4 (x : List Tbl) (hx : FitX x) (hR : RightX x) (cs : List (List UInt8)) (i0 : Nat) (t0 : Tbl) (ks : List It) : ∀ (m : Nat) (o : List Nat) (Bo : Code), Loop Tryz.f9 4 Bo → x.length = o.length + m → (∀ j ∈ o, j < x.length) →
    RL K (.run 9 0 (.code Bo :: .lp Bo (some ([1, 2, 3, 4], [])) 4 :: .blk 4 4 :: ks) [(1, .ptr 0 0), (2, .ptr 1 0), (3, .own 3 cs.length), (4, .ptr 2 0)] (o7H x cs i0 t0 o)) =
    R K (.run 9 0 ks [(2, .ptr 1 0), (3, .own 3 cs.length)] (o7H x cs i0 t0 (ordN x m o)))
  | 0, o, Bo, hB, hq, ho => by
    have d : ¬ (o.length : Int) < (x.length : Int) := by omega
    simp only [ordN]
    unfold Loop at hB
    simp -implicitDefEqProofs only [go_sem, simprocAttr, Tryz.f9, loopOf] at hB
    subst hB
    rw [RL_eq]
    simp -implicitDefEqProofs only [go_sem, simprocAttr, o7H, tblC, d, locsR_SLs, List.length_map]
    repeat' ((first | apply split_cond | apply split_yes | apply split_no) <;> intro hc <;> simp -implicitDefEqProofs only [hc, go_sem, simprocAttr, o7H, tblC, d, locsR_SLs, List.length_map])
  | m + 1, o, Bo, hB, hq, ho => by
    have hB' := hB
    have hlen := hx.len
    have d : (o.length : Int) < (x.length : Int) := by omega
    obtain ⟨i, e1, e2, _⟩ := next_is hR o (by omega)
    have l6 := fun ks B hB => l_oo6b x hx hR cs i0 t0 o ho (by omega) i ks x.length 0 0 B hB rfl (by omega) e1
    have ih := l_oo4 x hx hR cs i0 t0 ks m (o ++ [i]) _ hB' (by simp; omega) (fun j hj => by
      rcases List.mem_append.1 hj with h | h
      · exact ho j h
      · rw [List.mem_singleton] at h; omega)
    have hN : ordN x (m + 1) o = ordN x m (o ++ [i]) := by simp only [ordN]; rw [e1]
    rw [hN]
    simp only [o7H, tblC, List.length_append, List.length_cons, List.length_nil, Nat.zero_add] at l6 ih
    unfold Loop at hB
    simp -implicitDefEqProofs only [go_sem, simprocAttr, Tryz.f9, loopOf] at hB
    subst hB
    rw [RL_eq]
    simp -implicitDefEqProofs only [go_sem, simprocAttr, o7H, tblC, d, List.length_map]
    repeat' ((first | apply split_cond | apply split_yes | apply split_no) <;> intro hc <;> simp -implicitDefEqProofs only [hc, go_sem, simprocAttr, o7H, tblC, d, List.length_map])
    rw [l6 _ _ ?_]
    · simp -implicitDefEqProofs only [go_sem, simprocAttr, locsR_SLs]
      repeat' ((first | apply split_cond | apply split_yes | apply split_no) <;> intro hc <;> simp -implicitDefEqProofs only [hc, go_sem, simprocAttr, locsR_SLs])
      exact ih
    · rfl
theorem r_OrderOf (x : List Tbl) (hx : FitX x) (h0 : chkE x = 0) : R K (.call 9 [schC x] []) = some (.tup [ordS x, cirS x], []) := by
  have hlen := hx.len
  have hR := chk_right h0
  have hn : x.length ≤ 60 := by
    unfold chkE at h0
    split at h0
    · simp at h0
    · omega
  have g2 := r_reach x hx hR
  have l0 := fun ks B hB => l_oo0 x hx hR hn ks x.length 0 [] 0 B hB rfl (by omega) (by simp) (by simp)
  simp only [ooH, List.nil_append, List.map_nil] at l0
  rw [call_9]
  simp -implicitDefEqProofs only [go_sem, simprocAttr, Tryz.f9, List.length_map, g2]
  repeat' ((first | apply split_cond | apply split_yes | apply split_no) <;> intro hc <;> simp -implicitDefEqProofs only [hc, go_sem, simprocAttr, List.length_map, g2])
  rw [show (AV.own 3 0) = AV.own 3 ([] : List (List UInt8)).length from rfl, l0 _ _ ?_]
  · cases hm : x.length with
    | zero =>
      have ec : circN x 0 0 = [] := rfl
      have eo : ordS x = .rows [] := by unfold ordS; rw [hm]; rfl
      have ei : cirS x = .rows [] := by unfold cirS; rw [hm]; rfl
      have d : ((0 : Int) < (x.length : Int)) = False := eq_false (by omega)
      rw [eo, ei, ec]
      simp -implicitDefEqProofs only [go_sem, simprocAttr, locsR_SLs, List.length_map, List.map_nil, List.length_nil]
      repeat' ((first | apply split_cond | apply split_yes | apply split_no) <;> intro hc <;> simp -implicitDefEqProofs only [hc, go_sem, simprocAttr, locsR_SLs, List.length_map, List.map_nil, List.length_nil])
      rw [RL_eq]
      simp -implicitDefEqProofs only [go_sem, simprocAttr, locsR_SLs, List.length_map, d, or_self]
      repeat' ((first | apply split_cond | apply split_yes | apply split_no) <;> intro hc <;> simp -implicitDefEqProofs only [hc, go_sem, simprocAttr, locsR_SLs, List.length_map, d, or_self])
    | succ m =>
      obtain ⟨k, e1, e2, _⟩ := next_is hR [] (by simp; omega)
      obtain ⟨tk, htk⟩ := some_at (l := x) (i := k) e2
      have l6 := fun ks B hB => l_oo6a x hx hR ((circN x 0 x.length).map (nmX x)) k tk htk ks x.length 0 0 B hB rfl (by omega) e1
      have l4 := fun ks B hB => l_oo4 x hx hR ((circN x 0 x.length).map (nmX x)) k tk ks m [k] B hB (by simp; omega) (by simp; omega)
      have hN : ordS x = .rows (SLs ((ordN x m [k]).map (nmX x))) := by
        unfold ordS
        rw [hm]
        have : ordN x (m + 1) [] = ordN x m [k] := by simp only [ordN]; rw [e1]; rfl
        rw [this]
      have hC : cirS x = .rows (SLs ((circN x 0 x.length).map (nmX x))) := rfl
      rw [← hm, hN, hC]
      generalize ordN x m [k] = o at *
      generalize (circN x 0 x.length).map (nmX x) = cs at *
      have d : ((0 : Int) < (x.length : Int)) = True := eq_true (by omega)
      simp only [ooH, o7H, tblC, List.map_singleton, List.length_cons, List.length_nil, Nat.zero_add] at l6 l4
      simp -implicitDefEqProofs only [go_sem, simprocAttr, locsR_SLs, List.length_map, d, or_self]
      repeat' ((first | apply split_cond | apply split_yes | apply split_no) <;> intro hc <;> simp -implicitDefEqProofs only [hc, go_sem, simprocAttr, locsR_SLs, List.length_map, d, or_self])
      rw [RL_eq]
      simp -implicitDefEqProofs only [go_sem, simprocAttr, locsR_SLs, List.length_map, d, or_self]
      repeat' ((first | apply split_cond | apply split_yes | apply split_no) <;> intro hc <;> simp -implicitDefEqProofs only [hc, go_sem, simprocAttr, locsR_SLs, List.length_map, d, or_self])
      rw [l6 _ _ ?_]
      · simp -implicitDefEqProofs only [go_sem, simprocAttr, locsR_SLs]
        repeat' ((first | apply split_cond | apply split_yes | apply split_no) <;> intro hc <;> simp -implicitDefEqProofs only [hc, go_sem, simprocAttr, locsR_SLs])
        rw [l4 _ _ ?_]
        · simp -implicitDefEqProofs only [go_sem, simprocAttr, locsR_SLs, SLs_len, List.length_map, or_self]
          repeat' ((first | apply split_cond | apply split_yes | apply split_no) <;> intro hc <;> simp -implicitDefEqProofs only [hc, go_sem, simprocAttr, locsR_SLs, SLs_len, List.length_map, or_self])
        · rfl
      · rfl
  · rfl
theorem tm (a b : Int) (h : 0 ≤ a) : a.tmod b = a % b := Int.tmod_eq_emod_of_nonneg h
theorem td (a b : Int) (h : 0 ≤ a) : a.tdiv b = a / b := Int.tdiv_eq_ediv_of_nonneg h
def belowS (x n : Int) : Int := if n < 1 then 0 else if x.tmod n < 0 then wrapI .i64 (x.tmod n + n) else x.tmod n
theorem r_Below (x n : Int) : R K (.call 87 [.int .i64 x, .int .i64 n] []) = some (.int .i64 (belowS x n), []) := by
  by_cases hn : n < 1
  · have h1 : decide (n < 1) = true := by simp [hn]
    rw [call_87]
    simp -implicitDefEqProofs only [go_sem, simprocAttr, Tryz.f87, h1]
    repeat' ((first | apply split_cond | apply split_yes | apply split_no) <;> intro hc <;> simp -implicitDefEqProofs only [hc, go_sem, simprocAttr, h1])
    simp [belowS, hn]
  · have h1 : decide (n < 1) = false := by simpa using hn
    have h2 : n ≠ 0 := by omega
    have e : belowS x n = if x.tmod n < 0 then wrapI .i64 (x.tmod n + n) else x.tmod n := if_neg hn
    rw [e]
    rw [call_87]
    simp -implicitDefEqProofs only [go_sem, simprocAttr, Tryz.f87, h1, h2]
    repeat' ((first | apply split_cond | apply split_yes | apply split_no) <;> intro hc <;> simp -implicitDefEqProofs only [hc, go_sem, simprocAttr, h1, h2])
    all_goals simp_all
    intro; omega
theorem below_bounds (x n : Int) (h1 : 1 ≤ n) (h2 : n ≤ 4611686018427387904) : 0 ≤ belowS x n ∧ belowS x n < n := by
  unfold belowS
  rw [if_neg (by omega)]
  have a := Int.tmod_lt_of_pos x (show 0 < n by omega)
  have b : -n < x.tmod n := by
    have := Int.tmod_lt_of_pos (-x) (show 0 < n by omega)
    rw [Int.neg_tmod] at this
    omega
  split
  · rw [wrap_id (by omega) (by omega)]; omega
  · omega
def nextS (L : List Int) (a n : Int) : Int :=
  if L.length = 0 then belowS (wrapI .i64 ((a + 1) * 7919)) n
  else belowS (wrapI .i64 (belowS (L.getD (a % L.length).toNat 0) 1073741824 + wrapI .i64 (a / L.length * (7919 + a % L.length)))) n
abbrev LR (L : List Int) : AV := .rows (L.map fun x => [.int .i64 x])
theorem r_Next (L : List Int) (a n : Int) (ha : 0 ≤ a) (ha2 : a ≤ 4611686018427387904) (hL : L.length ≤ 9223372036854775807) : R K (.call 41 [.ptr 0 0, .int .i64 n] [.cells [LR L, .int .i64 a]]) = some (.int .i64 (nextS L a n), [.cells [LR L, .int .i64 (a + 1)]]) := by
  have e1 : wrapI .i64 (a + 1) = a + 1 := wrap_id (by omega) (by omega)
  have e2 : wrapI .i64 (a + 1 - 1) = a := by rw [wrap_id (by omega) (by omega)]; omega
  have el : (L.map fun x => [AV.int .i64 x]).length = L.length := List.length_map _
  by_cases h : L.length = 0
  · have h0 : decide (((L.length : Nat) : Int) = 0) = true := by simp [h]
    have hb : (((L.length : Nat) : Int) == 0) = true := by simp [h]
    have e : nextS L a n = belowS (wrapI .i64 ((a + 1) * 7919)) n := if_pos h
    rw [e]
    rw [call_41]
    simp -implicitDefEqProofs only [go_sem, simprocAttr, Tryz.f41, e1, hb, el, r_Below]
    repeat' ((first | apply split_cond | apply split_yes | apply split_no) <;> intro hc <;> simp -implicitDefEqProofs only [hc, go_sem, simprocAttr, e1, hb, el, r_Below])
  · have hb : (((L.length : Nat) : Int) == 0) = false := by simpa using h
    have hl1 : (1 : Int) ≤ L.length := by omega
    have e3 : a.tmod (L.length : Int) = a % L.length := tm _ _ ha
    have e4 : wrapI .i64 (a.tdiv (L.length : Int)) = a / L.length := by
      rw [td _ _ ha]
      have := Int.ediv_le_self (L.length : Int) ha
      have := Int.ediv_nonneg ha (show (0 : Int) ≤ L.length by omega)
      exact wrap_id (by omega) (by omega)
    have m1 := Int.emod_nonneg a (show (L.length : Int) ≠ 0 by omega)
    have m2 := Int.emod_lt_of_pos a (show (0 : Int) < L.length by omega)
    have m3 : a % (L.length : Int) ≤ a := by
      rw [Int.emod_def]
      exact Int.sub_le_self a (Int.mul_nonneg (by omega) (Int.ediv_nonneg ha (by omega)))
    obtain ⟨x, hx⟩ := some_at (l := L) (i := (a % L.length).toNat) (by omega)
    have e5 : at? (L.map fun x => [AV.int .i64 x]) (a % L.length) = some [.int .i64 x] := by
      unfold at?
      rw [if_pos m1]
      simp [hx]
    have e6 : wrapI .i64 (7919 + a % L.length) = 7919 + a % L.length := wrap_id (by omega) (by omega)
    have hd : L.getD (a % L.length).toNat 0 = x := by simp [List.getD, hx]
    have hne : ((L.length : Nat) : Int) ≠ 0 := by omega
    have e : nextS L a n = belowS (wrapI .i64 (belowS x 1073741824 + wrapI .i64 (a / L.length * (7919 + a % L.length)))) n := by
      unfold nextS
      rw [if_neg h, hd]
    rw [e]
    rw [call_41]
    simp -implicitDefEqProofs only [go_sem, simprocAttr, Tryz.f41, e1, e2, e3, e4, e5, e6, hb, hne, h, el, r_Below]
    repeat' ((first | apply split_cond | apply split_yes | apply split_no) <;> intro hc <;> simp -implicitDefEqProofs only [hc, go_sem, simprocAttr, e1, e2, e3, e4, e5, e6, hb, hne, h, el, r_Below])
theorem next_bounds (L : List Int) (a n : Int) (h1 : 1 ≤ n) (h2 : n ≤ 4611686018427387904) : 0 ≤ nextS L a n ∧ nextS L a n < n := by
  unfold nextS
  split <;> exact below_bounds _ _ h1 h2
theorem p_Repeat (s : List UInt8) (c : Nat) (h : c ≤ 1000) (hs : s.length ≤ 1000) : R K (.call 91 [.str s, I (c : Int)] []) = some (.str (Lib.repeatL s c), []) :=
  R_prim (by
    show pRepeat [.str s, I (c : Int)] = _
    simp only [pRepeat]
    have : s.length * c ≤ 1000 * 1000 := Nat.mul_le_mul hs h
    rw [if_pos (by simp only [Bool.and_eq_true, decide_eq_true_eq, Int.toNat_natCast]; omega), Int.toNat_natCast])
abbrev St (L : List Int) (a : Int) : Heap := [.cells [LR L, I a]]
structure Gd (L : List Int) (a B : Int) : Prop where
  pos : 0 ≤ a
  top : a + B ≤ 4611686018427387904
  len : L.length ≤ 9223372036854775807
theorem Gd.step {L : List Int} {a B : Int} (h : Gd L a B) (a' B' : Int) (h1 : a ≤ a') (h2 : a' + B' ≤ a + B) : Gd L a' B' := ⟨by have := h.pos; omega, by have := h.top; omega, h.len⟩
def Out (t : Tk) (L : List Int) (a B : Int) (P : AV → Prop) : Prop := ∃ r a', R K t = some (r, St L a') ∧ a ≤ a' ∧ a' ≤ a + B ∧ P r
theorem Out.mk {t : Tk} {L : List Int} {a B : Int} {P : AV → Prop} (r : AV) (a' : Int) (h1 : a ≤ a') (h2 : a' ≤ a + B) (h3 : P r) (e : R K t = some (r, St L a')) : Out t L a B P := ⟨r, a', e, h1, h2, h3⟩
section
variable {L : List Int} {a B : Int}
theorem g_Next (h : Gd L a B) (hB : 1 ≤ B) (n : Int) : R K (.call 41 [.ptr 0 0, I n] (St L a)) = some (I (nextS L a n), St L (a + 1)) := by
  have h1 := h.pos
  have h2 := h.top
  exact r_Next L a n h1 (by omega) h.len
def rngS (L : List Int) (a lo hi : Int) : Int := lo + nextS L a (hi - lo + 1)
theorem range_bounds (L : List Int) (a lo hi : Int) (h1 : lo ≤ hi) (h2 : hi - lo ≤ 4611686018427387000) : lo ≤ rngS L a lo hi ∧ rngS L a lo hi ≤ hi := by
  have := next_bounds L a (hi - lo + 1) (by omega) (by omega)
  unfold rngS
  omega
theorem g_Range (h : Gd L a B) (hB : 1 ≤ B) (lo hi : Int) (h1 : lo ≤ hi) (h2 : -1152921504606846976 ≤ lo) (h3 : hi ≤ 1152921504606846976) : R K (.call 39 [.ptr 0 0, I lo, I hi] (St L a)) = some (I (rngS L a lo hi), St L (a + 1)) := by
  have x0 := g_Next h hB (hi - lo + 1)
  have b0 := range_bounds L a lo hi h1 (by omega)
  have d0 : decide (hi < lo) = false := decide_eq_false (by omega)
  have w1 : wrapI .i64 (hi - lo) = hi - lo := wrap_id (by omega) (by omega)
  have w2 : wrapI .i64 (hi - lo + 1) = hi - lo + 1 := wrap_id (by omega) (by omega)
  have w3 : wrapI .i64 (lo + nextS L a (hi - lo + 1)) = rngS L a lo hi := by
    unfold rngS at b0 ⊢
    exact wrap_id (by omega) (by omega)
  rw [call_39]
  simp -implicitDefEqProofs only [go_sem, simprocAttr, Tryz.f39, x0, d0, w1, w2, w3]
  repeat' ((first | apply split_cond | apply split_yes | apply split_no) <;> intro hc <;> simp -implicitDefEqProofs only [hc, go_sem, simprocAttr, x0, d0, w1, w2, w3])
theorem g_Flip (h : Gd L a B) (hB : 1 ≤ B) (n : Int) : R K (.call 44 [.ptr 0 0, I n] (St L a)) = some (.bool (nextS L a n == 0), St L (a + 1)) := by
  have x0 := g_Next h hB n
  rw [call_44]
  simp -implicitDefEqProofs only [go_sem, simprocAttr, Tryz.f44, x0]
  repeat' ((first | apply split_cond | apply split_yes | apply split_no) <;> intro hc <;> simp -implicitDefEqProofs only [hc, go_sem, simprocAttr, x0])
theorem int_at {l : List Int} {i : Int} (h : 0 ≤ i ∧ i < (l.length : Int)) : ∃ x ∈ l, at? (l.map fun x => [I x]) i = some [I x] := by
  obtain ⟨x, hx⟩ := some_at (l := l) (i := i.toNat) (by omega)
  refine ⟨x, List.mem_of_getElem? hx, ?_⟩
  unfold at?
  rw [if_pos h.1]
  simp [hx]
theorem g_Pick (h : Gd L a B) (hB : 1 ≤ B) (l : List Int) (hl : 1 ≤ l.length) (hl2 : l.length ≤ 1000) : ∃ x ∈ l, R K (.call 12 [.ptr 0 0, .rows (l.map fun x => [I x])] (St L a)) = some (I x, St L (a + 1)) := by
  have x0 := g_Next h hB (l.length : Int)
  have b0 := next_bounds L a (l.length : Int) (by omega) (by omega)
  obtain ⟨x, hx, hg⟩ := int_at (l := l) b0
  refine ⟨x, hx, ?_⟩
  rw [call_12]
  simp -implicitDefEqProofs only [go_sem, simprocAttr, Tryz.f12, x0, hg]
  repeat' ((first | apply split_cond | apply split_yes | apply split_no) <;> intro hc <;> simp -implicitDefEqProofs only [hc, go_sem, simprocAttr, x0, hg])
theorem g_Int (h : Gd L a B) (hB : 2 ≤ B) : ∃ n a', R K (.call 89 [.ptr 0 0] (St L a)) = some (I n, St L a') ∧ a ≤ a' ∧ a' ≤ a + 2 := by
  have x0 := g_Next h (by omega) 10
  have h1 := h.step (a + 1) (B - 1) (by omega) (by omega)
  by_cases e0 : nextS L a 10 = 0
  · obtain ⟨x, _, p⟩ := g_Pick h1 (by omega) [999999999999999, -999999999999999, 1000000000000000, -1000000000000000, 4611686018427387904, -9223372036854775808, 9223372036854775807, 253402300799, 253402300800] (by decide) (by decide)
    simp only [List.map] at p
    refine ⟨x, a + 1 + 1, ?_, by omega, by omega⟩
    rw [call_89]
    simp -implicitDefEqProofs only [go_sem, simprocAttr, Tryz.f89, x0, e0, p]
    repeat' ((first | apply split_cond | apply split_yes | apply split_no) <;> intro hc <;> simp -implicitDefEqProofs only [hc, go_sem, simprocAttr, x0, e0, p])
  · have b0 : (nextS L a 10 == 0) = false := by simpa using e0
    by_cases e1 : nextS L a 10 = 1
    · have x1 := g_Range h1 (by omega) (-1000000) 1000000 (by omega) (by omega) (by omega)
      refine ⟨rngS L (a + 1) (-1000000) 1000000, a + 1 + 1, ?_, by omega, by omega⟩
      rw [call_89]
      simp -implicitDefEqProofs only [go_sem, simprocAttr, Tryz.f89, x0, e1, x1]
      repeat' ((first | apply split_cond | apply split_yes | apply split_no) <;> intro hc <;> simp -implicitDefEqProofs only [hc, go_sem, simprocAttr, x0, e1, x1])
    · have b1 : (nextS L a 10 == 1) = false := by simpa using e1
      have x1 := g_Range h1 (by omega) (-6) 12 (by omega) (by omega) (by omega)
      refine ⟨rngS L (a + 1) (-6) 12, a + 1 + 1, ?_, by omega, by omega⟩
      rw [call_89]
      simp -implicitDefEqProofs only [go_sem, simprocAttr, Tryz.f89, x0, b0, b1, x1]
      repeat' ((first | apply split_cond | apply split_yes | apply split_no) <;> intro hc <;> simp -implicitDefEqProofs only [hc, go_sem, simprocAttr, x0, b0, b1, x1])
theorem str_at {l : List (List UInt8)} {i : Int} (h : 0 ≤ i ∧ i < (l.length : Int)) : ∃ x ∈ l, at? (l.map fun x => [AV.str x]) i = some [.str x] := by
  obtain ⟨x, hx⟩ := some_at (l := l) (i := i.toNat) (by omega)
  refine ⟨x, List.mem_of_getElem? hx, ?_⟩
  unfold at?
  rw [if_pos h.1]
  simp [hx]
def pcs : List (List UInt8) := [[97], [98], [97, 98], [], [65], [37], [95], [92], [39], [32], [48], [49, 50], [45, 51], [116, 114, 117, 101], [120, 44, 121], [40], [50, 48, 48, 48, 45, 48, 50, 45, 50, 57, 84, 48, 48, 58, 48, 48, 58, 48, 48]]
theorem pcs_len : ∀ x ∈ pcs, x.length ≤ 19 := by decide
theorem pcs_no : ∀ x ∈ pcs, x.count 41 = 0 := by decide
theorem rep_no (s : List UInt8) (h : s.count 41 = 0) : ∀ n : Nat, (Lib.repeatL s n).count 41 = 0
  | 0 => by simp [Lib.repeatL]
  | n + 1 => by
    have := rep_no s h n
    simp only [Lib.repeatL] at this ⊢
    simp [List.replicate_succ, List.count_append, h, this]
theorem l_text (c : Nat) (hc : c ≤ 100) (ks : List It) : ∀ (m j : Nat) (i : Int) (t : List UInt8) (a B : Int) (Bo : Code), Loop Tryz.f90 0 Bo → Gd L a B → m ≤ B → i = (j : Int) → c = j + m → t.length ≤ 19 * j → t.count 41 = 0 →
   ∃ (t' : List UInt8) (a' : Int), a ≤ a' ∧ a' ≤ a + m ∧ (t'.length ≤ 19 * c ∧ t'.count 41 = 0) ∧
   RL K (.run 90 1 (.code Bo :: .lp Bo (some ([0, 3, 4, 18, 19], [])) 1 :: .blk 0 1 :: ks) [(0, .ptr 0 0), (3, .lit (pcs.map fun x => [.str x])), (4, .str t), (18, I (c : Int)), (19, I i)] (St L a)) =
   R K (.run 90 1 ks [(4, .str t')] (St L a'))
  | 0, j, i, t, a, B, Bo, hB, hG, hm, hi, hj, ht, hn => by
    subst hi
    have h1 : decide ((j : Int) < (c : Int)) = false := decide_eq_false (by omega)
    refine ⟨t, a, by omega, by omega, ⟨by omega, hn⟩, ?_⟩
    unfold Loop at hB
    simp -implicitDefEqProofs only [go_sem, simprocAttr, Tryz.f90, loopOf] at hB
    subst hB
    rw [RL_eq]
    simp -implicitDefEqProofs only [go_sem, simprocAttr, h1]
    repeat' ((first | apply split_cond | apply split_yes | apply split_no) <;> intro hc <;> simp -implicitDefEqProofs only [hc, go_sem, simprocAttr, h1])
  | m + 1, j, i, t, a, B, Bo, hB, hG, hm, hi, hj, ht, hn => by
    subst hi
    have hB' := hB
    have h1 : decide ((j : Int) < (c : Int)) = true := decide_eq_true (by omega)
    have x1 := g_Next hG (by omega) 17
    obtain ⟨x, hx, hg⟩ := str_at (l := pcs) (next_bounds L a 17 (by omega) (by omega))
    have hxl := pcs_len x hx
    have h7 := next_id (i := j) (n := c) (by omega) (by omega)
    have k1 : (t.length + x.length ≤ strMax) = True := eq_true (by unfold strMax; omega)
    have l1 : (pcs.map fun x => [AV.str x]).length = 17 := rfl
    obtain ⟨t', a', q1, q2, q3, ih⟩ := l_text c hc ks m (j + 1) _ (t ++ x) (a + 1) (B - 1) Bo hB' (hG.step _ _ (by omega) (by omega)) (by omega) rfl (by omega) (by rw [List.length_append]; omega) (by rw [List.count_append, hn, pcs_no x hx])
    refine ⟨t', a', by omega, by omega, q3, ?_⟩
    unfold Loop at hB
    simp -implicitDefEqProofs only [go_sem, simprocAttr, Tryz.f90, loopOf] at hB
    subst hB
    rw [RL_eq]
    simp -implicitDefEqProofs only [go_sem, simprocAttr, h1, x1, hg, l1, h7, k1]
    repeat' ((first | apply split_cond | apply split_yes | apply split_no) <;> intro hc <;> simp -implicitDefEqProofs only [hc, go_sem, simprocAttr, h1, x1, hg, l1, h7, k1])
    rw [ih]
theorem g_text (h : Gd L a B) (hB : 10 ≤ B) : ∃ s a', R K (.call 90 [.ptr 0 0] (St L a)) = some (.str s, St L a') ∧ a ≤ a' ∧ a' ≤ a + 10 ∧ s.length ≤ 2000 ∧ s.count 41 = 0 := by
  have x0 := g_Flip h (by omega) 12
  have h1 := h.step (a + 1) (B - 1) (by omega) (by omega)
  cases e0 : nextS L a 12 == 0 with
  | true =>
    rw [e0] at x0
    have x1 := g_Next h1 (by omega) 4
    obtain ⟨s, hs, hg⟩ := str_at (l := [[97], [39], [92], [37]]) (next_bounds L (a + 1) 4 (by omega) (by omega))
    have hsn : s.count 41 = 0 := (by decide : ∀ x ∈ ([[97], [39], [92], [37]] : List (List UInt8)), x.count 41 = 0) s hs
    have hsl : s.length ≤ 1 := (by decide : ∀ x ∈ ([[97], [39], [92], [37]] : List (List UInt8)), x.length ≤ 1) s hs
    have h2 := h1.step (a + 1 + 1) (B - 2) (by omega) (by omega)
    obtain ⟨x, hx, p⟩ := g_Pick h2 (by omega) [49, 50, 51, 99, 100, 101] (by decide) (by decide)
    have hxb : 0 ≤ x ∧ x ≤ 101 := (by decide : ∀ x ∈ ([49, 50, 51, 99, 100, 101] : List Int), 0 ≤ x ∧ x ≤ 101) x hx
    have pr := p_Repeat s x.toNat (by omega) (by omega)
    rw [Int.toNat_of_nonneg hxb.1] at pr
    simp only [List.map] at p hg
    refine ⟨Lib.repeatL s x.toNat, a + 1 + 1 + 1, ?_, by omega, by omega, ?_⟩
    · rw [call_90]
      simp -implicitDefEqProofs only [go_sem, simprocAttr, Tryz.f90, x0, x1, hg, p, pr]
      repeat' ((first | apply split_cond | apply split_yes | apply split_no) <;> intro hc <;> simp -implicitDefEqProofs only [hc, go_sem, simprocAttr, x0, x1, hg, p, pr])
    · rw [Lib.repeatL_length, Nat.mul_comm]
      have : s.length * x.toNat ≤ 1 * 101 := Nat.mul_le_mul hsl (by omega)
      exact ⟨by omega, rep_no s hsn _⟩
  | false =>
    rw [e0] at x0
    have x1 := g_Range h1 (by omega) 0 3 (by omega) (by omega) (by omega)
    have b1 := range_bounds L (a + 1) 0 3 (by omega) (by omega)
    have e1 : ((rngS L (a + 1) 0 3).toNat : Int) = rngS L (a + 1) 0 3 := by omega
    obtain ⟨t', a', q1, q2, q3, lk⟩ := l_text (L := L) (rngS L (a + 1) 0 3).toNat (by omega) [.code _] (rngS L (a + 1) 0 3).toNat 0 0 [] (a + 1 + 1) (B - 2) _ rfl (h1.step _ _ (by omega) (by omega)) (by omega) rfl (by omega) (by simp) rfl
    rw [e1] at lk
    refine ⟨t', a', ?_, by omega, by omega, by omega, q3.2⟩
    rw [call_90]
    simp -implicitDefEqProofs only [go_sem, simprocAttr, Tryz.f90, x0, x1]
    repeat' ((first | apply split_cond | apply split_yes | apply split_no) <;> intro hc <;> simp -implicitDefEqProofs only [hc, go_sem, simprocAttr, x0, x1])
    simp only [pcs, List.map] at lk
    rw [lk]
    simp -implicitDefEqProofs only [go_sem, simprocAttr]
    repeat' ((first | apply split_cond | apply split_yes | apply split_no) <;> intro hc <;> simp -implicitDefEqProofs only [hc, go_sem, simprocAttr])
theorem g_Full (h : Gd L a B) (hB : 12 ≤ B) (k : Int) : ∃ v a', R K (.call 156 [.ptr 0 0, I k] (St L a)) = some (enc v, St L a') ∧ a ≤ a' ∧ a' ≤ a + 12 ∧ v.s.length ≤ 2000 ∧ v.s.count 41 = 0 := by
  by_cases k1 : k = 1
  · subst k1
    have x0 := g_Next h (by omega) 2
    refine ⟨⟨1, nextS L a 2, []⟩, a + 1, ?_, by omega, by omega, by simp, rfl⟩
    rw [call_156]
    simp -implicitDefEqProofs only [go_sem, simprocAttr, Tryz.f156, x0]
    repeat' ((first | apply split_cond | apply split_yes | apply split_no) <;> intro hc <;> simp -implicitDefEqProofs only [hc, go_sem, simprocAttr, x0])
  have b1 : (k == 1) = false := by simpa using k1
  by_cases k2 : k = 2
  · subst k2
    obtain ⟨n, a', x0, q1, q2⟩ := g_Int h (by omega)
    refine ⟨⟨2, if 999999999999999 < (if n < -999999999999999 then -999999999999999 else n) then 999999999999999 else (if n < -999999999999999 then -999999999999999 else n), []⟩, a', ?_, by omega, by omega, by simp, rfl⟩
    rw [call_156]
    simp -implicitDefEqProofs only [go_sem, simprocAttr, Tryz.f156, x0]
    repeat' ((first | apply split_cond | apply split_yes | apply split_no) <;> intro hc <;> simp -implicitDefEqProofs only [hc, go_sem, simprocAttr, x0])
    all_goals rfl
  have b2 : (k == 2) = false := by simpa using k2
  by_cases k3 : k = 3
  · subst k3
    obtain ⟨s, a', x0, q1, q2, q3⟩ := g_text h (by omega)
    by_cases hl : 100 < s.length
    · have d0 : decide ((100 : Int) < (s.length : Int)) = true := decide_eq_true (by omega)
      have d1 : ((100 : Int) ≤ (s.length : Int)) = True := eq_true (by omega)
      have d2 : (100 : Int).toNat = 100 := rfl
      refine ⟨⟨3, 0, s.take 100⟩, a', ?_, by omega, by omega, by simp; omega, Nat.eq_zero_of_le_zero (by show (s.take 100).count 41 ≤ 0; have := List.Sublist.count_le (41 : UInt8) (List.take_sublist 100 s); omega)⟩
      rw [call_156]
      simp -implicitDefEqProofs only [go_sem, simprocAttr, Tryz.f156, x0, d0, d1, d2]
      repeat' ((first | apply split_cond | apply split_yes | apply split_no) <;> intro hc <;> simp -implicitDefEqProofs only [hc, go_sem, simprocAttr, x0, d0, d1, d2])
    · have d0 : decide ((100 : Int) < (s.length : Int)) = false := decide_eq_false (by omega)
      refine ⟨⟨3, 0, s⟩, a', ?_, by omega, by omega, q3⟩
      rw [call_156]
      simp -implicitDefEqProofs only [go_sem, simprocAttr, Tryz.f156, x0, d0]
      repeat' ((first | apply split_cond | apply split_yes | apply split_no) <;> intro hc <;> simp -implicitDefEqProofs only [hc, go_sem, simprocAttr, x0, d0])
  have b3 : (k == 3) = false := by simpa using k3
  have x0 := g_Range h (by omega) 0 2147483648 (by omega) (by omega) (by omega)
  have h1 := h.step (a + 1) (B - 1) (by omega) (by omega)
  obtain ⟨x, _, p⟩ := g_Pick h1 (by omega) [0, 1, 59, 86399, 86400, 951782400, 951868799, 1709164800, 1706659200, 253402300799, rngS L a 0 2147483648] (by simp) (by simp)
  simp only [List.map] at p
  refine ⟨⟨k, x, []⟩, a + 1 + 1, ?_, by omega, by omega, by simp, rfl⟩
  rw [call_156]
  simp -implicitDefEqProofs only [go_sem, simprocAttr, Tryz.f156, b1, b2, b3, x0, p]
  repeat' ((first | apply split_cond | apply split_yes | apply split_no) <;> intro hc <;> simp -implicitDefEqProofs only [hc, go_sem, simprocAttr, b1, b2, b3, x0, p])
theorem g_Value (h : Gd L a B) (hB : 13 ≤ B) (k : Int) : ∃ v a', R K (.call 88 [.ptr 0 0, I k] (St L a)) = some (enc v, St L a') ∧ a ≤ a' ∧ a' ≤ a + 13 ∧ v.s.length ≤ 2000 ∧ v.s.count 41 = 0 := by
  have x0 := g_Flip h (by omega) 7
  have h1 := h.step (a + 1) (B - 1) (by omega) (by omega)
  cases e0 : nextS L a 7 == 0 with
  | true =>
    rw [e0] at x0
    refine ⟨null, a + 1, ?_, by omega, by omega, by simp [null], rfl⟩
    rw [call_88]
    simp -implicitDefEqProofs only [go_sem, simprocAttr, Tryz.f88, x0]
    repeat' ((first | apply split_cond | apply split_yes | apply split_no) <;> intro hc <;> simp -implicitDefEqProofs only [hc, go_sem, simprocAttr, x0])
    all_goals rfl
  | false =>
    rw [e0] at x0
    obtain ⟨v, a', x1, q1, q2, q3⟩ := g_Full h1 (by omega) k
    refine ⟨v, a', ?_, by omega, by omega, q3⟩
    rw [call_88]
    simp -implicitDefEqProofs only [go_sem, simprocAttr, Tryz.f88, x0, x1]
    repeat' ((first | apply split_cond | apply split_yes | apply split_no) <;> intro hc <;> simp -implicitDefEqProofs only [hc, go_sem, simprocAttr, x0, x1])
theorem g_Any (h : Gd L a B) (hB : 30 ≤ B) : ∃ v a', R K (.call 49 [.ptr 0 0] (St L a)) = some (enc v, St L a') ∧ a ≤ a' ∧ a' ≤ a + 30 ∧ v.s.length ≤ 2001 ∧ v.s.count 41 = 0 := by
  have x0 := g_Range h (by omega) 1 4 (by omega) (by omega) (by omega)
  obtain ⟨v, a1, x1, q1, q2, q3⟩ := g_Value (h.step (a + 1) (B - 1) (by omega) (by omega)) (by omega) (rngS L a 1 4)
  have h1 := h.step a1 (B - 14) (by omega) (by omega)
  have x2 := g_Flip h1 (by omega) 8
  cases e0 : nextS L a1 8 == 0 with
  | false =>
    rw [e0] at x2
    refine ⟨v, a1 + 1, ?_, by omega, by omega, by omega, q3.2⟩
    rw [call_49]
    simp -implicitDefEqProofs only [go_sem, simprocAttr, Tryz.f49, x0, x1, x2]
    repeat' ((first | apply split_cond | apply split_yes | apply split_no) <;> intro hc <;> simp -implicitDefEqProofs only [hc, go_sem, simprocAttr, x0, x1, x2])
  | true =>
    rw [e0] at x2
    have h2 := h1.step (a1 + 1) (B - 15) (by omega) (by omega)
    have x3 := g_Next h2 (by omega) 5
    have h3 := h2.step (a1 + 1 + 1) (B - 16) (by omega) (by omega)
    by_cases c0 : nextS L (a1 + 1) 5 = 0
    · obtain ⟨x, _, p⟩ := g_Pick h3 (by omega) [-1, 5, 0, 1, 2, 3, 4] (by decide) (by decide)
      simp only [List.map] at p
      refine ⟨⟨x, v.n, v.s⟩, a1 + 1 + 1 + 1, ?_, by omega, by omega, by simp only; omega, q3.2⟩
      rw [call_49]
      simp -implicitDefEqProofs only [go_sem, simprocAttr, Tryz.f49, x0, x1, x2, x3, c0, p]
      repeat' ((first | apply split_cond | apply split_yes | apply split_no) <;> intro hc <;> simp -implicitDefEqProofs only [hc, go_sem, simprocAttr, x0, x1, x2, x3, c0, p])
    have b0 : (nextS L (a1 + 1) 5 == 0) = false := by simpa using c0
    by_cases c1 : nextS L (a1 + 1) 5 = 1
    · obtain ⟨n, a2, p, r1, r2⟩ := g_Int h3 (by omega)
      refine ⟨⟨v.k, n, v.s⟩, a2, ?_, by omega, by omega, by simp only; omega, q3.2⟩
      rw [call_49]
      simp -implicitDefEqProofs only [go_sem, simprocAttr, Tryz.f49, x0, x1, x2, x3, c1, p]
      repeat' ((first | apply split_cond | apply split_yes | apply split_no) <;> intro hc <;> simp -implicitDefEqProofs only [hc, go_sem, simprocAttr, x0, x1, x2, x3, c1, p])
    have b1 : (nextS L (a1 + 1) 5 == 1) = false := by simpa using c1
    by_cases c2 : nextS L (a1 + 1) 5 = 2
    · obtain ⟨s, a2, p, r1, r2, r3⟩ := g_text h3 (by omega)
      refine ⟨⟨v.k, v.n, s⟩, a2, ?_, by omega, by omega, by simp only; omega, r3.2⟩
      rw [call_49]
      simp -implicitDefEqProofs only [go_sem, simprocAttr, Tryz.f49, x0, x1, x2, x3, c2, p]
      repeat' ((first | apply split_cond | apply split_yes | apply split_no) <;> intro hc <;> simp -implicitDefEqProofs only [hc, go_sem, simprocAttr, x0, x1, x2, x3, c2, p])
    have b2 : (nextS L (a1 + 1) 5 == 2) = false := by simpa using c2
    by_cases c3 : nextS L (a1 + 1) 5 = 3
    · have k1 : (v.s.length + 1 ≤ strMax) = True := eq_true (by unfold strMax; omega)
      refine ⟨⟨v.k, v.n, v.s ++ [10]⟩, a1 + 1 + 1, ?_, by omega, by omega, by simp; omega, by simp only; rw [List.count_append, q3.2]; rfl⟩
      rw [call_49]
      simp -implicitDefEqProofs only [go_sem, simprocAttr, Tryz.f49, x0, x1, x2, x3, c3, k1]
      repeat' ((first | apply split_cond | apply split_yes | apply split_no) <;> intro hc <;> simp -implicitDefEqProofs only [hc, go_sem, simprocAttr, x0, x1, x2, x3, c3, k1])
    have b3 : (nextS L (a1 + 1) 5 == 3) = false := by simpa using c3
    obtain ⟨x, hx, p⟩ := g_Pick h3 (by omega) [100, 101] (by decide) (by decide)
    have hxb : 0 ≤ x ∧ x ≤ 101 := (by decide : ∀ x ∈ ([100, 101] : List Int), 0 ≤ x ∧ x ≤ 101) x hx
    have pr := p_Repeat [122] x.toNat (by omega) (by simp)
    rw [Int.toNat_of_nonneg hxb.1] at pr
    simp only [List.map] at p
    refine ⟨⟨v.k, v.n, Lib.repeatL [122] x.toNat⟩, a1 + 1 + 1 + 1, ?_, by omega, by omega, ?_⟩
    · rw [call_49]
      simp -implicitDefEqProofs only [go_sem, simprocAttr, Tryz.f49, x0, x1, x2, x3, b0, b1, b2, b3, p, pr]
      repeat' ((first | apply split_cond | apply split_yes | apply split_no) <;> intro hc <;> simp -implicitDefEqProofs only [hc, go_sem, simprocAttr, x0, x1, x2, x3, b0, b1, b2, b3, p, pr])
    · simp only
      rw [Lib.repeatL_length]
      exact ⟨by simp; omega, rep_no _ rfl _⟩
theorem g_column (h : Gd L a B) (hB : 20 ≤ B) (nm : List UInt8) : ∃ (c : Col) (a' : Int), R K (.call 85 [.ptr 0 0, .str nm] (St L a)) = some (.agg (colC c), St L a') ∧ a ≤ a' ∧ a' ≤ a + 20 ∧ c.nm = nm := by
  obtain ⟨x, hx, p⟩ := g_Pick h (by omega) [2, 2, 3, 1, 4] (by decide) (by decide)
  simp only [List.map] at p
  have h1 := h.step (a + 1) (B - 1) (by omega) (by omega)
  have x1 := g_Flip h1 (by omega) 2
  have h2 := h1.step (a + 1 + 1) (B - 2) (by omega) (by omega)
  have x2 := g_Flip h2 (by omega) 4
  have h3 := h2.step (a + 1 + 1 + 1) (B - 3) (by omega) (by omega)
  generalize (nextS L (a + 1) 2 == 0) = b1 at *
  cases e2 : nextS L (a + 1 + 1) 4 == 0 with
  | true =>
    rw [e2] at x2
    obtain ⟨v, a', x3, q1, q2, _⟩ := g_Value h3 (by omega) x
    simp only [enc] at x3
    refine ⟨⟨nm, x, b1, v⟩, a', ?_, by omega, by omega, rfl⟩
    rw [call_85]
    simp -implicitDefEqProofs only [go_sem, simprocAttr, Tryz.f85, p, x1, x2, x3, colC]
    repeat' ((first | apply split_cond | apply split_yes | apply split_no) <;> intro hc <;> simp -implicitDefEqProofs only [hc, go_sem, simprocAttr, p, x1, x2, x3, colC])
  | false =>
    rw [e2] at x2
    refine ⟨⟨nm, x, b1, ⟨0, 0, []⟩⟩, a + 1 + 1 + 1, ?_, by omega, by omega, rfl⟩
    rw [call_85]
    simp -implicitDefEqProofs only [go_sem, simprocAttr, Tryz.f85, p, x1, x2, colC]
    repeat' ((first | apply split_cond | apply split_yes | apply split_no) <;> intro hc <;> simp -implicitDefEqProofs only [hc, go_sem, simprocAttr, p, x1, x2, colC])
def ints (l : List Int) : List (List AV) := l.map fun x => [I x]
def Lows (n : Nat) (l : List Int) : Prop := l.length = n ∧ ∀ x ∈ l, 0 ≤ x ∧ x < (n : Int)
theorem intsL (l : List Int) : (ints l).length = l.length := by simp [ints]
theorem ints_app (l : List Int) (x : Int) : ints l ++ [[I x]] = ints (l ++ [x]) := by simp [ints]
theorem ints_at {l : List Int} {i : Nat} {x : Int} (h : l[i]? = some x) : (ints l)[i]? = some [I x] := by simp [ints, h]
theorem ints_set (l : List Int) (i : Nat) (x : Int) : (ints l).set i [I x] = ints (l.set i x) := by simp [ints, List.map_set]
theorem locsR_ints : ∀ l : List Int, locsR (ints l) = []
  | [] => rfl
  | x :: l => by simpa [ints, locsR, locsL, locs] using locsR_ints l
theorem l_ord0 (n : Nat) (hn : n ≤ 20) : ∀ (q j : Nat) (l : List Int), n = j + q → l.length = j → (∀ x ∈ l, 0 ≤ x ∧ x < (n : Int)) → ∃ l', Lows n l' ∧ ∀ (ks : List It) (Bo : Code) (jj : Int), Loop Tryz.f86 0 Bo → jj = (j : Int) →
    RL K (.run 86 1 (.code Bo :: .lp Bo (some ([0, 1, 5, 9, 10], [])) 2 :: .blk 0 2 :: ks) [(0, .ptr 0 0), (1, I (n : Int)), (5, .own 1 l.length), (9, I (n : Int)), (10, I jj)] [.cells [LR L, I a], .rows 1 (ints l) true]) =
    R K (.run 86 1 ks [(0, .ptr 0 0), (1, I (n : Int)), (5, .own 1 n)] [.cells [LR L, I a], .rows 1 (ints l') true])
  | 0, j, l, hq, hl, hx => by
    have d : ¬ (j : Int) < (n : Int) := by omega
    have e : l.length = n := by omega
    refine ⟨l, ⟨e, hx⟩, fun ks Bo jj hB hj => ?_⟩
    subst hj
    unfold Loop at hB
    simp -implicitDefEqProofs only [go_sem, simprocAttr, Tryz.f86, loopOf] at hB
    subst hB
    rw [RL_eq]
    simp -implicitDefEqProofs only [go_sem, simprocAttr, d, locsR_ints, e]
    repeat' ((first | apply split_cond | apply split_yes | apply split_no) <;> intro hc <;> simp -implicitDefEqProofs only [hc, go_sem, simprocAttr, d, locsR_ints, e])
  | q + 1, j, l, hq, hl, hx => by
    have d : (j : Int) < (n : Int) := by omega
    have h7 := next_id (i := j) (n := n) (by omega) (by omega)
    obtain ⟨l', p, ih⟩ := l_ord0 n hn q (j + 1) (l ++ [(j : Int)]) (by omega) (by simp [hl]) (fun x hx' => by
      rcases List.mem_append.1 hx' with h | h
      · exact hx x h
      · rw [List.mem_singleton] at h; omega)
    refine ⟨l', p, fun ks Bo jj hB hj => ?_⟩
    subst hj
    have ih := ih ks Bo _ hB rfl
    have rm : ((l.length + 1) * 9 ≤ roomMax) = True := eq_true (by unfold roomMax; omega)
    simp only [List.length_append, List.length_cons, List.length_nil, Nat.zero_add] at ih
    unfold Loop at hB
    simp -implicitDefEqProofs only [go_sem, simprocAttr, Tryz.f86, loopOf] at hB
    subst hB
    rw [RL_eq]
    simp -implicitDefEqProofs only [go_sem, simprocAttr, d, h7, locsR_ints, intsL, ints_app, rm]
    repeat' ((first | apply split_cond | apply split_yes | apply split_no) <;> intro hc <;> simp -implicitDefEqProofs only [hc, go_sem, simprocAttr, d, h7, locsR_ints, intsL, ints_app, rm])
    exact ih
theorem lows_set {n : Nat} {l : List Int} (h : Lows n l) (i : Nat) {x : Int} (hx : x ∈ l) : Lows n (l.set i x) := by
  refine ⟨by rw [List.length_set]; exact h.1, fun y hy => ?_⟩
  rcases List.mem_or_eq_of_mem_set hy with h1 | h1
  · exact h.2 y h1
  · rw [h1]; exact h.2 x hx
theorem l_ord2 (n : Nat) (hn : n ≤ 20) : ∀ (i : Nat) (l : List Int) (a B : Int), i < n → Gd L a B → (i : Int) ≤ B → Lows n l → ∃ (l' : List Int) (a' : Int), a ≤ a' ∧ a' ≤ a + i ∧ Lows n l' ∧ ∀ (ks : List It) (Bo : Code), Loop Tryz.f86 2 Bo →
    RL K (.run 86 1 (.code Bo :: .lp Bo (some ([0, 5, 7], [])) 2 :: .blk 2 2 :: ks) [(0, .ptr 0 0), (5, .own 1 n), (7, I (i : Int))] [.cells [LR L, I a], .rows 1 (ints l) true]) =
    R K (.run 86 1 ks [(5, .own 1 n)] [.cells [LR L, I a'], .rows 1 (ints l') true])
  | 0, l, a, B, hi, hG, hB', hl => by
    refine ⟨l, a, by omega, by omega, hl, fun ks Bo hB => ?_⟩
    unfold Loop at hB
    simp -implicitDefEqProofs only [go_sem, simprocAttr, Tryz.f86, loopOf] at hB
    subst hB
    rw [RL_eq]
    simp -implicitDefEqProofs only [go_sem, simprocAttr, locsR_ints]
    repeat' ((first | apply split_cond | apply split_yes | apply split_no) <;> intro hc <;> simp -implicitDefEqProofs only [hc, go_sem, simprocAttr, locsR_ints])
  | i + 1, l, a, B, hi, hG, hB', hl => by
    have hx0 := g_Next hG (by omega) ((i : Int) + 1 + 1)
    have b0 := next_bounds L a ((i : Int) + 1 + 1) (by omega) (by omega)
    obtain ⟨k, hk⟩ : ∃ k : Nat, nextS L a ((i : Int) + 1 + 1) = (k : Int) := ⟨(nextS L a ((i : Int) + 1 + 1)).toNat, by omega⟩
    rw [hk] at hx0 b0
    have hll := hl.1
    obtain ⟨xi, hxi⟩ := some_at (l := l) (i := i + 1) (by omega)
    obtain ⟨xk, hxk⟩ := some_at (l := l) (i := k) (by omega)
    have mi := List.mem_of_getElem? hxi
    have mk := List.mem_of_getElem? hxk
    have l1 := lows_set hl (i + 1) mk
    have hxi1 : xi ∈ l.set (i + 1) xk ∨ True := .inr trivial
    obtain ⟨z, hz⟩ := some_at (l := l.set (i + 1) xk) (i := k) (by rw [List.length_set]; omega)
    have l2 : Lows n ((l.set (i + 1) xk).set k xi) := by
      refine ⟨by rw [List.length_set, List.length_set]; exact hl.1, fun y hy => ?_⟩
      rcases List.mem_or_eq_of_mem_set hy with h1 | h1
      · exact l1.2 y h1
      · rw [h1]; exact hl.2 xi mi
    obtain ⟨l', a', q1, q2, q3, ih⟩ := l_ord2 n hn i ((l.set (i + 1) xk).set k xi) (a + 1) (B - 1) (by omega) (hG.step _ _ (by omega) (by omega)) (by omega) l2
    refine ⟨l', a', by omega, by omega, q3, fun ks Bo hB => ?_⟩
    have ih := ih ks Bo hB
    have c1 : (((i + 1 : Nat) : Int)) = (i : Int) + 1 := by omega
    have w1 : wrapI .i64 ((i : Int) + 1 + 1) = (i : Int) + 1 + 1 := wrap_id (by omega) (by omega)
    have w2 : wrapI .i64 ((i : Int) + 1 - 1) = (i : Int) := by rw [wrap_id (by omega) (by omega)]; omega
    have d : ((i : Int) + 1 > 0) = True := eq_true (by omega)
    have d2 : ((0 : Int) < (i : Int) + 1) = True := eq_true (by omega)
    have ai : at? (ints l) ((i : Int) + 1) = some [I xi] := by
      have := at_get (ints_at hxi); rw [c1] at this; exact this
    have ak := at_get (ints_at hxk)
    have bi := ints_at hxi
    have bk := ints_at hxk
    have bz := ints_at hz
    have az := at_get bz
    have ti : ((i : Int) + 1).toNat = i + 1 := by omega
    have sp : ∀ b c : Int, splice [I b] 0 [I c] = [I c] := fun _ _ => rfl
    have n1 : (ints l).length = n := by rw [intsL]; exact hl.1
    have n2 : (ints (l.set (i + 1) xk)).length = n := by rw [intsL]; exact l1.1
    rw [c1]
    unfold Loop at hB
    simp -implicitDefEqProofs only [go_sem, simprocAttr, Tryz.f86, loopOf] at hB
    subst hB
    rw [RL_eq]
    simp -implicitDefEqProofs only [go_sem, simprocAttr, hx0, w1, w2, d, d2, ai, ak, bi, bk, bz, az, ti, sp, n1, n2, ints_set, locsR_ints, Int.toNat_natCast]
    repeat' ((first | apply split_cond | apply split_yes | apply split_no) <;> intro hc <;> simp -implicitDefEqProofs only [hc, go_sem, simprocAttr, hx0, w1, w2, d, d2, ai, ak, bi, bk, bz, az, ti, sp, n1, n2, ints_set, locsR_ints, Int.toNat_natCast])
    exact ih
theorem g_Order (h : Gd L a B) (n : Nat) (h1 : 1 ≤ n) (hn : n ≤ 20) (hB : 20 ≤ B) : ∃ (l : List Int) (a' : Int), Lows n l ∧ a ≤ a' ∧ a' ≤ a + 20 ∧ R K (.call 86 [.ptr 0 0, I (n : Int)] (St L a)) = some (.rows (ints l), St L a') := by
  obtain ⟨l0, p0, e0⟩ := l_ord0 (L := L) (a := a) n hn n 0 [] (by omega) rfl (by simp)
  obtain ⟨l, a', q1, q2, q3, e2⟩ := l_ord2 (L := L) n hn (n - 1) l0 a B (by omega) h (by omega) p0
  have w : wrapI .i64 ((n : Int) - 1) = ((n - 1 : Nat) : Int) := by rw [wrap_id (by omega) (by omega)]; omega
  have nl : (ints l).length = n := by rw [intsL]; exact q3.1
  refine ⟨l, a', q3, q1, by omega, ?_⟩
  rw [show ints [] = [] from rfl, List.length_nil] at e0
  rw [call_86]
  simp -implicitDefEqProofs only [go_sem, simprocAttr, Tryz.f86]
  repeat' ((first | apply split_cond | apply split_yes | apply split_no) <;> intro hc <;> simp -implicitDefEqProofs only [hc, go_sem, simprocAttr])
  rw [e0 _ _ 0 ?_ rfl]
  · simp -implicitDefEqProofs only [go_sem, simprocAttr, w]
    repeat' ((first | apply split_cond | apply split_yes | apply split_no) <;> intro hc <;> simp -implicitDefEqProofs only [hc, go_sem, simprocAttr, w])
    rw [e2 _ _ ?_]
    · simp -implicitDefEqProofs only [go_sem, simprocAttr, locsR_ints, nl, true_or]
      repeat' ((first | apply split_cond | apply split_yes | apply split_no) <;> intro hc <;> simp -implicitDefEqProofs only [hc, go_sem, simprocAttr, locsR_ints, nl, true_or])
    · rfl
  · rfl
end
attribute [go_sem] R_pst
abbrev idB : List UInt8 := [105, 100]
abbrev kB : List UInt8 := [107]
abbrev idCol : Col := ⟨[105, 100], 2, false, ⟨0, 0, []⟩⟩
abbrev ret5 : Blk := .cells [.str [], .nils, .nils, .nils, .nils]
theorem locsR_cols : ∀ l : List Col, locsR (l.map colC) = []
  | [] => rfl
  | x :: l => by simpa [colC, locsR, locsL, locs] using locsR_cols l
theorem cols_app (l : List Col) (c : Col) : l.map colC ++ [colC c] = (l ++ [c]).map colC := by simp
theorem letter (j : Nat) (hj : j ≤ 10) : ∃ s : List UInt8, (Utf8.encode (wrapI .i32 (97 + (j : Int)))).data.toList = s ∧ s.length ≤ 4 := by
  refine ⟨_, rfl, ?_⟩
  have h : ∀ n : Fin 11, (Utf8.encode (wrapI .i32 (97 + (n.val : Int)))).data.toList.length ≤ 4 := by decide
  exact h ⟨j, by omega⟩
structure ColsOk (cols : List Col) (m : Nat) : Prop where
  len : cols.length ≤ m
  pos : 1 ≤ cols.length
  nm : ∀ c ∈ cols, c.nm.length ≤ 100
  id : idB ∈ cols.map (·.nm)
theorem ColsOk.add {cols : List Col} {m : Nat} (h : ColsOk cols m) (c : Col) (hc : c.nm.length ≤ 100) : ColsOk (cols ++ [c]) (m + 1) := by
  refine ⟨by simp; exact h.len, by simp, fun d hd => ?_, by rw [List.map_append]; exact List.mem_append_left _ h.id⟩
  rcases List.mem_append.1 hd with h1 | h1
  · exact h.nm d h1
  · rw [List.mem_singleton] at h1; rw [h1]; exact hc
section
variable {L : List Int}
theorem l_tb0 (nm : List UInt8) (r : Nat) (hr : r ≤ 4) (kv : AV) (kt : Heap) (m : Nat) (hs : (kv = .lit (SLs [idB]) ∧ kt = [] ∧ m = 3) ∨ (kv = .own 4 2 ∧ kt = [.rows 1 (SLs [idB, kB]) false] ∧ m = 5)) : ∀ (q j : Nat) (cols : List Col) (a B : Int) (u : Nat), r = j + q → u + q ≤ 10 → Gd L a B → (20 * q : Int) ≤ B → ColsOk cols u →
    ∃ (cols' : List Col) (a' : Int), a ≤ a' ∧ a' ≤ a + 20 * q ∧ ColsOk cols' (u + q) ∧ (∀ n ∈ cols.map (·.nm), n ∈ cols'.map (·.nm)) ∧ ∀ (ks : List It) (Bo : Code) (jj : Int), Loop Tryz.f40 0 Bo → jj = (j : Int) →
    RL K (.run 40 1 (.code Bo :: .lp Bo (some ([0, 4, 5, 33, 34], [])) m :: .blk 0 m :: ks) [(0, .ptr 0 0), (4, .ptr 1 0), (5, .ptr 2 0), (33, I (r : Int)), (34, I jj)] (.cells [LR L, I a] :: ret5 :: .cells [.str nm, .own 3 cols.length, kv, .nils, .nils] :: .rows 6 (cols.map colC) true :: kt)) =
    R K (.run 40 1 ks [(0, .ptr 0 0), (4, .ptr 1 0), (5, .ptr 2 0)] (.cells [LR L, I a'] :: ret5 :: .cells [.str nm, .own 3 cols'.length, kv, .nils, .nils] :: .rows 6 (cols'.map colC) true :: kt))
  | 0, j, cols, a, B, u, hq, hu, hG, hB', hc => by
    have d : ¬ (j : Int) < (r : Int) := by omega
    refine ⟨cols, a, by omega, by omega, hc, fun n hn => hn, fun ks Bo jj hB hj => ?_⟩
    subst hj
    rcases hs with ⟨rfl, rfl, rfl⟩ | ⟨rfl, rfl, rfl⟩
    · unfold Loop at hB
      simp -implicitDefEqProofs only [go_sem, simprocAttr, Tryz.f40, loopOf] at hB
      subst hB
      rw [RL_eq]
      simp -implicitDefEqProofs only [go_sem, simprocAttr, d, locsR_cols, locsR_SLs]
      repeat' ((first | apply split_cond | apply split_yes | apply split_no) <;> intro hc <;> simp -implicitDefEqProofs only [hc, go_sem, simprocAttr, d, locsR_cols, locsR_SLs])
    · unfold Loop at hB
      simp -implicitDefEqProofs only [go_sem, simprocAttr, Tryz.f40, loopOf] at hB
      subst hB
      rw [RL_eq]
      simp -implicitDefEqProofs only [go_sem, simprocAttr, d, locsR_cols, locsR_SLs]
      repeat' ((first | apply split_cond | apply split_yes | apply split_no) <;> intro hc <;> simp -implicitDefEqProofs only [hc, go_sem, simprocAttr, d, locsR_cols, locsR_SLs])
  | q + 1, j, cols, a, B, u, hq, hu, hG, hB', hc => by
    have d : (j : Int) < (r : Int) := by omega
    have h7 := next_id (i := j) (n := r) (by omega) (by omega)
    obtain ⟨s, es, hsl⟩ := letter j (by omega)
    have w1 : wrapI .i64 (97 + (j : Int)) = 97 + (j : Int) := wrap_id (by omega) (by omega)
    obtain ⟨c, a1, x1, q1, q2, q3⟩ := g_column hG (by omega) (99 :: s)
    obtain ⟨cols', a', p1, p2, p3, p4, ih⟩ := l_tb0 nm r hr kv kt m hs q (j + 1) (cols ++ [c]) a1 (B - 20) (u + 1) (by omega) (by omega) (hG.step _ _ (by omega) (by omega)) (by omega) (hc.add c (by rw [q3]; simp; omega))
    refine ⟨cols', a', by omega, by omega, by rw [show u + (q + 1) = u + 1 + q by omega]; exact p3, fun n hn => p4 n (by rw [List.map_append]; exact List.mem_append_left _ hn), fun ks Bo jj hB hj => ?_⟩
    subst hj
    have ih := ih ks Bo _ hB rfl
    have hcl := hc.len
    have ca := cols_app cols c
    have al := allLen_cols cols
    have rm : ((cols.length + 1) * 65 ≤ roomMax) = True := eq_true (by unfold roomMax; omega)
    have st : (1 + s.length ≤ strMax) = True := eq_true (by unfold strMax; omega)
    simp only [List.length_append, List.length_cons, List.length_nil, Nat.zero_add, colC] at ih x1 ca
    rcases hs with ⟨rfl, rfl, rfl⟩ | ⟨rfl, rfl, rfl⟩
    · unfold Loop at hB
      simp -implicitDefEqProofs only [go_sem, simprocAttr, Tryz.f40, loopOf] at hB
      subst hB
      rw [RL_eq]
      simp -implicitDefEqProofs only [go_sem, simprocAttr, d, h7, w1, es, x1, ca, al, rm, st, colC, locsR_cols, locsR_SLs, List.length_map]
      repeat' ((first | apply split_cond | apply split_yes | apply split_no) <;> intro hc <;> simp -implicitDefEqProofs only [hc, go_sem, simprocAttr, d, h7, w1, es, x1, ca, al, rm, st, colC, locsR_cols, locsR_SLs, List.length_map])
      exact ih
    · unfold Loop at hB
      simp -implicitDefEqProofs only [go_sem, simprocAttr, Tryz.f40, loopOf] at hB
      subst hB
      rw [RL_eq]
      simp -implicitDefEqProofs only [go_sem, simprocAttr, d, h7, w1, es, x1, ca, al, rm, st, colC, locsR_cols, locsR_SLs, List.length_map]
      repeat' ((first | apply split_cond | apply split_yes | apply split_no) <;> intro hc <;> simp -implicitDefEqProofs only [hc, go_sem, simprocAttr, d, h7, w1, es, x1, ca, al, rm, st, colC, locsR_cols, locsR_SLs, List.length_map])
      exact ih
end
theorem locsR_idx : ∀ l : List Idx, locsR (l.map idxC) = []
  | [] => rfl
  | x :: l => by simpa [idxC, locsR, locsL, locs] using locsR_idx l
theorem idx_app (l : List Idx) (c : Idx) : l.map idxC ++ [idxC c] = (l ++ [c]).map idxC := by simp
theorem SLs_nil : SLs [] = [] := rfl
theorem ints_take (l : List Int) (k : Nat) : List.take k (ints l) = ints (l.take k) := by simp [ints, List.map_take]
theorem allLen_ints : ∀ l : List Int, allLen 1 (ints l) = true
  | [] => rfl
  | x :: l => by simpa [ints, allLen] using allLen_ints l
def TbS (cols : List Col) (key : List (List UInt8)) (cv kv : AV) (g : Heap) : Prop :=
  (cv = .lit (cols.map colC) ∧ kv = .lit (SLs key) ∧ g = []) ∨ (cv = .rows (cols.map colC) ∧ kv = .lit (SLs key) ∧ g = [.hole]) ∨ (cv = .rows (cols.map colC) ∧ kv = .rows (SLs key) ∧ g = [.hole, .hole])
section
variable {L : List Int}
theorem l_tb4 (nm inm : List UInt8) (uq : Bool) (cols : List Col) (key : List (List UInt8)) (cv kv : AV) (g : Heap) (hs : TbS cols key cv kv g) (a : Int) (is : List Idx) (r i : Int) (ps : List Int) (hp : ∀ x ∈ ps, 0 ≤ x ∧ x < (cols.length : Int)) (hpl : ps.length ≤ 2) : ∀ (q j : Nat) (ns : List (List UInt8)), ps.length = j + q → ns.length ≤ j →
    ∃ ns' : List (List UInt8), ns'.length ≤ 2 ∧ ∀ (ks : List It) (Bo : Code) (jj : Int), Loop Tryz.f40 4 Bo → jj = (j : Int) →
    RL K (.run 40 1 (.code Bo :: .lp Bo (some ([0, 4, 5, 8, 51, 52, 74, 75, 76], [])) (6 + g.length) :: .blk 4 (6 + g.length) :: ks) [(0, .ptr 0 0), (4, .ptr 1 0), (5, .ptr 2 0), (8, .ptr (4 + g.length) 0), (51, I r), (52, I i), (74, .rows (ints ps)), (75, I (ps.length : Int)), (76, I jj)] (.cells [LR L, I a] :: ret5 :: .cells [.str nm, cv, kv, .nils, .own (3 + g.length) is.length] :: (g ++ [.rows 3 (is.map idxC) false, .cells [.str inm, .own (5 + g.length) ns.length, .bool uq], .rows 1 (SLs ns) false]))) =
    R K (.run 40 1 ks [(0, .ptr 0 0), (4, .ptr 1 0), (5, .ptr 2 0), (8, .ptr (4 + g.length) 0), (51, I r), (52, I i)] (.cells [LR L, I a] :: ret5 :: .cells [.str nm, cv, kv, .nils, .own (3 + g.length) is.length] :: (g ++ [.rows 3 (is.map idxC) false, .cells [.str inm, .own (5 + g.length) ns'.length, .bool uq], .rows 1 (SLs ns') false])))
  | 0, j, ns, hq, hl => by
    have d : ¬ (j : Int) < (ps.length : Int) := by omega
    refine ⟨ns, by omega, fun ks Bo jj hB hj => ?_⟩
    subst hj
    rcases hs with ⟨rfl, rfl, rfl⟩ | ⟨rfl, rfl, rfl⟩ | ⟨rfl, rfl, rfl⟩
    all_goals
      simp only [List.length_cons, List.length_nil, Nat.zero_add, Nat.add_zero, Nat.reduceAdd, List.cons_append, List.nil_append]
      unfold Loop at hB
      simp -implicitDefEqProofs only [go_sem, simprocAttr, Tryz.f40, loopOf] at hB
      subst hB
      rw [RL_eq]
      simp -implicitDefEqProofs only [go_sem, simprocAttr, d, locsR_cols, locsR_SLs, locsR_idx]
      repeat' ((first | apply split_cond | apply split_yes | apply split_no) <;> intro hc <;> simp -implicitDefEqProofs only [hc, go_sem, simprocAttr, d, locsR_cols, locsR_SLs, locsR_idx])
  | q + 1, j, ns, hq, hl => by
    have d : (j : Int) < (ps.length : Int) := by omega
    have h7 := next_id (i := j) (n := ps.length) (by omega) (by omega)
    obtain ⟨x, hx⟩ := some_at (l := ps) (i := j) (by omega)
    have hxb := hp x (List.mem_of_getElem? hx)
    have gx := at_get (ints_at hx)
    obtain ⟨c, hc⟩ := some_at (l := cols) (i := x.toNat) (by omega)
    have gc := col_get hc
    rw [Int.toNat_of_nonneg hxb.1] at gc
    obtain ⟨ns', p1, ih⟩ := l_tb4 nm inm uq cols key cv kv g hs a is r i ps hp hpl q (j + 1) (ns ++ [c.nm]) (by omega) (by simp; omega)
    refine ⟨ns', p1, fun ks Bo jj hB hj => ?_⟩
    subst hj
    have ih := ih ks Bo _ hB rfl
    have sa := SLs_app ns c.nm
    have rm : ((ns.length + 1) * 17 ≤ roomMax) = True := eq_true (by unfold roomMax; omega)
    simp only [colC] at gc
    rcases hs with ⟨rfl, rfl, rfl⟩ | ⟨rfl, rfl, rfl⟩ | ⟨rfl, rfl, rfl⟩
    all_goals
      simp only [List.length_cons, List.length_nil, List.length_append, Nat.zero_add, Nat.add_zero, Nat.reduceAdd, List.cons_append, List.nil_append] at ih ⊢
      unfold Loop at hB
      simp -implicitDefEqProofs only [go_sem, simprocAttr, Tryz.f40, loopOf] at hB
      subst hB
      rw [RL_eq]
      simp -implicitDefEqProofs only [go_sem, simprocAttr, d, h7, gx, gc, sa, rm, SLs_len, locsR_cols, locsR_SLs, locsR_idx]
      repeat' ((first | apply split_cond | apply split_yes | apply split_no) <;> intro hc <;> simp -implicitDefEqProofs only [hc, go_sem, simprocAttr, d, h7, gx, gc, sa, rm, SLs_len, locsR_cols, locsR_SLs, locsR_idx])
      exact ih
end
def IdxOk (is : List Idx) (m : Nat) : Prop := is.length ≤ m ∧ ∀ x ∈ is, x.nm.length ≤ 100 ∧ x.cols.length ≤ 2
section
variable {L : List Int}
theorem l_tb2 (nm : List UInt8) (cols : List Col) (hc : ColsOk cols 6) (key : List (List UInt8)) (cv kv : AV) (g : Heap) (hs : TbS cols key cv kv g) (r : Nat) (hr : r ≤ 2) : ∀ (q i : Nat) (is : List Idx) (a B : Int), r = i + q → Gd L a B → (30 * q : Int) ≤ B → IdxOk is i →
    ∃ (is' : List Idx) (a' : Int), a ≤ a' ∧ a' ≤ a + 30 * q ∧ IdxOk is' 2 ∧ ∀ (ks : List It) (Bo : Code) (ii : Int), Loop Tryz.f40 2 Bo → ii = (i : Int) →
    RL K (.run 40 1 (.code Bo :: .lp Bo (some ([0, 4, 5, 51, 52], [])) (4 + g.length) :: .blk 2 (4 + g.length) :: ks) [(0, .ptr 0 0), (4, .ptr 1 0), (5, .ptr 2 0), (51, I (r : Int)), (52, I ii)] (.cells [LR L, I a] :: ret5 :: .cells [.str nm, cv, kv, .nils, .own (3 + g.length) is.length] :: (g ++ [.rows 3 (is.map idxC) false]))) =
    R K (.run 40 1 ks [(4, .ptr 1 0), (5, .ptr 2 0)] (.cells [LR L, I a'] :: ret5 :: .cells [.str nm, cv, kv, .nils, .own (3 + g.length) is'.length] :: (g ++ [.rows 3 (is'.map idxC) false])))
  | 0, i, is, a, B, hq, hG, hB', hi => by
    have d : ¬ (i : Int) < (r : Int) := by omega
    refine ⟨is, a, by omega, by omega, ⟨by have := hi.1; omega, hi.2⟩, fun ks Bo ii hB hii => ?_⟩
    subst hii
    rcases hs with ⟨rfl, rfl, rfl⟩ | ⟨rfl, rfl, rfl⟩ | ⟨rfl, rfl, rfl⟩
    all_goals
      simp only [List.length_cons, List.length_nil, Nat.zero_add, Nat.add_zero, Nat.reduceAdd, List.cons_append, List.nil_append]
      unfold Loop at hB
      simp -implicitDefEqProofs only [go_sem, simprocAttr, Tryz.f40, loopOf] at hB
      subst hB
      rw [RL_eq]
      simp -implicitDefEqProofs only [go_sem, simprocAttr, d, locsR_cols, locsR_SLs, locsR_idx]
      repeat' ((first | apply split_cond | apply split_yes | apply split_no) <;> intro hc <;> simp -implicitDefEqProofs only [hc, go_sem, simprocAttr, d, locsR_cols, locsR_SLs, locsR_idx])
  | q + 1, i, is, a, B, hq, hG, hB', hi => by
    have d : (i : Int) < (r : Int) := by omega
    have h7 := next_id (i := i) (n := r) (by omega) (by omega)
    obtain ⟨s, es, hsl⟩ := letter i (by omega)
    have w1 : wrapI .i64 (97 + (i : Int)) = 97 + (i : Int) := wrap_id (by omega) (by omega)
    have hc1 := hc.pos
    have hc6 := hc.len
    have x1 := g_Flip hG (by omega) 2
    have G1 := hG.step (a + 1) (B - 1) (by omega) (by omega)
    generalize (nextS L a 2 == 0) = uq at *
    obtain ⟨o, a1, p1, p2, p3, x2⟩ := g_Order G1 cols.length hc1 (by omega) (by omega)
    have G2 := G1.step a1 (B - 21) (by omega) (by omega)
    obtain ⟨b, hb1, hb2, hb3, hb4⟩ : ∃ b : Int, 1 ≤ b ∧ b ≤ 2 ∧ b ≤ (cols.length : Int) ∧ (if (cols.length : Int) < 2 then (cols.length : Int) else 2) = b := by
      refine ⟨_, ?_, ?_, ?_, rfl⟩ <;> split <;> omega
    have x3 := g_Range G2 (by omega) 1 b (by omega) (by omega) (by omega)
    have b3 := range_bounds L a1 1 b (by omega) (by omega)
    obtain ⟨kk, hkk⟩ : ∃ k : Nat, rngS L a1 1 b = (k : Int) := ⟨(rngS L a1 1 b).toNat, by omega⟩
    rw [hkk] at x3 b3
    have G3 := G2.step (a1 + 1) (B - 22) (by omega) (by omega)
    have hol := p1.1
    obtain ⟨ns', n1, e4⟩ := l_tb4 (L := L) nm (105 :: s) uq cols key cv kv g hs (a1 + 1) is (r : Int) (i : Int) (o.take kk) (fun x hx => p1.2 x (List.mem_of_mem_take hx)) (by rw [List.length_take]; omega) (o.take kk).length 0 [] (by omega) (by simp)
    have hlt : (o.take kk).length = kk := by rw [List.length_take]; omega
    rw [hlt] at e4
    have hadd : IdxOk (is ++ [⟨105 :: s, ns', uq⟩]) (i + 1) := by
      refine ⟨by rw [List.length_append]; have := hi.1; simp; omega, fun x hx => ?_⟩
      rcases List.mem_append.1 hx with h | h
      · exact hi.2 x h
      · rw [List.mem_singleton] at h; subst h; exact ⟨by simp; omega, n1⟩
    obtain ⟨is', a', q1, q2, q3, ih⟩ := l_tb2 nm cols hc key cv kv g hs r hr q (i + 1) (is ++ [⟨105 :: s, ns', uq⟩]) (a1 + 1) (B - 30) (by omega) (G3.step _ _ (by omega) (by omega)) (by omega) hadd
    refine ⟨is', a', by omega, by omega, q3, fun ks Bo ii hB hii => ?_⟩
    subst hii
    have ih := ih ks Bo _ hB rfl
    have hil := hi.1
    have ia := idx_app is ⟨105 :: s, ns', uq⟩
    have rm : ((is.length + 1) * 49 ≤ roomMax) = True := eq_true (by unfold roomMax; omega)
    have st : (1 + s.length ≤ strMax) = True := eq_true (by unfold strMax; omega)
    have g1 : ((kk : Int) ≤ (o.length : Int)) = True := eq_true (by omega)
    have g2 : ((0 : Int) ≤ (kk : Int)) = True := eq_true (by omega)
    simp only [idxC] at ia
    rcases hs with ⟨rfl, rfl, rfl⟩ | ⟨rfl, rfl, rfl⟩ | ⟨rfl, rfl, rfl⟩
    all_goals
      simp only [List.length_cons, List.length_nil, List.length_append, Nat.zero_add, Nat.add_zero, Nat.reduceAdd, List.cons_append, List.nil_append, SLs_nil] at ih e4 ⊢
      unfold Loop at hB
      simp -implicitDefEqProofs only [go_sem, simprocAttr, Tryz.f40, loopOf] at hB
      subst hB
      rw [RL_eq]
      simp -implicitDefEqProofs only [go_sem, simprocAttr, d, h7, w1, es, st, x1, x2, x3, hb4, g1, g2, ints_take, allLen_ints, intsL, hlt, Int.toNat_natCast, Nat.sub_zero, List.length_map, locsR_cols, locsR_SLs, locsR_idx]
      repeat' ((first | apply split_cond | apply split_yes | apply split_no) <;> intro hc <;> simp -implicitDefEqProofs only [hc, go_sem, simprocAttr, d, h7, w1, es, st, x1, x2, x3, hb4, g1, g2, ints_take, allLen_ints, intsL, hlt, Int.toNat_natCast, Nat.sub_zero, List.length_map, locsR_cols, locsR_SLs, locsR_idx])
      rw [e4 _ _ 0 ?_ rfl]
      · simp -implicitDefEqProofs only [go_sem, simprocAttr, h7, ia, rm, idxC, SLs_len, List.length_map, locsR_cols, locsR_SLs, locsR_idx]
        repeat' ((first | apply split_cond | apply split_yes | apply split_no) <;> intro hc <;> simp -implicitDefEqProofs only [hc, go_sem, simprocAttr, h7, ia, rm, idxC, SLs_len, List.length_map, locsR_cols, locsR_SLs, locsR_idx])
        exact ih
      · rfl
end
structure GenT (t : Tbl) : Prop where
  nm : t.nm.length ≤ 100
  cols : ColsOk t.cols 6
  key : t.key.length ≤ 2
  keyIn : ∀ n ∈ t.key, n ∈ t.cols.map (·.nm)
  fgn : t.fgn = []
  idx : IdxOk t.idx 2
theorem cols_id : ColsOk [idCol] 1 := ⟨by simp, by simp, by simp, by simp⟩
theorem idx_nil : IdxOk [] 0 := ⟨by simp, by simp⟩
section
variable {L : List Int} {a B : Int}
theorem g_table (h : Gd L a B) (hB : 200 ≤ B) (nm : List UInt8) (hn : nm.length ≤ 100) : ∃ (t : Tbl) (a' : Int), R K (.call 40 [.ptr 0 0, .str nm] (St L a)) = some (tblA t, St L a') ∧ a ≤ a' ∧ a' ≤ a + 200 ∧ GenT t ∧ t.nm = nm := by
  have x0 := g_Flip h (by omega) 4
  have h1 := h.step (a + 1) (B - 1) (by omega) (by omega)
  cases e0 : nextS L a 4 == 0 with
  | false =>
    rw [e0] at x0
    have x1 := g_Range h1 (by omega) 0 4 (by omega) (by omega) (by omega)
    have b1 := range_bounds L (a + 1) 0 4 (by omega) (by omega)
    have h2 := h1.step (a + 1 + 1) (B - 2) (by omega) (by omega)
    obtain ⟨r, hr⟩ : ∃ k : Nat, rngS L (a + 1) 0 4 = (k : Int) := ⟨(rngS L (a + 1) 0 4).toNat, by omega⟩
    rw [hr] at x1 b1
    cases r with
    | zero =>
      have x2 := g_Next h2 (by omega) 3
      have b2 := next_bounds L (a + 1 + 1) 3 (by omega) (by omega)
      obtain ⟨u, hu⟩ : ∃ k : Nat, nextS L (a + 1 + 1) 3 = (k : Int) := ⟨(nextS L (a + 1 + 1) 3).toNat, by omega⟩
      rw [hu] at x2 b2
      have h3 := h2.step (a + 1 + 1 + 1) (B - 3) (by omega) (by omega)
      obtain ⟨is, a', q1, q2, q3, e2⟩ := l_tb2 (L := L) nm [idCol] ⟨by simp, by simp, by simp, by simp⟩ [idB] _ _ _ (.inl ⟨rfl, rfl, rfl⟩) u (by omega) u 0 [] _ _ (by omega) h3 (by omega) idx_nil
      refine ⟨⟨nm, [idCol], [idB], [], is⟩, a', ?_, by omega, by omega, ⟨hn, ⟨by simp, by simp, by simp, by simp⟩, by simp, by simp, rfl, q3⟩, rfl⟩
      simp only [SLs, List.length_nil, Nat.add_zero, List.nil_append, List.map_nil, List.map_cons, colC] at e2
      rw [call_40]
      simp -implicitDefEqProofs only [go_sem, simprocAttr, Tryz.f40, x0, x1]
      repeat' ((first | apply split_cond | apply split_yes | apply split_no) <;> intro hc <;> simp -implicitDefEqProofs only [hc, go_sem, simprocAttr, x0, x1])
      rw [RL_eq]
      simp -implicitDefEqProofs only [go_sem, simprocAttr, x2]
      repeat' ((first | apply split_cond | apply split_yes | apply split_no) <;> intro hc <;> simp -implicitDefEqProofs only [hc, go_sem, simprocAttr, x2])
      rw [e2 _ _ 0 ?_ rfl]
      · simp -implicitDefEqProofs only [go_sem, simprocAttr, tblC, locsR_idx, List.length_map, or_self]
        repeat' ((first | apply split_cond | apply split_yes | apply split_no) <;> intro hc <;> simp -implicitDefEqProofs only [hc, go_sem, simprocAttr, tblC, locsR_idx, List.length_map, or_self])
        rfl
      · rfl
    | succ r =>
      obtain ⟨s, es, hsl⟩ := letter 0 (by omega)
      rw [show (97 + ((0 : Nat) : Int)) = 97 from rfl] at es
      obtain ⟨c, a1, y1, q1, q2, q3⟩ := g_column h2 (by omega) (99 :: s)
      have h3 := h2.step a1 (B - 30) (by omega) (by omega)
      obtain ⟨cols, a2, p1, p2, p3, p4, e0⟩ := l_tb0 (L := L) nm (r + 1) (by omega) _ _ 3 (.inl ⟨rfl, rfl, rfl⟩) r 1 [idCol, c] a1 (B - 30) 2 (by omega) (by omega) h3 (by omega) (cols_id.add c (by rw [q3]; simp; omega))
      have h4 := h3.step a2 (B - 130) (by omega) (by omega)
      have x2 := g_Next h4 (by omega) 3
      have b2 := next_bounds L a2 3 (by omega) (by omega)
      obtain ⟨u, hu⟩ : ∃ k : Nat, nextS L a2 3 = (k : Int) := ⟨(nextS L a2 3).toNat, by omega⟩
      rw [hu] at x2 b2
      have h5 := h4.step (a2 + 1) (B - 131) (by omega) (by omega)
      have hc6 : ColsOk cols 6 := ⟨by have := p3.len; omega, p3.pos, p3.nm, p3.id⟩
      obtain ⟨is, a', w1, w2, w3, e2⟩ := l_tb2 (L := L) nm cols hc6 [idB] _ _ _ (.inr (.inl ⟨rfl, rfl, rfl⟩)) u (by omega) u 0 [] _ _ (by omega) h5 (by omega) idx_nil
      refine ⟨⟨nm, cols, [idB], [], is⟩, a', ?_, by omega, by omega, ⟨hn, hc6, by simp, fun n hn => by rw [List.mem_singleton] at hn; rw [hn]; exact hc6.id, rfl, w3⟩, rfl⟩
      have st : (1 + s.length ≤ strMax) = True := eq_true (by unfold strMax; omega)
      have rm : (130 ≤ roomMax) = True := eq_true (by unfold roomMax; omega)
      have d : ((0 : Int) < (r : Int) + 1) = True := eq_true (by omega)
      have c1 : (((r + 1 : Nat)) : Int) = (r : Int) + 1 := by omega
      simp only [List.length_nil, List.length_cons, Nat.zero_add, Nat.reduceAdd, Nat.add_zero, List.nil_append, List.cons_append, SLs, List.map_nil, List.map_cons, colC] at e2 e0 y1
      rw [c1] at x1
      simp only [c1] at e0
      rw [call_40]
      simp -implicitDefEqProofs only [go_sem, simprocAttr, Tryz.f40, x0, x1]
      repeat' ((first | apply split_cond | apply split_yes | apply split_no) <;> intro hc <;> simp -implicitDefEqProofs only [hc, go_sem, simprocAttr, x0, x1])
      rw [RL_eq]
      simp -implicitDefEqProofs only [go_sem, simprocAttr, d, es, st, rm, y1, colC, locsR_cols]
      repeat' ((first | apply split_cond | apply split_yes | apply split_no) <;> intro hc <;> simp -implicitDefEqProofs only [hc, go_sem, simprocAttr, d, es, st, rm, y1, colC, locsR_cols])
      rw [e0 _ _ 1 ?_ rfl]
      · simp -implicitDefEqProofs only [go_sem, simprocAttr, x2, locsR_cols, List.length_map]
        repeat' ((first | apply split_cond | apply split_yes | apply split_no) <;> intro hc <;> simp -implicitDefEqProofs only [hc, go_sem, simprocAttr, x2, locsR_cols, List.length_map])
        rw [e2 _ _ 0 ?_ rfl]
        · simp -implicitDefEqProofs only [go_sem, simprocAttr, tblC, locsR_idx, List.length_map, or_self]
          repeat' ((first | apply split_cond | apply split_yes | apply split_no) <;> intro hc <;> simp -implicitDefEqProofs only [hc, go_sem, simprocAttr, tblC, locsR_idx, List.length_map, or_self])
          rfl
        · rfl
      · rfl
  | true =>
    rw [e0] at x0
    obtain ⟨x, hx, y0⟩ := g_Pick h1 (by omega) [2, 3, 1] (by decide) (by decide)
    have h1' := h1.step (a + 1 + 1) (B - 2) (by omega) (by omega)
    have x1 := g_Range h1' (by omega) 0 4 (by omega) (by omega) (by omega)
    have b1 := range_bounds L (a + 1 + 1) 0 4 (by omega) (by omega)
    have h2 := h1'.step (a + 1 + 1 + 1) (B - 3) (by omega) (by omega)
    obtain ⟨r, hr⟩ : ∃ k : Nat, rngS L (a + 1 + 1) 0 4 = (k : Int) := ⟨(rngS L (a + 1 + 1) 0 4).toNat, by omega⟩
    rw [hr] at x1 b1
    obtain ⟨cols, a2, p1, p2, p3, p4, e0⟩ := l_tb0 (L := L) nm r (by omega) _ _ 5 (.inr ⟨rfl, rfl, rfl⟩) r 0 [idCol, ⟨kB, x, false, ⟨0, 0, []⟩⟩] _ (B - 3) 2 (by omega) (by omega) h2 (by omega) (cols_id.add _ (by simp))
    have h4 := h2.step a2 (B - 130) (by omega) (by omega)
    have x2 := g_Next h4 (by omega) 3
    have b2 := next_bounds L a2 3 (by omega) (by omega)
    obtain ⟨u, hu⟩ : ∃ k : Nat, nextS L a2 3 = (k : Int) := ⟨(nextS L a2 3).toNat, by omega⟩
    rw [hu] at x2 b2
    have h5 := h4.step (a2 + 1) (B - 131) (by omega) (by omega)
    have hc6 : ColsOk cols 6 := ⟨by have := p3.len; omega, p3.pos, p3.nm, p3.id⟩
    obtain ⟨is, a', w1, w2, w3, e2⟩ := l_tb2 (L := L) nm cols hc6 [idB, kB] _ _ _ (.inr (.inr ⟨rfl, rfl, rfl⟩)) u (by omega) u 0 [] _ _ (by omega) h5 (by omega) idx_nil
    refine ⟨⟨nm, cols, [idB, kB], [], is⟩, a', ?_, by omega, by omega, ⟨hn, hc6, by simp, fun n hn => p4 n (by simpa using hn), rfl, w3⟩, rfl⟩
    have rm : (130 ≤ roomMax) = True := eq_true (by unfold roomMax; omega)
    have rm2 : (34 ≤ roomMax) = True := eq_true (by unfold roomMax; omega)
    simp only [List.length_nil, List.length_cons, Nat.zero_add, Nat.reduceAdd, Nat.add_zero, List.nil_append, List.cons_append, SLs, List.map_nil, List.map_cons, colC] at e2 e0 y0
    rw [call_40]
    simp -implicitDefEqProofs only [go_sem, simprocAttr, Tryz.f40, x0, y0, x1, rm, rm2]
    repeat' ((first | apply split_cond | apply split_yes | apply split_no) <;> intro hc <;> simp -implicitDefEqProofs only [hc, go_sem, simprocAttr, x0, y0, x1, rm, rm2])
    rw [e0 _ _ 0 ?_ rfl]
    · simp -implicitDefEqProofs only [go_sem, simprocAttr, x2, locsR_cols, List.length_map]
      repeat' ((first | apply split_cond | apply split_yes | apply split_no) <;> intro hc <;> simp -implicitDefEqProofs only [hc, go_sem, simprocAttr, x2, locsR_cols, List.length_map])
      rw [e2 _ _ 0 ?_ rfl]
      · simp -implicitDefEqProofs only [go_sem, simprocAttr, tblC, locsR_idx, List.length_map, or_self]
        repeat' ((first | apply split_cond | apply split_yes | apply split_no) <;> intro hc <;> simp -implicitDefEqProofs only [hc, go_sem, simprocAttr, tblC, locsR_idx, List.length_map, or_self])
        rfl
      · rfl
    · rfl
end
theorem locsR_tbls : ∀ l : List Tbl, locsR (l.map tblC) = []
  | [] => rfl
  | x :: l => by simpa [tblC, locsR, locsL, locs] using locsR_tbls l
theorem locsR_fgns : ∀ l : List Fgn, locsR (l.map fgnC) = []
  | [] => rfl
  | x :: l => by simpa [fgnC, locsR, locsL, locs] using locsR_fgns l
theorem allLen_tbls : ∀ l : List Tbl, allLen 5 (l.map tblC) = true
  | [] => rfl
  | c :: l => by simpa [allLen, tblC] using allLen_tbls l
theorem allLen_fgns : ∀ l : List Fgn, allLen 3 (l.map fgnC) = true
  | [] => rfl
  | c :: l => by simpa [allLen, fgnC] using allLen_fgns l
theorem allLen_idxs : ∀ l : List Idx, allLen 3 (l.map idxC) = true
  | [] => rfl
  | c :: l => by simpa [allLen, idxC] using allLen_idxs l
theorem tbls_app (l : List Tbl) (c : Tbl) : l.map tblC ++ [tblC c] = (l ++ [c]).map tblC := by simp
theorem fgns_app (l : List Fgn) (c : Fgn) : l.map fgnC ++ [fgnC c] = (l ++ [c]).map fgnC := by simp
theorem empty_map {α : Type} {f : α → List AV} {l : List α} (h : 1 ≤ l.length) : (l.map f).isEmpty = false := by
  cases l with
  | nil => simp at h
  | cons a l => rfl
theorem c_cloneT (x : List Tbl) (h : 1 ≤ x.length) (hl : x.length ≤ 1000000) : R K (.call 45 [.rows (x.map tblC)] []) = some (.own 0 x.length, [.rows 5 (x.map tblC) true]) := by
  have e := empty_map (f := tblC) h
  have rm : (x.length * 113 ≤ roomMax) = True := eq_true (by unfold roomMax; omega)
  have d : (0 < x.length) = True := eq_true (by omega)
  have hp : K.prim 45 [.rows (x.map tblC)] = none := by
    cases x with
    | nil => simp at h
    | cons a x => rfl
  rw [call_45 hp]
  simp -implicitDefEqProofs only [go_sem, simprocAttr, Tryz.f45, e, rm, d, allLen_tbls, locsR_tbls, List.length_map, List.length_nil, Nat.zero_add, List.nil_append]
  repeat' ((first | apply split_cond | apply split_yes | apply split_no) <;> intro hc <;> simp -implicitDefEqProofs only [hc, go_sem, simprocAttr, Tryz.f45, e, rm, d, allLen_tbls, locsR_tbls, List.length_map, List.length_nil, Nat.zero_add, List.nil_append])
theorem c_cloneF (x : List Fgn) (h : 1 ≤ x.length) (hl : x.length ≤ 1000000) : R K (.call 46 [.rows (x.map fgnC)] []) = some (.own 0 x.length, [.rows 3 (x.map fgnC) false]) := by
  have e := empty_map (f := fgnC) h
  have rm : (x.length * 57 ≤ roomMax) = True := eq_true (by unfold roomMax; omega)
  have d : (0 < x.length) = True := eq_true (by omega)
  have hp : K.prim 46 [.rows (x.map fgnC)] = none := by
    cases x with
    | nil => simp at h
    | cons a x => rfl
  rw [call_46 hp]
  simp -implicitDefEqProofs only [go_sem, simprocAttr, Tryz.f46, e, rm, d, allLen_fgns, locsR_fgns, List.length_map, List.length_nil, Nat.zero_add, List.nil_append]
  repeat' ((first | apply split_cond | apply split_yes | apply split_no) <;> intro hc <;> simp -implicitDefEqProofs only [hc, go_sem, simprocAttr, Tryz.f46, e, rm, d, allLen_fgns, locsR_fgns, List.length_map, List.length_nil, Nat.zero_add, List.nil_append])
theorem c_cloneF0 : R K (.call 46 [.rows []] []) = some (.lit [], []) := R_prim rfl
theorem c_cloneI (x : List Idx) (h : 1 ≤ x.length) (hl : x.length ≤ 1000000) : R K (.call 48 [.rows (x.map idxC)] []) = some (.own 0 x.length, [.rows 3 (x.map idxC) false]) := by
  have e := empty_map (f := idxC) h
  have rm : (x.length * 49 ≤ roomMax) = True := eq_true (by unfold roomMax; omega)
  have d : (0 < x.length) = True := eq_true (by omega)
  have hp : K.prim 48 [.rows (x.map idxC)] = none := by
    cases x with
    | nil => simp at h
    | cons a x => rfl
  rw [call_48 hp]
  simp -implicitDefEqProofs only [go_sem, simprocAttr, Tryz.f48, e, rm, d, allLen_idxs, locsR_idx, List.length_map, List.length_nil, Nat.zero_add, List.nil_append]
  repeat' ((first | apply split_cond | apply split_yes | apply split_no) <;> intro hc <;> simp -implicitDefEqProofs only [hc, go_sem, simprocAttr, Tryz.f48, e, rm, d, allLen_idxs, locsR_idx, List.length_map, List.length_nil, Nat.zero_add, List.nil_append])
theorem c_cloneI0 : R K (.call 48 [.rows []] []) = some (.lit [], []) := R_prim rfl
theorem c_cloneC (x : List Col) (h : 1 ≤ x.length) (hl : x.length ≤ 1000000) : R K (.call 47 [.rows (x.map colC)] []) = some (.own 0 x.length, [.rows 6 (x.map colC) true]) := by
  have e := empty_map (f := colC) h
  have rm : (x.length * 65 ≤ roomMax) = True := eq_true (by unfold roomMax; omega)
  have d : (0 < x.length) = True := eq_true (by omega)
  have hp : K.prim 47 [.rows (x.map colC)] = none := by
    cases x with
    | nil => simp at h
    | cons a x => rfl
  rw [call_47 hp]
  simp -implicitDefEqProofs only [go_sem, simprocAttr, Tryz.f47, e, rm, d, allLen_cols, locsR_cols, List.length_map, List.length_nil, Nat.zero_add, List.nil_append]
  repeat' ((first | apply split_cond | apply split_yes | apply split_no) <;> intro hc <;> simp -implicitDefEqProofs only [hc, go_sem, simprocAttr, Tryz.f47, e, rm, d, allLen_cols, locsR_cols, List.length_map, List.length_nil, Nat.zero_add, List.nil_append])
def Tbls (m : Nat) (x : List Tbl) : Prop := x.length = m ∧ ∀ t ∈ x, GenT t
section
variable {L : List Int}
theorem l_sc0 (n : Nat) (hn : n ≤ 3) : ∀ (q j : Nat) (x : List Tbl) (a B : Int), n = j + q → Gd L a B → (200 * q : Int) ≤ B → Tbls j x →
    ∃ (x' : List Tbl) (a' : Int), a ≤ a' ∧ a' ≤ a + 200 * q ∧ Tbls n x' ∧ ∀ (ks : List It) (Bo : Code) (jj : Int), Loop Tryz.f11 0 Bo → jj = (j : Int) →
    RL K (.run 11 1 (.code Bo :: .lp Bo (some ([0, 2, 3, 16, 17], [])) 4 :: .blk 0 4 :: ks) [(0, .ptr 0 0), (2, .ptr 1 0), (3, .ptr 2 0), (16, I (n : Int)), (17, I jj)] [.cells [LR L, I a], .cells [.nils], .cells [.own 3 x.length], .rows 5 (x.map tblC) false]) =
    R K (.run 11 1 ks [(0, .ptr 0 0), (2, .ptr 1 0), (3, .ptr 2 0)] [.cells [LR L, I a'], .cells [.nils], .cells [.own 3 x'.length], .rows 5 (x'.map tblC) false])
  | 0, j, x, a, B, hq, hG, hB', hx => by
    have d : ¬ (j : Int) < (n : Int) := by omega
    refine ⟨x, a, by omega, by omega, ⟨by have := hx.1; omega, hx.2⟩, fun ks Bo jj hB hj => ?_⟩
    subst hj
    unfold Loop at hB
    simp -implicitDefEqProofs only [go_sem, simprocAttr, Tryz.f11, loopOf] at hB
    subst hB
    rw [RL_eq]
    simp -implicitDefEqProofs only [go_sem, simprocAttr, d, locsR_tbls]
    repeat' ((first | apply split_cond | apply split_yes | apply split_no) <;> intro hc <;> simp -implicitDefEqProofs only [hc, go_sem, simprocAttr, d, locsR_tbls])
  | q + 1, j, x, a, B, hq, hG, hB', hx => by
    have d : (j : Int) < (n : Int) := by omega
    have h7 := next_id (i := j) (n := n) (by omega) (by omega)
    obtain ⟨s, es, hsl⟩ := letter j (by omega)
    have w1 : wrapI .i64 (97 + (j : Int)) = 97 + (j : Int) := wrap_id (by omega) (by omega)
    obtain ⟨t, a1, x1, q1, q2, q3, q4⟩ := g_table hG (by omega) (116 :: s) (by simp; omega)
    obtain ⟨x', a', p1, p2, p3, ih⟩ := l_sc0 n hn q (j + 1) (x ++ [t]) a1 (B - 200) (by omega) (hG.step _ _ (by omega) (by omega)) (by omega) ⟨by rw [List.length_append]; have := hx.1; simp; omega, fun u hu => by
      rcases List.mem_append.1 hu with h | h
      · exact hx.2 u h
      · rw [List.mem_singleton] at h; rw [h]; exact q3⟩
    refine ⟨x', a', by omega, by omega, p3, fun ks Bo jj hB hj => ?_⟩
    subst hj
    have ih := ih ks Bo _ hB rfl
    have hxl := hx.1
    have ta := tbls_app x t
    have rm : ((x.length + 1) * 113 ≤ roomMax) = True := eq_true (by unfold roomMax; omega)
    have st : (1 + s.length ≤ strMax) = True := eq_true (by unfold strMax; omega)
    simp only [List.length_append, List.length_cons, List.length_nil, Nat.zero_add, tblC] at ih x1 ta
    unfold Loop at hB
    simp -implicitDefEqProofs only [go_sem, simprocAttr, Tryz.f11, loopOf] at hB
    subst hB
    rw [RL_eq]
    simp -implicitDefEqProofs only [go_sem, simprocAttr, d, h7, w1, es, st, x1, ta, rm, tblC, locsR_tbls, allLen_tbls, List.length_map]
    repeat' ((first | apply split_cond | apply split_yes | apply split_no) <;> intro hc <;> simp -implicitDefEqProofs only [hc, go_sem, simprocAttr, d, h7, w1, es, st, x1, ta, rm, tblC, locsR_tbls, allLen_tbls, List.length_map])
    exact ih
end
theorem k_43 (n : List UInt8) (c : Col) : R K (.call 43 [colA c, .ptr 0 0] (nmH n)) = some (.bool (c.nm == n), nmH n) := by
  rw [call_43]
  simp -implicitDefEqProofs only [go_sem, simprocAttr, Tryz.f43, colC]
  repeat' ((first | apply split_cond | apply split_yes | apply split_no) <;> intro hc <;> simp -implicitDefEqProofs only [hc, go_sem, simprocAttr, colC])
theorem v_43 (n : List UInt8) (c : Col) : callV nlA (R K) (nmH n) [colA c] (.fn 43 [.ptr 0 0]) = some (.bool (c.nm == n), nmH n) := by
  have hk := k_43 n c
  simp only [colA, colC] at hk ⊢
  simp -implicitDefEqProofs only [go_sem, simprocAttr, hk]
  repeat' ((first | apply split_cond | apply split_yes | apply split_no) <;> intro hc <;> simp -implicitDefEqProofs only [hc, go_sem, simprocAttr, hk])
abbrev scH (L : List Int) (a : Int) (x : List Tbl) (u : Tbl) (fnm : List UInt8) (ns : List (List UInt8)) : Heap := [.cells [LR L, I a], .cells [.nils], .cells [.rows (x.map tblC)], .hole, .cells (tblC u), .cells [.str fnm, .own 6 ns.length, .str u.nm], .rows 1 (SLs ns) false]
section
variable {L : List Int}
theorem l_sc6 (x : List Tbl) (t u : Tbl) (fnm k : List UInt8) (kd r p w : Int) (htl : t.cols.length ≤ 1000) (c0 : Nat) (hc0 : c0 ≤ 1000) (ns : List (List UInt8)) (hns : ns.length ≤ c0) : ∀ (q j : Nat) (a B : Int), t.cols.length = j + q → Gd L a B → (q : Int) ≤ B →
    ∃ (ns' : List (List UInt8)) (a' : Int), a ≤ a' ∧ a' ≤ a + q ∧ ns'.length ≤ c0 + 1 ∧ ∀ (ks : List It) (Bo : Code) (jj : Int), Loop Tryz.f11 6 Bo → jj = (j : Int) →
    RL K (.run 11 1 (.code Bo :: .lp Bo (some ([0, 2, 3, 5, 6, 7, 10, 34, 35, 67, 68, 69, 85, 86, 87], [])) 8 :: .blk 6 8 :: ks) [(0, .ptr 0 0), (2, .ptr 1 0), (3, .ptr 2 0), (5, .rptr (tblC t) 0), (6, .ptr 4 0), (7, .ptr 5 0), (10, I kd), (34, I r), (35, I p), (67, .rows (SLs u.key)), (68, I (u.key.length : Int)), (69, I w), (85, .rows (t.cols.map colC)), (86, I (t.cols.length : Int)), (87, I jj)] (scH L a x u fnm ns ++ [.cells [.str k]])) =
    R K (.run 11 1 ks [(0, .ptr 0 0), (2, .ptr 1 0), (3, .ptr 2 0), (5, .rptr (tblC t) 0), (6, .ptr 4 0), (7, .ptr 5 0), (34, I r), (35, I p), (67, .rows (SLs u.key)), (68, I (u.key.length : Int)), (69, I w)] (scH L a' x u fnm ns' ++ [.cells [.str k]]))
  | 0, j, a, B, hq, hG, hB' => by
    have d : ¬ (j : Int) < (t.cols.length : Int) := by omega
    refine ⟨ns, a, by omega, by omega, by omega, fun ks Bo jj hB hj => ?_⟩
    subst hj
    unfold Loop at hB
    simp -implicitDefEqProofs only [go_sem, simprocAttr, Tryz.f11, loopOf] at hB
    subst hB
    rw [RL_eq]
    simp -implicitDefEqProofs only [go_sem, simprocAttr, d, locsR_SLs, scH, tblC]
    repeat' ((first | apply split_cond | apply split_yes | apply split_no) <;> intro hc <;> simp -implicitDefEqProofs only [hc, go_sem, simprocAttr, d, locsR_SLs, scH, tblC])
  | q + 1, j, a, B, hq, hG, hB' => by
    have d : (j : Int) < (t.cols.length : Int) := by omega
    have h7 := next_id (i := j) (n := t.cols.length) (by omega) (by omega)
    obtain ⟨c, hc⟩ := some_at (l := t.cols) (i := j) (by omega)
    have gc := col_get hc
    have hcn := c_contains c.nm ns (by omega)
    have rm : ((ns.length + 1) * 17 ≤ roomMax) = True := eq_true (by unfold roomMax; omega)
    have sa := SLs_app ns c.nm
    simp only [colC] at gc
    cases e1 : (c.kd == kd) with
    | false =>
      obtain ⟨ns', a', p1, p2, p3, ih⟩ := l_sc6 x t u fnm k kd r p w htl c0 hc0 ns hns q (j + 1) a B (by omega) hG (by omega)
      refine ⟨ns', a', p1, by omega, p3, fun ks Bo jj hB hj => ?_⟩
      subst hj
      have ih := ih ks Bo _ hB rfl
      simp only [scH, tblC, List.cons_append, List.nil_append] at ih ⊢
      unfold Loop at hB
      simp -implicitDefEqProofs only [go_sem, simprocAttr, Tryz.f11, loopOf] at hB
      subst hB
      rw [RL_eq]
      simp -implicitDefEqProofs only [go_sem, simprocAttr, d, h7, gc, e1, colC, tblC, locsR_SLs]
      repeat' ((first | apply split_cond | apply split_yes | apply split_no) <;> intro hc <;> simp -implicitDefEqProofs only [hc, go_sem, simprocAttr, d, h7, gc, e1, colC, tblC, locsR_SLs])
      exact ih
    | true =>
      cases e2 : ns.contains c.nm with
      | true =>
        rw [e2] at hcn
        obtain ⟨ns', a', p1, p2, p3, ih⟩ := l_sc6 x t u fnm k kd r p w htl c0 hc0 ns hns q (j + 1) a B (by omega) hG (by omega)
        refine ⟨ns', a', p1, by omega, p3, fun ks Bo jj hB hj => ?_⟩
        subst hj
        have ih := ih ks Bo _ hB rfl
        simp only [scH, tblC, List.cons_append, List.nil_append] at ih ⊢
        unfold Loop at hB
        simp -implicitDefEqProofs only [go_sem, simprocAttr, Tryz.f11, loopOf] at hB
        subst hB
        rw [RL_eq]
        simp -implicitDefEqProofs only [go_sem, simprocAttr, d, h7, gc, e1, hcn, SLs_len, colC, tblC, locsR_SLs]
        repeat' ((first | apply split_cond | apply split_yes | apply split_no) <;> intro hc <;> simp -implicitDefEqProofs only [hc, go_sem, simprocAttr, d, h7, gc, e1, hcn, SLs_len, colC, tblC, locsR_SLs])
        exact ih
      | false =>
        rw [e2] at hcn
        cases e3 : (c.nm == [105, 100]) with
        | false =>
          refine ⟨ns ++ [c.nm], a, by omega, by omega, by simp; omega, fun ks Bo jj hB hj => ?_⟩
          subst hj
          simp only [scH, tblC, List.cons_append, List.nil_append, List.length_append, List.length_cons, List.length_nil, Nat.zero_add]
          unfold Loop at hB
          simp -implicitDefEqProofs only [go_sem, simprocAttr, Tryz.f11, loopOf] at hB
          subst hB
          rw [RL_eq]
          simp -implicitDefEqProofs only [go_sem, simprocAttr, d, h7, gc, e1, e3, hcn, rm, sa, bne, SLs_len, colC, tblC, locsR_SLs]
          repeat' ((first | apply split_cond | apply split_yes | apply split_no) <;> intro hc <;> simp -implicitDefEqProofs only [hc, go_sem, simprocAttr, d, h7, gc, e1, e3, hcn, rm, sa, bne, SLs_len, colC, tblC, locsR_SLs])
        | true =>
          have x0 := g_Flip hG (by omega) 6
          cases e4 : nextS L a 6 == 0 with
          | true =>
            rw [e4] at x0
            refine ⟨ns ++ [c.nm], a + 1, by omega, by omega, by simp; omega, fun ks Bo jj hB hj => ?_⟩
            subst hj
            simp only [scH, tblC, List.cons_append, List.nil_append, List.length_append, List.length_cons, List.length_nil, Nat.zero_add]
            unfold Loop at hB
            simp -implicitDefEqProofs only [go_sem, simprocAttr, Tryz.f11, loopOf] at hB
            subst hB
            rw [RL_eq]
            simp -implicitDefEqProofs only [go_sem, simprocAttr, d, h7, gc, e1, e3, x0, hcn, rm, sa, bne, SLs_len, colC, tblC, locsR_SLs]
            repeat' ((first | apply split_cond | apply split_yes | apply split_no) <;> intro hc <;> simp -implicitDefEqProofs only [hc, go_sem, simprocAttr, d, h7, gc, e1, e3, x0, hcn, rm, sa, bne, SLs_len, colC, tblC, locsR_SLs])
          | false =>
            rw [e4] at x0
            obtain ⟨ns', a', p1, p2, p3, ih⟩ := l_sc6 x t u fnm k kd r p w htl c0 hc0 ns hns q (j + 1) (a + 1) (B - 1) (by omega) (hG.step _ _ (by omega) (by omega)) (by omega)
            refine ⟨ns', a', by omega, by omega, p3, fun ks Bo jj hB hj => ?_⟩
            subst hj
            have ih := ih ks Bo _ hB rfl
            simp only [scH, tblC, List.cons_append, List.nil_append] at ih ⊢
            unfold Loop at hB
            simp -implicitDefEqProofs only [go_sem, simprocAttr, Tryz.f11, loopOf] at hB
            subst hB
            rw [RL_eq]
            simp -implicitDefEqProofs only [go_sem, simprocAttr, d, h7, gc, e1, e3, x0, hcn, bne, SLs_len, colC, tblC, locsR_SLs]
            repeat' ((first | apply split_cond | apply split_yes | apply split_no) <;> intro hc <;> simp -implicitDefEqProofs only [hc, go_sem, simprocAttr, d, h7, gc, e1, e3, x0, hcn, bne, SLs_len, colC, tblC, locsR_SLs])
            exact ih
theorem l_sc4 (x : List Tbl) (t u : Tbl) (fnm : List UInt8) (r p : Int) (htl : t.cols.length ≤ 1000) (hul : u.cols.length ≤ 1000) (hul2 : u.key.length ≤ 100) (hK : ∀ n ∈ u.key, n ∈ u.cols.map (·.nm)) : ∀ (q j : Nat) (ns : List (List UInt8)) (a B : Int), u.key.length = j + q → Gd L a B → (1000 * q : Int) ≤ B → ns.length ≤ j →
    ∃ (ns' : List (List UInt8)) (a' : Int), a ≤ a' ∧ a' ≤ a + 1000 * q ∧ ns'.length ≤ u.key.length ∧ ∀ (ks : List It) (Bo : Code) (jj : Int), Loop Tryz.f11 4 Bo → jj = (j : Int) →
    RL K (.run 11 1 (.code Bo :: .lp Bo (some ([0, 2, 3, 5, 6, 7, 34, 35, 67, 68, 69], [])) 7 :: .blk 4 7 :: ks) [(0, .ptr 0 0), (2, .ptr 1 0), (3, .ptr 2 0), (5, .rptr (tblC t) 0), (6, .ptr 4 0), (7, .ptr 5 0), (34, I r), (35, I p), (67, .rows (SLs u.key)), (68, I (u.key.length : Int)), (69, I jj)] (scH L a x u fnm ns)) =
    R K (.run 11 1 ks [(0, .ptr 0 0), (2, .ptr 1 0), (3, .ptr 2 0), (5, .rptr (tblC t) 0), (7, .ptr 5 0), (34, I r), (35, I p)] (scH L a' x u fnm ns'))
  | 0, j, ns, a, B, hq, hG, hB', hn => by
    have d : ¬ (j : Int) < (u.key.length : Int) := by omega
    refine ⟨ns, a, by omega, by omega, by omega, fun ks Bo jj hB hj => ?_⟩
    subst hj
    unfold Loop at hB
    simp -implicitDefEqProofs only [go_sem, simprocAttr, Tryz.f11, loopOf] at hB
    subst hB
    rw [RL_eq]
    simp -implicitDefEqProofs only [go_sem, simprocAttr, d, locsR_SLs, scH, tblC]
    repeat' ((first | apply split_cond | apply split_yes | apply split_no) <;> intro hc <;> simp -implicitDefEqProofs only [hc, go_sem, simprocAttr, d, locsR_SLs, scH, tblC])
  | q + 1, j, ns, a, B, hq, hG, hB', hn => by
    have d : (j : Int) < (u.key.length : Int) := by omega
    have h7 := next_id (i := j) (n := u.key.length) (by omega) (by omega)
    obtain ⟨k, hk⟩ := some_at (l := u.key) (i := j) (by omega)
    have gk := str_get hk
    have hm := hK k (List.mem_of_getElem? hk)
    have hnot : ¬ ixN k (u.cols.map (·.nm)) 0 < 0 := by
      intro h
      rcases ixN_ge k (u.cols.map (·.nm)) 0 with h1 | h1
      · exact (ixN_mem k (u.cols.map (·.nm)) 0).1 h1 hm
      · omega
    obtain ⟨b, cc, hb, hcc⟩ := ixN_col (t := u) hnot
    have gc := col_get hcc
    have hi := c_ixCol (.fn 43 [.ptr 0 0]) (nmH k) k (nmH_fits k) u.cols (by omega) (v_43 k)
    rw [hb] at hi
    obtain ⟨ns1, a1, p1, p2, p3, e6⟩ := l_sc6 (L := L) x t u fnm k cc.kd r p (j : Int) htl j (by omega) ns hn t.cols.length 0 a B (by omega) hG (by omega)
    obtain ⟨ns', a', q1, q2, q3, ih⟩ := l_sc4 x t u fnm r p htl hul hul2 hK q (j + 1) ns1 a1 (B - 1000) (by omega) (hG.step _ _ (by omega) (by omega)) (by omega) p3
    refine ⟨ns', a', by omega, by omega, q3, fun ks Bo jj hB hj => ?_⟩
    subst hj
    have ih := ih ks Bo _ hB rfl
    simp only [nmH] at hi
    simp only [colC] at gc
    simp only [scH, tblC, List.cons_append, List.nil_append] at ih e6 ⊢
    unfold Loop at hB
    simp -implicitDefEqProofs only [go_sem, simprocAttr, Tryz.f11, loopOf] at hB
    subst hB
    rw [RL_eq]
    simp -implicitDefEqProofs only [go_sem, simprocAttr, d, h7, gk, gc, hi, colC, tblC, locsR_SLs, List.length_map]
    repeat' ((first | apply split_cond | apply split_yes | apply split_no) <;> intro hc <;> simp -implicitDefEqProofs only [hc, go_sem, simprocAttr, d, h7, gk, gc, hi, colC, tblC, locsR_SLs, List.length_map])
    rw [e6 _ _ 0 ?_ rfl]
    · simp -implicitDefEqProofs only [go_sem, simprocAttr, h7, locsR_SLs]
      repeat' ((first | apply split_cond | apply split_yes | apply split_no) <;> intro hc <;> simp -implicitDefEqProofs only [hc, go_sem, simprocAttr, h7, locsR_SLs])
      exact ih
    · rfl
end
structure SzT (t : Tbl) (m : Nat) : Prop where
  nm : t.nm.length ≤ 100
  c1 : 1 ≤ t.cols.length
  cl : t.cols.length ≤ 6
  cn : ∀ c ∈ t.cols, c.nm.length ≤ 100
  key : t.key.length ≤ 2
  fl : t.fgn.length ≤ m
  fg : ∀ f ∈ t.fgn, f.nm.length ≤ 100 ∧ f.cols.length ≤ 2
  il : t.idx.length ≤ m + 2
  ix : ∀ f ∈ t.idx, f.nm.length ≤ 100 ∧ f.cols.length ≤ 2
theorem SzT.more {t : Tbl} {m m' : Nat} (h : SzT t m) (e : m ≤ m') : SzT t m' := ⟨h.nm, h.c1, h.cl, h.cn, h.key, by have := h.fl; omega, h.fg, by have := h.il; omega, h.ix⟩
structure SzX (x : List Tbl) (m : Nat) : Prop where
  l1 : 1 ≤ x.length
  l3 : x.length ≤ 3
  tbl : ∀ t ∈ x, SzT t m
theorem SzX.fit {x : List Tbl} {m : Nat} (h : SzX x m) (hm : m ≤ 1000) : FitX x := by
  refine ⟨by have := h.l3; omega, fun t ht => ?_⟩
  have s := h.tbl t ht
  exact ⟨by have := s.nm; omega, by have := s.cl; omega, by have := s.key; omega, by have := s.fl; omega, by have := s.il; omega,
    fun c hc => by have := s.cn c hc; omega, fun f hf => by have := s.fg f hf; exact ⟨by omega, by omega⟩, fun f hf => by have := s.ix f hf; exact ⟨by omega, by omega⟩⟩
theorem SzX.set {x : List Tbl} {m : Nat} (h : SzX x m) (i : Nat) {t : Tbl} (ht : SzT t m) : SzX (x.set i t) m := by
  refine ⟨by rw [List.length_set]; exact h.l1, by rw [List.length_set]; exact h.l3, fun u hu => ?_⟩
  rcases List.mem_or_eq_of_mem_set hu with h1 | h1
  · exact h.tbl u h1
  · rw [h1]; exact ht
theorem SzX.more {x : List Tbl} {m m' : Nat} (h : SzX x m) (e : m ≤ m') : SzX x m' := ⟨h.l1, h.l3, fun t ht => (h.tbl t ht).more e⟩
def KeysIn (x : List Tbl) : Prop := ∀ t ∈ x, ∀ n ∈ t.key, n ∈ t.cols.map (·.nm)
theorem gen_sz {t : Tbl} (h : GenT t) : SzT t 0 := ⟨h.nm, h.cols.pos, h.cols.len, h.cols.nm, h.key, by rw [h.fgn]; simp, by rw [h.fgn]; simp, by have := h.idx.1; omega, h.idx.2⟩
theorem set_tbl (x : List Tbl) (b : Nat) (nm : List UInt8) (cols : List Col) (key : List (List UInt8)) (fgn : List Fgn) (idx : List Idx) :
    (x.map tblC).set b [.str nm, .rows (cols.map colC), .rows (SLs key), .rows (fgn.map fgnC), .rows (idx.map idxC)] = (x.set b ⟨nm, cols, key, fgn, idx⟩).map tblC := by
  rw [List.map_set]
  rfl
section
variable {L : List Int}
theorem l_sc2 (r : Nat) (hr : r ≤ 3) : ∀ (q j : Nat) (x : List Tbl) (a B : Int), r = j + q → Gd L a B → (10000 * q : Int) ≤ B → SzX x j → KeysIn x →
    ∃ (x' : List Tbl) (a' : Int), a ≤ a' ∧ a' ≤ a + 10000 * q ∧ SzX x' 3 ∧ ∀ (ks : List It) (Bo : Code) (jj : Int), Loop Tryz.f11 2 Bo → jj = (j : Int) →
    RL K (.run 11 1 (.code Bo :: .lp Bo (some ([0, 2, 3, 34, 35], [])) 4 :: .blk 2 4 :: ks) [(0, .ptr 0 0), (2, .ptr 1 0), (3, .ptr 2 0), (34, I (r : Int)), (35, I jj)] [.cells [LR L, I a], .cells [.nils], .cells [.rows (x.map tblC)], .hole]) =
    R K (.run 11 1 ks [(2, .ptr 1 0), (3, .ptr 2 0)] [.cells [LR L, I a'], .cells [.nils], .cells [.rows (x'.map tblC)], .hole])
  | 0, j, x, a, B, hq, hG, hB', hx, hK => by
    have d : ¬ (j : Int) < (r : Int) := by omega
    refine ⟨x, a, by omega, by omega, hx.more (by omega), fun ks Bo jj hB hj => ?_⟩
    subst hj
    unfold Loop at hB
    simp -implicitDefEqProofs only [go_sem, simprocAttr, Tryz.f11, loopOf] at hB
    subst hB
    rw [RL_eq]
    simp -implicitDefEqProofs only [go_sem, simprocAttr, d]
    repeat' ((first | apply split_cond | apply split_yes | apply split_no) <;> intro hc <;> simp -implicitDefEqProofs only [hc, go_sem, simprocAttr, d])
  | q + 1, j, x, a, B, hq, hG, hB', hx, hK => by
    have d : (j : Int) < (r : Int) := by omega
    have h7 := next_id (i := j) (n := r) (by omega) (by omega)
    have hl1 := hx.l1
    have hl3 := hx.l3
    have x0 := g_Next hG (by omega) (x.length : Int)
    have b0 := next_bounds L a (x.length : Int) (by omega) (by omega)
    obtain ⟨i, hi⟩ : ∃ k : Nat, nextS L a (x.length : Int) = (k : Int) := ⟨(nextS L a (x.length : Int)).toNat, by omega⟩
    rw [hi] at x0 b0
    have G1 := hG.step (a + 1) (B - 1) (by omega) (by omega)
    have x1 := g_Next G1 (by omega) (x.length : Int)
    have b1 := next_bounds L (a + 1) (x.length : Int) (by omega) (by omega)
    obtain ⟨k, hk⟩ : ∃ k : Nat, nextS L (a + 1) (x.length : Int) = (k : Int) := ⟨(nextS L (a + 1) (x.length : Int)).toNat, by omega⟩
    rw [hk] at x1 b1
    have G2 := G1.step (a + 1 + 1) (B - 2) (by omega) (by omega)
    obtain ⟨t, ht⟩ := some_at (l := x) (i := i) (by omega)
    obtain ⟨u, hu⟩ := some_at (l := x) (i := k) (by omega)
    have gt := tbl_get ht
    have gu := tbl_get hu
    have mt := List.mem_of_getElem? ht
    have mu := List.mem_of_getElem? hu
    have st := hx.tbl t mt
    have su := hx.tbl u mu
    have tfl := st.fl
    have tcl := st.cl
    have ucl := su.cl
    have uk := su.key
    obtain ⟨s, es, hsl⟩ := letter t.fgn.length (by omega)
    have w1 : wrapI .i64 (97 + (t.fgn.length : Int)) = 97 + (t.fgn.length : Int) := wrap_id (by omega) (by omega)
    have sm : (1 + s.length ≤ strMax) = True := eq_true (by unfold strMax; omega)
    obtain ⟨ns, a1, p1, p2, p3, e4⟩ := l_sc4 (L := L) x t u (102 :: s) (r : Int) (j : Int) (by omega) (by omega) (by omega) (hK u mu) u.key.length 0 [] (a + 1 + 1) (B - 2) (by omega) G2 (by omega) (by simp)
    have G3 := G2.step a1 (B - 5000) (by omega) (by omega)
    have hnot : ¬ ixN t.nm (x.map (·.nm)) 0 < 0 := by
      intro h
      rcases ixN_ge t.nm (x.map (·.nm)) 0 with h1 | h1
      · exact (ixN_mem t.nm (x.map (·.nm)) 0).1 h1 (List.mem_map.2 ⟨t, mt, rfl⟩)
      · omega
    obtain ⟨b, v, hb, hv⟩ := ixN_tbl hnot
    have xt := r_TableAt x t.nm (by omega)
    rw [hb] at xt
    have mv := List.mem_of_getElem? hv
    have sv := hx.tbl v mv
    have gv := tbl_get hv
    have gv2 : (x.map tblC)[b]? = some (tblC v) := by simp [hv]
    have cT := c_cloneT x hl1 (by omega)
    have hN : SzX (x.set b ⟨v.nm, v.cols, v.key, t.fgn ++ [⟨102 :: s, ns, u.nm⟩], v.idx⟩) (j + 1) := by
      refine (hx.more (by omega)).set b ⟨sv.nm, sv.c1, sv.cl, sv.cn, sv.key, by simp; omega, fun f hf => ?_, by have := sv.il; show v.idx.length ≤ _; omega, sv.ix⟩
      rcases List.mem_append.1 hf with h | h
      · exact st.fg f h
      · rw [List.mem_singleton] at h; subst h; exact ⟨by simp; omega, by show ns.length ≤ 2; omega⟩
    have hKN : KeysIn (x.set b ⟨v.nm, v.cols, v.key, t.fgn ++ [⟨102 :: s, ns, u.nm⟩], v.idx⟩) := by
      intro y hy
      rcases List.mem_or_eq_of_mem_set hy with h1 | h1
      · exact hK y h1
      · rw [h1]; exact hK v mv
    have xF := r_SchemaFault _ (hN.fit (by omega))
    have fa := fgns_app t.fgn ⟨102 :: s, ns, u.nm⟩
    have se := set_tbl x b v.nm v.cols v.key (t.fgn ++ [⟨102 :: s, ns, u.nm⟩]) v.idx
    have rm : ((t.fgn.length + 1) * 57 ≤ roomMax) = True := eq_true (by unfold roomMax; omega)
    have rm1 : (57 ≤ roomMax) = True := eq_true (by unfold roomMax; omega)
    have tb : ((b : Int).toNat) = b := Int.toNat_natCast b
    have c1 : t.fgn = [] ∨ 1 ≤ t.fgn.length := by
      cases t.fgn with
      | nil => exact .inl rfl
      | cons a b => exact .inr (by simp)
    simp only [tblC, fgnC] at gt gu gv gv2 fa
    simp only [scH, tblC, SLs_nil, List.length_nil] at e4
    have yl : (x.set b ⟨v.nm, v.cols, v.key, t.fgn ++ [⟨102 :: s, ns, u.nm⟩], v.idx⟩).length = x.length := List.length_set
    generalize (x.set b ⟨v.nm, v.cols, v.key, t.fgn ++ [⟨102 :: s, ns, u.nm⟩], v.idx⟩) = y at *
    obtain ⟨x', a', q1, q2, q3, ih⟩ : ∃ (x' : List Tbl) (a' : Int), a1 ≤ a' ∧ a' ≤ a1 + 10000 * q ∧ SzX x' 3 ∧ ∀ (ks : List It) (Bo : Code) (jj : Int), Loop Tryz.f11 2 Bo → jj = ((j + 1 : Nat) : Int) →
        RL K (.run 11 1 (.code Bo :: .lp Bo (some ([0, 2, 3, 34, 35], [])) 4 :: .blk 2 4 :: ks) [(0, .ptr 0 0), (2, .ptr 1 0), (3, .ptr 2 0), (34, I (r : Int)), (35, I jj)] [.cells [LR L, I a1], .cells [.nils], .cells [.rows ((if chkE y = 0 then y else x).map tblC)], .hole]) =
        R K (.run 11 1 ks [(2, .ptr 1 0), (3, .ptr 2 0)] [.cells [LR L, I a'], .cells [.nils], .cells [.rows (x'.map tblC)], .hole]) := by
      split
      · exact l_sc2 r hr q (j + 1) y a1 (B - 10000) (by omega) (G3.step _ _ (by omega) (by omega)) (by omega) hN hKN
      · exact l_sc2 r hr q (j + 1) x a1 (B - 10000) (by omega) (G3.step _ _ (by omega) (by omega)) (by omega) (hx.more (by omega)) hK
    refine ⟨x', a', by omega, by omega, q3, fun ks Bo jj hB hj => ?_⟩
    subst hj
    have ih := ih ks Bo _ hB rfl
    have e0 : (chkE y == 0) = decide (chkE y = 0) := rfl
    rcases c1 with c1 | c1
    · have es0 := es
      rw [c1] at es0 se
      rw [show (97 + (([] : List Fgn).length : Int)) = 97 from rfl] at es0
      simp only [List.nil_append, List.map_cons, List.map_nil, fgnC] at se
      simp only [c1, List.map_nil] at e4 gt
      by_cases h0 : chkE y = 0
      · rw [if_pos h0] at ih
        have d0 : (chkE y == 0) = true := by simpa using h0
        unfold Loop at hB
        simp -implicitDefEqProofs only [go_sem, simprocAttr, Tryz.f11, loopOf] at hB
        subst hB
        rw [RL_eq]
        simp -implicitDefEqProofs only [go_sem, simprocAttr, d, h7, x0, x1, gt, gu, es0, sm, c1, List.length_nil, List.map_nil, tblC, fgnC, List.length_map, locsR_tbls]
        repeat' ((first | apply split_cond | apply split_yes | apply split_no) <;> intro hc <;> simp -implicitDefEqProofs only [hc, go_sem, simprocAttr, d, h7, x0, x1, gt, gu, es0, sm, c1, List.length_nil, List.map_nil, tblC, fgnC, List.length_map, locsR_tbls])
        rw [e4 _ _ 0 ?_ rfl]
        · simp -implicitDefEqProofs only [go_sem, simprocAttr, h7, tblC, fgnC, cT, xt, c_cloneF0, c1, List.length_nil, List.map_nil, gv, gv2, se, rm1, d0, xF, tb, yl, SLs_len, List.length_map, allLen_tbls, allLen_fgns, locsR_tbls, locsR_fgns, locsR_SLs, Nat.zero_add, Nat.one_mul, List.nil_append]
          repeat' ((first | apply split_cond | apply split_yes | apply split_no) <;> intro hc <;> simp -implicitDefEqProofs only [hc, go_sem, simprocAttr, h7, tblC, fgnC, cT, xt, c_cloneF0, c1, List.length_nil, List.map_nil, gv, gv2, se, rm1, d0, xF, tb, yl, SLs_len, List.length_map, allLen_tbls, allLen_fgns, locsR_tbls, locsR_fgns, locsR_SLs, Nat.zero_add, Nat.one_mul, List.nil_append])
          exact ih
        · rfl
      · rw [if_neg h0] at ih
        have d0 : (chkE y == 0) = false := by simpa using h0
        unfold Loop at hB
        simp -implicitDefEqProofs only [go_sem, simprocAttr, Tryz.f11, loopOf] at hB
        subst hB
        rw [RL_eq]
        simp -implicitDefEqProofs only [go_sem, simprocAttr, d, h7, x0, x1, gt, gu, es0, sm, c1, List.length_nil, List.map_nil, tblC, fgnC, List.length_map, locsR_tbls]
        repeat' ((first | apply split_cond | apply split_yes | apply split_no) <;> intro hc <;> simp -implicitDefEqProofs only [hc, go_sem, simprocAttr, d, h7, x0, x1, gt, gu, es0, sm, c1, List.length_nil, List.map_nil, tblC, fgnC, List.length_map, locsR_tbls])
        rw [e4 _ _ 0 ?_ rfl]
        · simp -implicitDefEqProofs only [go_sem, simprocAttr, h7, tblC, fgnC, cT, xt, c_cloneF0, c1, List.length_nil, List.map_nil, gv, gv2, se, rm1, d0, xF, tb, yl, SLs_len, List.length_map, allLen_tbls, allLen_fgns, locsR_tbls, locsR_fgns, locsR_SLs, Nat.zero_add, Nat.one_mul, List.nil_append]
          repeat' ((first | apply split_cond | apply split_yes | apply split_no) <;> intro hc <;> simp -implicitDefEqProofs only [hc, go_sem, simprocAttr, h7, tblC, fgnC, cT, xt, c_cloneF0, c1, List.length_nil, List.map_nil, gv, gv2, se, rm1, d0, xF, tb, yl, SLs_len, List.length_map, allLen_tbls, allLen_fgns, locsR_tbls, locsR_fgns, locsR_SLs, Nat.zero_add, Nat.one_mul, List.nil_append])
          exact ih
        · rfl
    · have cF := c_cloneF t.fgn c1 (by omega)
      by_cases h0 : chkE y = 0
      · rw [if_pos h0] at ih
        have d0 : (chkE y == 0) = true := by simpa using h0
        unfold Loop at hB
        simp -implicitDefEqProofs only [go_sem, simprocAttr, Tryz.f11, loopOf] at hB
        subst hB
        rw [RL_eq]
        simp -implicitDefEqProofs only [go_sem, simprocAttr, d, h7, x0, x1, gt, gu, es, w1, sm, tblC, fgnC, List.length_map, locsR_tbls]
        repeat' ((first | apply split_cond | apply split_yes | apply split_no) <;> intro hc <;> simp -implicitDefEqProofs only [hc, go_sem, simprocAttr, d, h7, x0, x1, gt, gu, es, w1, sm, tblC, fgnC, List.length_map, locsR_tbls])
        rw [e4 _ _ 0 ?_ rfl]
        · simp -implicitDefEqProofs only [go_sem, simprocAttr, h7, tblC, fgnC, cT, xt, cF, gv, gv2, fa, se, rm, d0, xF, tb, yl, SLs_len, List.length_map, allLen_tbls, allLen_fgns, locsR_tbls, locsR_fgns, locsR_SLs]
          repeat' ((first | apply split_cond | apply split_yes | apply split_no) <;> intro hc <;> simp -implicitDefEqProofs only [hc, go_sem, simprocAttr, h7, tblC, fgnC, cT, xt, cF, gv, gv2, fa, se, rm, d0, xF, tb, yl, SLs_len, List.length_map, allLen_tbls, allLen_fgns, locsR_tbls, locsR_fgns, locsR_SLs])
          exact ih
        · rfl
      · rw [if_neg h0] at ih
        have d0 : (chkE y == 0) = false := by simpa using h0
        unfold Loop at hB
        simp -implicitDefEqProofs only [go_sem, simprocAttr, Tryz.f11, loopOf] at hB
        subst hB
        rw [RL_eq]
        simp -implicitDefEqProofs only [go_sem, simprocAttr, d, h7, x0, x1, gt, gu, es, w1, sm, tblC, fgnC, List.length_map, locsR_tbls]
        repeat' ((first | apply split_cond | apply split_yes | apply split_no) <;> intro hc <;> simp -implicitDefEqProofs only [hc, go_sem, simprocAttr, d, h7, x0, x1, gt, gu, es, w1, sm, tblC, fgnC, List.length_map, locsR_tbls])
        rw [e4 _ _ 0 ?_ rfl]
        · simp -implicitDefEqProofs only [go_sem, simprocAttr, h7, tblC, fgnC, cT, xt, cF, gv, gv2, fa, se, rm, d0, xF, tb, yl, SLs_len, List.length_map, allLen_tbls, allLen_fgns, locsR_tbls, locsR_fgns, locsR_SLs]
          repeat' ((first | apply split_cond | apply split_yes | apply split_no) <;> intro hc <;> simp -implicitDefEqProofs only [hc, go_sem, simprocAttr, h7, tblC, fgnC, cT, xt, cF, gv, gv2, fa, se, rm, d0, xF, tb, yl, SLs_len, List.length_map, allLen_tbls, allLen_fgns, locsR_tbls, locsR_fgns, locsR_SLs])
          exact ih
        · rfl
theorem g_Schema {a B : Int} (h : Gd L a B) (hB : 50000 ≤ B) : ∃ (x : List Tbl) (a' : Int), R K (.call 11 [.ptr 0 0] (St L a)) = some (schC x, St L a') ∧ a ≤ a' ∧ a' ≤ a + 50000 ∧ SzX x 3 := by
  have x0 := g_Range h (by omega) 1 3 (by omega) (by omega) (by omega)
  have b0 := range_bounds L a 1 3 (by omega) (by omega)
  obtain ⟨n, hn⟩ : ∃ k : Nat, rngS L a 1 3 = (k : Int) := ⟨(rngS L a 1 3).toNat, by omega⟩
  rw [hn] at x0 b0
  have h1 := h.step (a + 1) (B - 1) (by omega) (by omega)
  obtain ⟨x, a1, p1, p2, p3, e0⟩ := l_sc0 (L := L) n (by omega) n 0 [] (a + 1) (B - 1) (by omega) h1 (by omega) ⟨rfl, by simp⟩
  have h2 := h1.step a1 (B - 1000) (by omega) (by omega)
  have x1 := g_Next h2 (by omega) 4
  have b1 := next_bounds L a1 4 (by omega) (by omega)
  obtain ⟨r, hr⟩ : ∃ k : Nat, nextS L a1 4 = (k : Int) := ⟨(nextS L a1 4).toNat, by omega⟩
  rw [hr] at x1 b1
  have h3 := h2.step (a1 + 1) (B - 1001) (by omega) (by omega)
  have hxl := p3.1
  obtain ⟨x', a', q1, q2, q3, e2⟩ := l_sc2 (L := L) r (by omega) r 0 x (a1 + 1) (B - 1001) (by omega) h3 (by omega) ⟨by omega, by omega, fun t ht => gen_sz (p3.2 t ht)⟩ (fun t ht => (p3.2 t ht).keyIn)
  refine ⟨x', a', ?_, by omega, by omega, q3⟩
  simp only [List.length_nil, List.map_nil] at e0
  rw [call_11]
  simp -implicitDefEqProofs only [go_sem, simprocAttr, Tryz.f11, x0]
  repeat' ((first | apply split_cond | apply split_yes | apply split_no) <;> intro hc <;> simp -implicitDefEqProofs only [hc, go_sem, simprocAttr, x0])
  rw [e0 _ _ 0 ?_ rfl]
  · simp -implicitDefEqProofs only [go_sem, simprocAttr, x1, locsR_tbls, List.length_map]
    repeat' ((first | apply split_cond | apply split_yes | apply split_no) <;> intro hc <;> simp -implicitDefEqProofs only [hc, go_sem, simprocAttr, x1, locsR_tbls, List.length_map])
    rw [e2 _ _ 0 ?_ rfl]
    · simp -implicitDefEqProofs only [go_sem, simprocAttr]
      repeat' ((first | apply split_cond | apply split_yes | apply split_no) <;> intro hc <;> simp -implicitDefEqProofs only [hc, go_sem, simprocAttr])
    · rfl
  · rfl
end
theorem leave_all {f : List AV → Option (List AV)} (hf : ∀ u : Tbl, f (tblC u) = some (tblC u)) : ∀ x : List Tbl, leaveRows f (x.map tblC) = some (x.map tblC)
  | [] => rfl
  | v :: x => by
    simp only [List.map_cons, leaveRows, hf]
    rw [leave_all hf x]
    simp [tblC, locsL, locs, singles, single]
theorem leave_rows {f : List AV → Option (List AV)} {RO : List AV} {t : Tbl} (hf : ∀ u : Tbl, f (tblC u) = some (tblC u)) (hR : f RO = some (tblC t)) (hl : RO.length = 5) : ∀ (x : List Tbl) (i : Nat), i < x.length → leaveRows f ((x.map tblC).set i RO) = some ((x.set i t).map tblC)
  | [], i, h => by simp at h
  | u :: x, 0, _ => by
    simp only [List.map_cons, List.set_cons_zero, leaveRows, hR, leave_all hf x]
    rw [if_pos ⟨rfl, by rw [hl]; rfl, rfl⟩]
  | u :: x, i + 1, h => by
    have ih := leave_rows hf hR hl x i (by simpa using h)
    simp only [List.map_cons, List.set_cons_succ, leaveRows, hf]
    rw [ih]
    simp [tblC, locsL, locs, singles, single]
theorem locs_set {RO : List AV} {l : Nat} (hl : l ∈ locsL RO) : ∀ (x : List Tbl) (i : Nat), i < x.length → locsR ((x.map tblC).set i RO) ≠ []
  | [], i, h => by simp at h
  | u :: x, 0, _ => by
    intro e
    simp only [List.map_cons, List.set_cons_zero, locsR, List.append_eq_nil_iff] at e
    rw [e.1] at hl
    simp at hl
  | u :: x, i + 1, h => by
    intro e
    simp only [List.map_cons, List.set_cons_succ, locsR, List.append_eq_nil_iff] at e
    exact locs_set hl x i (by simpa using h) e.2
theorem leave_one (x : List Tbl) (i : Nat) (hi : i < x.length) (nm : List UInt8) (cols : List Col) (key : List (List UInt8)) (fgn : List Fgn) (idx : List Idx) (h : Heap) (h4 : h[4]? = some (.rows 6 (cols.map colC) true)) :
    (if locsR ((x.map tblC).set i [.str nm, .own 4 cols.length, .rows (SLs key), .rows (fgn.map fgnC), .rows (idx.map idxC)]) = [] then some ((x.map tblC).set i [.str nm, .own 4 cols.length, .rows (SLs key), .rows (fgn.map fgnC), .rows (idx.map idxC)]) else leaveRows (leaveGL (orRows (leaveRows (leaveGL (orRows fun _ => none) false 1 h))) false 1 h) ((x.map tblC).set i [.str nm, .own 4 cols.length, .rows (SLs key), .rows (fgn.map fgnC), .rows (idx.map idxC)])) =
    some ((x.set i ⟨nm, cols, key, fgn, idx⟩).map tblC) := by
  rw [if_neg (locs_set (l := 4) (by simp [locsL, locs]) x i hi)]
  refine leave_rows (f := leaveGL (orRows (leaveRows (leaveGL (orRows fun _ => none) false 1 h))) false 1 h) (RO := [.str nm, .own 4 cols.length, .rows (SLs key), .rows (fgn.map fgnC), .rows (idx.map idxC)]) (fun u => rfl) ?_ rfl x i hi
  simp only [leaveGL, leaveG, h4, List.length_map, orRows, locsR_cols, if_true, tblC]
  simp
theorem at_0 {α : Type} (a : α) (l : List α) : at? (a :: l) 0 = some a := rfl
theorem at_1 {α : Type} (a b : α) (l : List α) : at? (a :: b :: l) 1 = some b := rfl
theorem at_2 {α : Type} (a b c : α) (l : List α) : at? (a :: b :: c :: l) 2 = some c := rfl
theorem at_3 {α : Type} (a b c d : α) (l : List α) : at? (a :: b :: c :: d :: l) 3 = some d := rfl
theorem cols_set (l : List Col) (j : Nat) (c : Col) : (l.map colC).set j [.str c.nm, .int .i64 c.kd, .bool c.nl, .int .i64 c.df.k, .int .i64 c.df.n, .str c.df.s] = (l.set j c).map colC := by
  rw [List.map_set]
  rfl
section
variable {L : List Int} {a B : Int}
set_option maxHeartbeats 4000000 in
theorem g_Spoiled (h : Gd L a B) (hB : 1000 ≤ B) (x : List Tbl) (m : Nat) (hm : m ≤ 100) (hx : SzX x m) : ∃ (x' : List Tbl) (a' : Int), R K (.call 13 [.ptr 0 0, schC x] (St L a)) = some (schC x', St L a') ∧ a ≤ a' ∧ a' ≤ a + 1000 ∧ SzX x' (m + 1) := by
  have h1 := hx.l1
  have hl3 := hx.l3
  have cT := c_cloneT x h1 (by omega)
  have x0 := g_Next h (by omega) (x.length : Int)
  have b0 := next_bounds L a (x.length : Int) (by omega) (by omega)
  obtain ⟨i, hi⟩ : ∃ k : Nat, nextS L a (x.length : Int) = (k : Int) := ⟨(nextS L a (x.length : Int)).toNat, by omega⟩
  rw [hi] at x0 b0
  have hil : i < x.length := by omega
  obtain ⟨t, ht⟩ := some_at (l := x) (i := i) (by omega)
  have st := hx.tbl t (List.mem_of_getElem? ht)
  have gt := tbl_get ht
  have gt2 : (x.map tblC)[i]? = some (tblC t) := by simp [ht]
  have h2 := h.step (a + 1) (B - 1) (by omega) (by omega)
  have x1 := g_Next h2 (by omega) 8
  have b1 := next_bounds L (a + 1) 8 (by omega) (by omega)
  have h3 := h2.step (a + 1 + 1) (B - 2) (by omega) (by omega)
  have z : ((x.length : Int) == 0) = false := by rw [← Bool.not_eq_true, beq_iff_eq]; omega
  have tc1 := st.c1
  have tcl := st.cl
  have cC := c_cloneC t.cols tc1 (by omega)
  have gs : ∀ R, ((x.map tblC).set i R)[i]? = some R := fun R => by rw [List.getElem?_set_self (by rw [List.length_map]; exact hil)]
  have ss : ∀ R R', ((x.map tblC).set i R).set i R' = (x.map tblC).set i R' := fun R R' => List.set_set ..
  have ls : ∀ R, ((x.map tblC).set i R).length = x.length := fun R => by rw [List.length_set, List.length_map]
  have lv := leave_one x i hil
  have SZ : ∀ t', SzT t' (m + 1) → SzX (x.set i t') (m + 1) := fun t' ht' => (hx.more (by omega)).set i ht'
  have s2 := st.more (Nat.le_succ m)
  simp only [tblC] at gt gt2
  generalize nextS L (a + 1) 8 = c at *
  have c8 : c = 0 ∨ c = 1 ∨ c = 2 ∨ c = 3 ∨ c = 4 ∨ c = 5 ∨ c = 6 ∨ c = 7 := by omega
  rcases c8 with rfl | rfl | rfl | rfl | rfl | rfl | rfl | rfl
  · have x2 := g_Next h3 (by omega) 6
    obtain ⟨s, hs, hg⟩ := str_at (l := [[], [116, 97], [116, 98], [84], [116, 95], [95, 116]]) (next_bounds L (a + 1 + 1) 6 (by omega) (by omega))
    have hsl : s.length ≤ 5 := (by decide : ∀ x ∈ ([[], [116, 97], [116, 98], [84], [116, 95], [95, 116]] : List (List UInt8)), x.length ≤ 5) s hs
    simp only [List.map] at hg
    refine ⟨x.set i ⟨s, t.cols, t.key, t.fgn, t.idx⟩, a + 1 + 1 + 1, ?_, by omega, by omega, SZ _ ⟨by show s.length ≤ 100; omega, s2.c1, s2.cl, s2.cn, s2.key, s2.fl, s2.fg, s2.il, s2.ix⟩⟩
    rw [call_13]
    simp -implicitDefEqProofs only [go_sem, simprocAttr, Tryz.f13, z, cT, x0, x1, x2, hg, gt, gt2, gs, ss, ls, lv, cC, tblC, Int.toNat_natCast, List.length_map, locsR_tbls, locsR_cols, true_or, at_0, at_1, at_2, at_3]
    repeat' ((first | apply split_cond | apply split_yes | apply split_no) <;> intro hc <;> simp -implicitDefEqProofs only [hc, go_sem, simprocAttr, z, cT, x0, x1, x2, hg, gt, gt2, gs, ss, ls, lv, cC, tblC, Int.toNat_natCast, List.length_map, locsR_tbls, locsR_cols, true_or, at_0, at_1, at_2, at_3])
  · have x2 := g_Next h3 (by omega) 4
    have b2 := next_bounds L (a + 1 + 1) 4 (by omega) (by omega)
    generalize nextS L (a + 1 + 1) 4 = d at *
    have d4 : d = 0 ∨ d = 1 ∨ d = 2 ∨ d = 3 := by omega
    rcases d4 with rfl | rfl | rfl | rfl
    · refine ⟨x.set i ⟨t.nm, t.cols, [], t.fgn, t.idx⟩, a + 1 + 1 + 1, ?_, by omega, by omega, SZ _ ⟨s2.nm, s2.c1, s2.cl, s2.cn, by simp, s2.fl, s2.fg, s2.il, s2.ix⟩⟩
      have lv := lv t.nm t.cols [] t.fgn t.idx
      rw [SLs_nil] at lv
      rw [call_13]
      simp -implicitDefEqProofs only [go_sem, simprocAttr, Tryz.f13, z, cT, x0, x1, x2, gt, gt2, gs, ss, ls, lv, cC, tblC, Int.toNat_natCast, List.length_map, locsR_tbls, locsR_cols, true_or, at_0, at_1, at_2, at_3]
      repeat' ((first | apply split_cond | apply split_yes | apply split_no) <;> intro hc <;> simp -implicitDefEqProofs only [hc, go_sem, simprocAttr, z, cT, x0, x1, x2, gt, gt2, gs, ss, ls, lv, cC, tblC, Int.toNat_natCast, List.length_map, locsR_tbls, locsR_cols, true_or, at_0, at_1, at_2, at_3])
    · refine ⟨x.set i ⟨t.nm, t.cols, [[105, 100], [105, 100]], t.fgn, t.idx⟩, a + 1 + 1 + 1, ?_, by omega, by omega, SZ _ ⟨s2.nm, s2.c1, s2.cl, s2.cn, by simp, s2.fl, s2.fg, s2.il, s2.ix⟩⟩
      have lv := lv t.nm t.cols [[105, 100], [105, 100]] t.fgn t.idx
      simp only [SLs, List.map_cons, List.map_nil] at lv
      rw [call_13]
      simp -implicitDefEqProofs only [go_sem, simprocAttr, Tryz.f13, z, cT, x0, x1, x2, gt, gt2, gs, ss, ls, lv, cC, tblC, Int.toNat_natCast, List.length_map, locsR_tbls, locsR_cols, true_or, at_0, at_1, at_2, at_3]
      repeat' ((first | apply split_cond | apply split_yes | apply split_no) <;> intro hc <;> simp -implicitDefEqProofs only [hc, go_sem, simprocAttr, z, cT, x0, x1, x2, gt, gt2, gs, ss, ls, lv, cC, tblC, Int.toNat_natCast, List.length_map, locsR_tbls, locsR_cols, true_or, at_0, at_1, at_2, at_3])
    · refine ⟨x.set i ⟨t.nm, t.cols, [[122, 122]], t.fgn, t.idx⟩, a + 1 + 1 + 1, ?_, by omega, by omega, SZ _ ⟨s2.nm, s2.c1, s2.cl, s2.cn, by simp, s2.fl, s2.fg, s2.il, s2.ix⟩⟩
      have lv := lv t.nm t.cols [[122, 122]] t.fgn t.idx
      simp only [SLs, List.map_cons, List.map_nil] at lv
      rw [call_13]
      simp -implicitDefEqProofs only [go_sem, simprocAttr, Tryz.f13, z, cT, x0, x1, x2, gt, gt2, gs, ss, ls, lv, cC, tblC, Int.toNat_natCast, List.length_map, locsR_tbls, locsR_cols, true_or, at_0, at_1, at_2, at_3]
      repeat' ((first | apply split_cond | apply split_yes | apply split_no) <;> intro hc <;> simp -implicitDefEqProofs only [hc, go_sem, simprocAttr, z, cT, x0, x1, x2, gt, gt2, gs, ss, ls, lv, cC, tblC, Int.toNat_natCast, List.length_map, locsR_tbls, locsR_cols, true_or, at_0, at_1, at_2, at_3])
    · refine ⟨x.set i ⟨t.nm, t.cols, [[99, 97]], t.fgn, t.idx⟩, a + 1 + 1 + 1, ?_, by omega, by omega, SZ _ ⟨s2.nm, s2.c1, s2.cl, s2.cn, by simp, s2.fl, s2.fg, s2.il, s2.ix⟩⟩
      have lv := lv t.nm t.cols [[99, 97]] t.fgn t.idx
      simp only [SLs, List.map_cons, List.map_nil] at lv
      rw [call_13]
      simp -implicitDefEqProofs only [go_sem, simprocAttr, Tryz.f13, z, cT, x0, x1, x2, gt, gt2, gs, ss, ls, lv, cC, tblC, Int.toNat_natCast, List.length_map, locsR_tbls, locsR_cols, true_or, at_0, at_1, at_2, at_3]
      repeat' ((first | apply split_cond | apply split_yes | apply split_no) <;> intro hc <;> simp -implicitDefEqProofs only [hc, go_sem, simprocAttr, z, cT, x0, x1, x2, gt, gt2, gs, ss, ls, lv, cC, tblC, Int.toNat_natCast, List.length_map, locsR_tbls, locsR_cols, true_or, at_0, at_1, at_2, at_3])
  · have x2 := g_Next h3 (by omega) (t.cols.length : Int)
    have b2 := next_bounds L (a + 1 + 1) (t.cols.length : Int) (by omega) (by omega)
    obtain ⟨j, hj⟩ : ∃ k : Nat, nextS L (a + 1 + 1) (t.cols.length : Int) = (k : Int) := ⟨(nextS L (a + 1 + 1) (t.cols.length : Int)).toNat, by omega⟩
    rw [hj] at x2 b2
    have h4 := h3.step (a + 1 + 1 + 1) (B - 3) (by omega) (by omega)
    have x3 := g_Range h4 (by omega) (-1) 5 (by omega) (by omega) (by omega)
    obtain ⟨e, he⟩ := some_at (l := t.cols) (i := j) (by omega)
    have ge := col_get he
    have ge2 : (t.cols.map colC)[j]? = some (colC e) := by simp [he]
    generalize rngS L (a + 1 + 1 + 1) (-1) 5 = kd at *
    have cs := cols_set t.cols j { e with kd := kd }
    have lv := lv t.nm (t.cols.set j { e with kd := kd }) t.key t.fgn t.idx
    simp only [List.length_set] at lv
    have me := List.mem_of_getElem? he
    simp only [colC] at ge ge2 cs
    refine ⟨x.set i ⟨t.nm, t.cols.set j { e with kd := kd }, t.key, t.fgn, t.idx⟩, a + 1 + 1 + 1 + 1, ?_, by omega, by omega, SZ _ ⟨s2.nm, by rw [List.length_set]; exact s2.c1, by rw [List.length_set]; exact s2.cl, fun c hc => by
      rcases List.mem_or_eq_of_mem_set hc with h1 | h1
      · exact s2.cn c h1
      · rw [h1]; exact s2.cn e me, s2.key, s2.fl, s2.fg, s2.il, s2.ix⟩⟩
    rw [call_13]
    simp -implicitDefEqProofs only [go_sem, simprocAttr, Tryz.f13, z, cT, x0, x1, x2, x3, ge, ge2, cs, gt, gt2, gs, ss, ls, lv, cC, tblC, colC, Int.toNat_natCast, List.length_map, locsR_tbls, locsR_cols, true_or, at_0, at_1, at_2, at_3]
    repeat' ((first | apply split_cond | apply split_yes | apply split_no) <;> intro hc <;> simp -implicitDefEqProofs only [hc, go_sem, simprocAttr, z, cT, x0, x1, x2, x3, ge, ge2, cs, gt, gt2, gs, ss, ls, lv, cC, tblC, colC, Int.toNat_natCast, List.length_map, locsR_tbls, locsR_cols, true_or, at_0, at_1, at_2, at_3])
  · have x2 := g_Next h3 (by omega) (t.cols.length : Int)
    have b2 := next_bounds L (a + 1 + 1) (t.cols.length : Int) (by omega) (by omega)
    obtain ⟨j, hj⟩ : ∃ k : Nat, nextS L (a + 1 + 1) (t.cols.length : Int) = (k : Int) := ⟨(nextS L (a + 1 + 1) (t.cols.length : Int)).toNat, by omega⟩
    rw [hj] at x2 b2
    have h4 := h3.step (a + 1 + 1 + 1) (B - 3) (by omega) (by omega)
    obtain ⟨e, he⟩ := some_at (l := t.cols) (i := j) (by omega)
    have ge := col_get he
    have ge2 : (t.cols.map colC)[j]? = some (colC e) := by simp [he]
    have me := List.mem_of_getElem? he
    have x3 := g_Next h4 (by omega) 4
    obtain ⟨s, hs, hg⟩ := str_at (l := [[], [105, 100], [99, 97], [65]]) (next_bounds L (a + 1 + 1 + 1) 4 (by omega) (by omega))
    have hsl : s.length ≤ 5 := (by decide : ∀ x ∈ ([[], [105, 100], [99, 97], [65]] : List (List UInt8)), x.length ≤ 5) s hs
    simp only [List.map] at hg
    have cs := cols_set t.cols j { e with nm := s }
    have lv := lv t.nm (t.cols.set j { e with nm := s }) t.key t.fgn t.idx
    simp only [List.length_set] at lv
    simp only [colC] at ge ge2 cs
    refine ⟨x.set i ⟨t.nm, t.cols.set j { e with nm := s }, t.key, t.fgn, t.idx⟩, a + 1 + 1 + 1 + 1, ?_, by omega, by omega, SZ _ ⟨s2.nm, by rw [List.length_set]; exact s2.c1, by rw [List.length_set]; exact s2.cl, fun c hc => by
      rcases List.mem_or_eq_of_mem_set hc with h1 | h1
      · exact s2.cn c h1
      · rw [h1]; show s.length ≤ 100; omega, s2.key, s2.fl, s2.fg, s2.il, s2.ix⟩⟩
    rw [call_13]
    simp -implicitDefEqProofs only [go_sem, simprocAttr, Tryz.f13, z, cT, x0, x1, x2, x3, hg, ge, ge2, cs, gt, gt2, gs, ss, ls, lv, cC, tblC, colC, Int.toNat_natCast, List.length_map, locsR_tbls, locsR_cols, true_or, at_0, at_1, at_2, at_3]
    repeat' ((first | apply split_cond | apply split_yes | apply split_no) <;> intro hc <;> simp -implicitDefEqProofs only [hc, go_sem, simprocAttr, z, cT, x0, x1, x2, x3, hg, ge, ge2, cs, gt, gt2, gs, ss, ls, lv, cC, tblC, colC, Int.toNat_natCast, List.length_map, locsR_tbls, locsR_cols, true_or, at_0, at_1, at_2, at_3])
  · obtain ⟨e, he⟩ := some_at (l := t.cols) (i := 0) (by omega)
    have ge := col_get he
    have ge2 : (t.cols.map colC)[0]? = some (colC e) := by simp [he]
    have me := List.mem_of_getElem? he
    have cs := cols_set t.cols 0 { e with nl := true }
    have lv := lv t.nm (t.cols.set 0 { e with nl := true }) t.key t.fgn t.idx
    simp only [List.length_set] at lv
    have z0 : at? (t.cols.map colC) 0 = some (colC e) := ge
    simp only [colC] at z0 ge2 cs
    refine ⟨x.set i ⟨t.nm, t.cols.set 0 { e with nl := true }, t.key, t.fgn, t.idx⟩, a + 1 + 1, ?_, by omega, by omega, SZ _ ⟨s2.nm, by rw [List.length_set]; exact s2.c1, by rw [List.length_set]; exact s2.cl, fun c hc => by
      rcases List.mem_or_eq_of_mem_set hc with h1 | h1
      · exact s2.cn c h1
      · rw [h1]; exact s2.cn e me, s2.key, s2.fl, s2.fg, s2.il, s2.ix⟩⟩
    rw [call_13]
    simp -implicitDefEqProofs only [go_sem, simprocAttr, Tryz.f13, z, cT, x0, x1, z0, ge2, cs, gt, gt2, gs, ss, ls, lv, cC, tblC, colC, Int.toNat_natCast, List.length_map, locsR_tbls, locsR_cols, true_or, at_0, at_1, at_2, at_3]
    repeat' ((first | apply split_cond | apply split_yes | apply split_no) <;> intro hc <;> simp -implicitDefEqProofs only [hc, go_sem, simprocAttr, z, cT, x0, x1, z0, ge2, cs, gt, gt2, gs, ss, ls, lv, cC, tblC, colC, Int.toNat_natCast, List.length_map, locsR_tbls, locsR_cols, true_or, at_0, at_1, at_2, at_3])
  · have c1 : t.idx = [] ∨ 1 ≤ t.idx.length := by
      cases t.idx with
      | nil => exact .inl rfl
      | cons a b => exact .inr (by simp)
    have til := st.il
    have rm : ((t.idx.length + 1) * 49 ≤ roomMax) = True := eq_true (by unfold roomMax; omega)
    have rm1 : (49 ≤ roomMax) = True := eq_true (by unfold roomMax; omega)
    have x2 := g_Next h3 (by omega) 3
    obtain ⟨s, hs, hg⟩ := str_at (l := [[105, 97], [122], [65]]) (next_bounds L (a + 1 + 1) 3 (by omega) (by omega))
    have hsl : s.length ≤ 5 := (by decide : ∀ x ∈ ([[105, 97], [122], [65]] : List (List UInt8)), x.length ≤ 5) s hs
    simp only [List.map] at hg
    have h4 := h3.step (a + 1 + 1 + 1) (B - 3) (by omega) (by omega)
    have x3 := g_Next h4 (by omega) 4
    have b3 := next_bounds L (a + 1 + 1 + 1) 4 (by omega) (by omega)
    generalize nextS L (a + 1 + 1 + 1) 4 = d at *
    generalize nextS L (a + 1 + 1) 3 = d0 at *
    have d4 : d = 0 ∨ d = 1 ∨ d = 2 ∨ d = 3 := by omega
    have key : ∀ ns : List (List UInt8), ns.length ≤ 2 → SzX (x.set i ⟨t.nm, t.cols, t.key, t.fgn, t.idx ++ [⟨s, ns, false⟩]⟩) (m + 1) := fun ns hn => SZ _ ⟨s2.nm, s2.c1, s2.cl, s2.cn, s2.key, s2.fl, s2.fg, by show (t.idx ++ _).length ≤ _; simp; omega, fun f hf => by
      rcases List.mem_append.1 hf with h | h
      · exact s2.ix f h
      · rw [List.mem_singleton] at h; subst h; exact ⟨by show s.length ≤ 100; omega, hn⟩⟩
    rcases d4 with rfl | rfl | rfl | rfl
    · refine ⟨x.set i ⟨t.nm, t.cols, t.key, t.fgn, t.idx ++ [⟨s, [], false⟩]⟩, a + 1 + 1 + 1 + 1, ?_, by omega, by omega, key _ (by simp)⟩
      have lv := lv t.nm t.cols t.key t.fgn (t.idx ++ [⟨s, [], false⟩])
      have ia := idx_app t.idx ⟨s, [], false⟩
      simp only [idxC, SLs, List.map_cons, List.map_nil] at ia
      rcases c1 with c1 | c1
      · rw [c1] at lv
        simp only [List.nil_append, List.map_cons, List.map_nil, idxC, SLs] at lv
        simp only [c1, List.map_nil] at gt gt2
        simp only [c1]
        rw [call_13]
        simp -implicitDefEqProofs only [go_sem, simprocAttr, Tryz.f13, z, cT, x0, x1, x2, x3, hg, rm1, c_cloneI0, c1, gt, gt2, gs, ss, ls, lv, cC, tblC, idxC, Int.toNat_natCast, List.length_map, List.map_nil, List.length_nil, List.nil_append, Nat.zero_add, Nat.one_mul, locsR_tbls, locsR_cols, true_or, at_0, at_1, at_2, at_3]
        repeat' ((first | apply split_cond | apply split_yes | apply split_no) <;> intro hc <;> simp -implicitDefEqProofs only [hc, go_sem, simprocAttr, z, cT, x0, x1, x2, x3, hg, rm1, c_cloneI0, c1, gt, gt2, gs, ss, ls, lv, cC, tblC, idxC, Int.toNat_natCast, List.length_map, List.map_nil, List.length_nil, List.nil_append, Nat.zero_add, Nat.one_mul, locsR_tbls, locsR_cols, true_or, at_0, at_1, at_2, at_3])
      · have cI := c_cloneI t.idx c1 (by omega)
        rw [call_13]
        simp -implicitDefEqProofs only [go_sem, simprocAttr, Tryz.f13, z, cT, x0, x1, x2, x3, hg, rm, cI, ia, gt, gt2, gs, ss, ls, lv, cC, tblC, idxC, Int.toNat_natCast, List.length_map, locsR_tbls, locsR_cols, locsR_idx, allLen_idxs, true_or, at_0, at_1, at_2, at_3]
        repeat' ((first | apply split_cond | apply split_yes | apply split_no) <;> intro hc <;> simp -implicitDefEqProofs only [hc, go_sem, simprocAttr, z, cT, x0, x1, x2, x3, hg, rm, cI, ia, gt, gt2, gs, ss, ls, lv, cC, tblC, idxC, Int.toNat_natCast, List.length_map, locsR_tbls, locsR_cols, locsR_idx, allLen_idxs, true_or, at_0, at_1, at_2, at_3])
    · refine ⟨x.set i ⟨t.nm, t.cols, t.key, t.fgn, t.idx ++ [⟨s, [[105, 100]], false⟩]⟩, a + 1 + 1 + 1 + 1, ?_, by omega, by omega, key _ (by simp)⟩
      have lv := lv t.nm t.cols t.key t.fgn (t.idx ++ [⟨s, [[105, 100]], false⟩])
      have ia := idx_app t.idx ⟨s, [[105, 100]], false⟩
      simp only [idxC, SLs, List.map_cons, List.map_nil] at ia
      rcases c1 with c1 | c1
      · rw [c1] at lv
        simp only [List.nil_append, List.map_cons, List.map_nil, idxC, SLs] at lv
        simp only [c1, List.map_nil] at gt gt2
        simp only [c1]
        rw [call_13]
        simp -implicitDefEqProofs only [go_sem, simprocAttr, Tryz.f13, z, cT, x0, x1, x2, x3, hg, rm1, c_cloneI0, c1, gt, gt2, gs, ss, ls, lv, cC, tblC, idxC, Int.toNat_natCast, List.length_map, List.map_nil, List.length_nil, List.nil_append, Nat.zero_add, Nat.one_mul, locsR_tbls, locsR_cols, true_or, at_0, at_1, at_2, at_3]
        repeat' ((first | apply split_cond | apply split_yes | apply split_no) <;> intro hc <;> simp -implicitDefEqProofs only [hc, go_sem, simprocAttr, z, cT, x0, x1, x2, x3, hg, rm1, c_cloneI0, c1, gt, gt2, gs, ss, ls, lv, cC, tblC, idxC, Int.toNat_natCast, List.length_map, List.map_nil, List.length_nil, List.nil_append, Nat.zero_add, Nat.one_mul, locsR_tbls, locsR_cols, true_or, at_0, at_1, at_2, at_3])
      · have cI := c_cloneI t.idx c1 (by omega)
        rw [call_13]
        simp -implicitDefEqProofs only [go_sem, simprocAttr, Tryz.f13, z, cT, x0, x1, x2, x3, hg, rm, cI, ia, gt, gt2, gs, ss, ls, lv, cC, tblC, idxC, Int.toNat_natCast, List.length_map, locsR_tbls, locsR_cols, locsR_idx, allLen_idxs, true_or, at_0, at_1, at_2, at_3]
        repeat' ((first | apply split_cond | apply split_yes | apply split_no) <;> intro hc <;> simp -implicitDefEqProofs only [hc, go_sem, simprocAttr, z, cT, x0, x1, x2, x3, hg, rm, cI, ia, gt, gt2, gs, ss, ls, lv, cC, tblC, idxC, Int.toNat_natCast, List.length_map, locsR_tbls, locsR_cols, locsR_idx, allLen_idxs, true_or, at_0, at_1, at_2, at_3])
    · refine ⟨x.set i ⟨t.nm, t.cols, t.key, t.fgn, t.idx ++ [⟨s, [[122, 122]], false⟩]⟩, a + 1 + 1 + 1 + 1, ?_, by omega, by omega, key _ (by simp)⟩
      have lv := lv t.nm t.cols t.key t.fgn (t.idx ++ [⟨s, [[122, 122]], false⟩])
      have ia := idx_app t.idx ⟨s, [[122, 122]], false⟩
      simp only [idxC, SLs, List.map_cons, List.map_nil] at ia
      rcases c1 with c1 | c1
      · rw [c1] at lv
        simp only [List.nil_append, List.map_cons, List.map_nil, idxC, SLs] at lv
        simp only [c1, List.map_nil] at gt gt2
        simp only [c1]
        rw [call_13]
        simp -implicitDefEqProofs only [go_sem, simprocAttr, Tryz.f13, z, cT, x0, x1, x2, x3, hg, rm1, c_cloneI0, c1, gt, gt2, gs, ss, ls, lv, cC, tblC, idxC, Int.toNat_natCast, List.length_map, List.map_nil, List.length_nil, List.nil_append, Nat.zero_add, Nat.one_mul, locsR_tbls, locsR_cols, true_or, at_0, at_1, at_2, at_3]
        repeat' ((first | apply split_cond | apply split_yes | apply split_no) <;> intro hc <;> simp -implicitDefEqProofs only [hc, go_sem, simprocAttr, z, cT, x0, x1, x2, x3, hg, rm1, c_cloneI0, c1, gt, gt2, gs, ss, ls, lv, cC, tblC, idxC, Int.toNat_natCast, List.length_map, List.map_nil, List.length_nil, List.nil_append, Nat.zero_add, Nat.one_mul, locsR_tbls, locsR_cols, true_or, at_0, at_1, at_2, at_3])
      · have cI := c_cloneI t.idx c1 (by omega)
        rw [call_13]
        simp -implicitDefEqProofs only [go_sem, simprocAttr, Tryz.f13, z, cT, x0, x1, x2, x3, hg, rm, cI, ia, gt, gt2, gs, ss, ls, lv, cC, tblC, idxC, Int.toNat_natCast, List.length_map, locsR_tbls, locsR_cols, locsR_idx, allLen_idxs, true_or, at_0, at_1, at_2, at_3]
        repeat' ((first | apply split_cond | apply split_yes | apply split_no) <;> intro hc <;> simp -implicitDefEqProofs only [hc, go_sem, simprocAttr, z, cT, x0, x1, x2, x3, hg, rm, cI, ia, gt, gt2, gs, ss, ls, lv, cC, tblC, idxC, Int.toNat_natCast, List.length_map, locsR_tbls, locsR_cols, locsR_idx, allLen_idxs, true_or, at_0, at_1, at_2, at_3])
    · refine ⟨x.set i ⟨t.nm, t.cols, t.key, t.fgn, t.idx ++ [⟨s, [[105, 100], [105, 100]], false⟩]⟩, a + 1 + 1 + 1 + 1, ?_, by omega, by omega, key _ (by simp)⟩
      have lv := lv t.nm t.cols t.key t.fgn (t.idx ++ [⟨s, [[105, 100], [105, 100]], false⟩])
      have ia := idx_app t.idx ⟨s, [[105, 100], [105, 100]], false⟩
      simp only [idxC, SLs, List.map_cons, List.map_nil] at ia
      rcases c1 with c1 | c1
      · rw [c1] at lv
        simp only [List.nil_append, List.map_cons, List.map_nil, idxC, SLs] at lv
        simp only [c1, List.map_nil] at gt gt2
        simp only [c1]
        rw [call_13]
        simp -implicitDefEqProofs only [go_sem, simprocAttr, Tryz.f13, z, cT, x0, x1, x2, x3, hg, rm1, c_cloneI0, c1, gt, gt2, gs, ss, ls, lv, cC, tblC, idxC, Int.toNat_natCast, List.length_map, List.map_nil, List.length_nil, List.nil_append, Nat.zero_add, Nat.one_mul, locsR_tbls, locsR_cols, true_or, at_0, at_1, at_2, at_3]
        repeat' ((first | apply split_cond | apply split_yes | apply split_no) <;> intro hc <;> simp -implicitDefEqProofs only [hc, go_sem, simprocAttr, z, cT, x0, x1, x2, x3, hg, rm1, c_cloneI0, c1, gt, gt2, gs, ss, ls, lv, cC, tblC, idxC, Int.toNat_natCast, List.length_map, List.map_nil, List.length_nil, List.nil_append, Nat.zero_add, Nat.one_mul, locsR_tbls, locsR_cols, true_or, at_0, at_1, at_2, at_3])
      · have cI := c_cloneI t.idx c1 (by omega)
        rw [call_13]
        simp -implicitDefEqProofs only [go_sem, simprocAttr, Tryz.f13, z, cT, x0, x1, x2, x3, hg, rm, cI, ia, gt, gt2, gs, ss, ls, lv, cC, tblC, idxC, Int.toNat_natCast, List.length_map, locsR_tbls, locsR_cols, locsR_idx, allLen_idxs, true_or, at_0, at_1, at_2, at_3]
        repeat' ((first | apply split_cond | apply split_yes | apply split_no) <;> intro hc <;> simp -implicitDefEqProofs only [hc, go_sem, simprocAttr, z, cT, x0, x1, x2, x3, hg, rm, cI, ia, gt, gt2, gs, ss, ls, lv, cC, tblC, idxC, Int.toNat_natCast, List.length_map, locsR_tbls, locsR_cols, locsR_idx, allLen_idxs, true_or, at_0, at_1, at_2, at_3])
  · have c1 : t.fgn = [] ∨ 1 ≤ t.fgn.length := by
      cases t.fgn with
      | nil => exact .inl rfl
      | cons a b => exact .inr (by simp)
    have til := st.fl
    have rm : ((t.fgn.length + 1) * 57 ≤ roomMax) = True := eq_true (by unfold roomMax; omega)
    have rm1 : (57 ≤ roomMax) = True := eq_true (by unfold roomMax; omega)
    have x2 := g_Next h3 (by omega) 2
    obtain ⟨s, hs, hg⟩ := str_at (l := [[102, 97], [122]]) (next_bounds L (a + 1 + 1) 2 (by omega) (by omega))
    have hsl : s.length ≤ 5 := (by decide : ∀ x ∈ ([[102, 97], [122]] : List (List UInt8)), x.length ≤ 5) s hs
    simp only [List.map] at hg
    have h4 := h3.step (a + 1 + 1 + 1) (B - 3) (by omega) (by omega)
    have x3 := g_Next h4 (by omega) 2
    obtain ⟨s', hs', hg'⟩ := str_at (l := [[116, 97], [122, 122]]) (next_bounds L (a + 1 + 1 + 1) 2 (by omega) (by omega))
    simp only [List.map] at hg'
    have h5 := h4.step (a + 1 + 1 + 1 + 1) (B - 4) (by omega) (by omega)
    have x4 := g_Next h5 (by omega) 3
    have b4 := next_bounds L (a + 1 + 1 + 1 + 1) 3 (by omega) (by omega)
    generalize nextS L (a + 1 + 1 + 1 + 1) 3 = d at *
    generalize nextS L (a + 1 + 1 + 1) 2 = d1 at *
    generalize nextS L (a + 1 + 1) 2 = d0 at *
    have d4 : d = 0 ∨ d = 1 ∨ d = 2 := by omega
    have key : ∀ ns : List (List UInt8), ns.length ≤ 2 → SzX (x.set i ⟨t.nm, t.cols, t.key, t.fgn ++ [⟨s, ns, s'⟩], t.idx⟩) (m + 1) := fun ns hn => SZ _ ⟨s2.nm, s2.c1, s2.cl, s2.cn, s2.key, by show (t.fgn ++ _).length ≤ _; simp; omega, fun f hf => by
      rcases List.mem_append.1 hf with h | h
      · exact s2.fg f h
      · rw [List.mem_singleton] at h; subst h; exact ⟨by show s.length ≤ 100; omega, hn⟩, s2.il, s2.ix⟩
    rcases d4 with rfl | rfl | rfl
    · refine ⟨x.set i ⟨t.nm, t.cols, t.key, t.fgn ++ [⟨s, [], s'⟩], t.idx⟩, a + 1 + 1 + 1 + 1 + 1, ?_, by omega, by omega, key _ (by simp)⟩
      have lv := lv t.nm t.cols t.key (t.fgn ++ [⟨s, [], s'⟩]) t.idx
      have ia := fgns_app t.fgn ⟨s, [], s'⟩
      simp only [fgnC, SLs, List.map_cons, List.map_nil] at ia
      rcases c1 with c1 | c1
      · rw [c1] at lv
        simp only [List.nil_append, List.map_cons, List.map_nil, fgnC, SLs] at lv
        simp only [c1, List.map_nil] at gt gt2
        simp only [c1]
        rw [call_13]
        simp -implicitDefEqProofs only [go_sem, simprocAttr, Tryz.f13, z, cT, x0, x1, x2, x3, x4, hg, hg', rm1, c_cloneF0, c1, gt, gt2, gs, ss, ls, lv, cC, tblC, fgnC, Int.toNat_natCast, List.length_map, List.map_nil, List.length_nil, List.nil_append, Nat.zero_add, Nat.one_mul, locsR_tbls, locsR_cols, true_or, at_0, at_1, at_2, at_3]
        repeat' ((first | apply split_cond | apply split_yes | apply split_no) <;> intro hc <;> simp -implicitDefEqProofs only [hc, go_sem, simprocAttr, z, cT, x0, x1, x2, x3, x4, hg, hg', rm1, c_cloneF0, c1, gt, gt2, gs, ss, ls, lv, cC, tblC, fgnC, Int.toNat_natCast, List.length_map, List.map_nil, List.length_nil, List.nil_append, Nat.zero_add, Nat.one_mul, locsR_tbls, locsR_cols, true_or, at_0, at_1, at_2, at_3])
      · have cF := c_cloneF t.fgn c1 (by omega)
        rw [call_13]
        simp -implicitDefEqProofs only [go_sem, simprocAttr, Tryz.f13, z, cT, x0, x1, x2, x3, x4, hg, hg', rm, cF, ia, gt, gt2, gs, ss, ls, lv, cC, tblC, fgnC, Int.toNat_natCast, List.length_map, locsR_tbls, locsR_cols, locsR_fgns, allLen_fgns, true_or, at_0, at_1, at_2, at_3]
        repeat' ((first | apply split_cond | apply split_yes | apply split_no) <;> intro hc <;> simp -implicitDefEqProofs only [hc, go_sem, simprocAttr, z, cT, x0, x1, x2, x3, x4, hg, hg', rm, cF, ia, gt, gt2, gs, ss, ls, lv, cC, tblC, fgnC, Int.toNat_natCast, List.length_map, locsR_tbls, locsR_cols, locsR_fgns, allLen_fgns, true_or, at_0, at_1, at_2, at_3])
    · refine ⟨x.set i ⟨t.nm, t.cols, t.key, t.fgn ++ [⟨s, [[105, 100]], s'⟩], t.idx⟩, a + 1 + 1 + 1 + 1 + 1, ?_, by omega, by omega, key _ (by simp)⟩
      have lv := lv t.nm t.cols t.key (t.fgn ++ [⟨s, [[105, 100]], s'⟩]) t.idx
      have ia := fgns_app t.fgn ⟨s, [[105, 100]], s'⟩
      simp only [fgnC, SLs, List.map_cons, List.map_nil] at ia
      rcases c1 with c1 | c1
      · rw [c1] at lv
        simp only [List.nil_append, List.map_cons, List.map_nil, fgnC, SLs] at lv
        simp only [c1, List.map_nil] at gt gt2
        simp only [c1]
        rw [call_13]
        simp -implicitDefEqProofs only [go_sem, simprocAttr, Tryz.f13, z, cT, x0, x1, x2, x3, x4, hg, hg', rm1, c_cloneF0, c1, gt, gt2, gs, ss, ls, lv, cC, tblC, fgnC, Int.toNat_natCast, List.length_map, List.map_nil, List.length_nil, List.nil_append, Nat.zero_add, Nat.one_mul, locsR_tbls, locsR_cols, true_or, at_0, at_1, at_2, at_3]
        repeat' ((first | apply split_cond | apply split_yes | apply split_no) <;> intro hc <;> simp -implicitDefEqProofs only [hc, go_sem, simprocAttr, z, cT, x0, x1, x2, x3, x4, hg, hg', rm1, c_cloneF0, c1, gt, gt2, gs, ss, ls, lv, cC, tblC, fgnC, Int.toNat_natCast, List.length_map, List.map_nil, List.length_nil, List.nil_append, Nat.zero_add, Nat.one_mul, locsR_tbls, locsR_cols, true_or, at_0, at_1, at_2, at_3])
      · have cF := c_cloneF t.fgn c1 (by omega)
        rw [call_13]
        simp -implicitDefEqProofs only [go_sem, simprocAttr, Tryz.f13, z, cT, x0, x1, x2, x3, x4, hg, hg', rm, cF, ia, gt, gt2, gs, ss, ls, lv, cC, tblC, fgnC, Int.toNat_natCast, List.length_map, locsR_tbls, locsR_cols, locsR_fgns, allLen_fgns, true_or, at_0, at_1, at_2, at_3]
        repeat' ((first | apply split_cond | apply split_yes | apply split_no) <;> intro hc <;> simp -implicitDefEqProofs only [hc, go_sem, simprocAttr, z, cT, x0, x1, x2, x3, x4, hg, hg', rm, cF, ia, gt, gt2, gs, ss, ls, lv, cC, tblC, fgnC, Int.toNat_natCast, List.length_map, locsR_tbls, locsR_cols, locsR_fgns, allLen_fgns, true_or, at_0, at_1, at_2, at_3])
    · refine ⟨x.set i ⟨t.nm, t.cols, t.key, t.fgn ++ [⟨s, [[99, 97]], s'⟩], t.idx⟩, a + 1 + 1 + 1 + 1 + 1, ?_, by omega, by omega, key _ (by simp)⟩
      have lv := lv t.nm t.cols t.key (t.fgn ++ [⟨s, [[99, 97]], s'⟩]) t.idx
      have ia := fgns_app t.fgn ⟨s, [[99, 97]], s'⟩
      simp only [fgnC, SLs, List.map_cons, List.map_nil] at ia
      rcases c1 with c1 | c1
      · rw [c1] at lv
        simp only [List.nil_append, List.map_cons, List.map_nil, fgnC, SLs] at lv
        simp only [c1, List.map_nil] at gt gt2
        simp only [c1]
        rw [call_13]
        simp -implicitDefEqProofs only [go_sem, simprocAttr, Tryz.f13, z, cT, x0, x1, x2, x3, x4, hg, hg', rm1, c_cloneF0, c1, gt, gt2, gs, ss, ls, lv, cC, tblC, fgnC, Int.toNat_natCast, List.length_map, List.map_nil, List.length_nil, List.nil_append, Nat.zero_add, Nat.one_mul, locsR_tbls, locsR_cols, true_or, at_0, at_1, at_2, at_3]
        repeat' ((first | apply split_cond | apply split_yes | apply split_no) <;> intro hc <;> simp -implicitDefEqProofs only [hc, go_sem, simprocAttr, z, cT, x0, x1, x2, x3, x4, hg, hg', rm1, c_cloneF0, c1, gt, gt2, gs, ss, ls, lv, cC, tblC, fgnC, Int.toNat_natCast, List.length_map, List.map_nil, List.length_nil, List.nil_append, Nat.zero_add, Nat.one_mul, locsR_tbls, locsR_cols, true_or, at_0, at_1, at_2, at_3])
      · have cF := c_cloneF t.fgn c1 (by omega)
        rw [call_13]
        simp -implicitDefEqProofs only [go_sem, simprocAttr, Tryz.f13, z, cT, x0, x1, x2, x3, x4, hg, hg', rm, cF, ia, gt, gt2, gs, ss, ls, lv, cC, tblC, fgnC, Int.toNat_natCast, List.length_map, locsR_tbls, locsR_cols, locsR_fgns, allLen_fgns, true_or, at_0, at_1, at_2, at_3]
        repeat' ((first | apply split_cond | apply split_yes | apply split_no) <;> intro hc <;> simp -implicitDefEqProofs only [hc, go_sem, simprocAttr, z, cT, x0, x1, x2, x3, x4, hg, hg', rm, cF, ia, gt, gt2, gs, ss, ls, lv, cC, tblC, fgnC, Int.toNat_natCast, List.length_map, locsR_tbls, locsR_cols, locsR_fgns, allLen_fgns, true_or, at_0, at_1, at_2, at_3])
  · have x2 := g_Next h3 (by omega) (t.cols.length : Int)
    have b2 := next_bounds L (a + 1 + 1) (t.cols.length : Int) (by omega) (by omega)
    obtain ⟨j, hj⟩ : ∃ k : Nat, nextS L (a + 1 + 1) (t.cols.length : Int) = (k : Int) := ⟨(nextS L (a + 1 + 1) (t.cols.length : Int)).toNat, by omega⟩
    rw [hj] at x2 b2
    have h4 := h3.step (a + 1 + 1 + 1) (B - 3) (by omega) (by omega)
    obtain ⟨e, he⟩ := some_at (l := t.cols) (i := j) (by omega)
    have ge := col_get he
    have ge2 : (t.cols.map colC)[j]? = some (colC e) := by simp [he]
    have me := List.mem_of_getElem? he
    obtain ⟨v, a1, x3, q1, q2, _⟩ := g_Any h4 (by omega)
    have cs := cols_set t.cols j { e with df := v }
    have lv := lv t.nm (t.cols.set j { e with df := v }) t.key t.fgn t.idx
    simp only [List.length_set] at lv
    simp only [colC] at ge ge2 cs
    simp only [enc] at x3
    refine ⟨x.set i ⟨t.nm, t.cols.set j { e with df := v }, t.key, t.fgn, t.idx⟩, a1, ?_, by omega, by omega, SZ _ ⟨s2.nm, by rw [List.length_set]; exact s2.c1, by rw [List.length_set]; exact s2.cl, fun c hc => by
      rcases List.mem_or_eq_of_mem_set hc with h1 | h1
      · exact s2.cn c h1
      · rw [h1]; exact s2.cn e me, s2.key, s2.fl, s2.fg, s2.il, s2.ix⟩⟩
    rw [call_13]
    simp -implicitDefEqProofs only [go_sem, simprocAttr, Tryz.f13, z, cT, x0, x1, x2, x3, ge, ge2, cs, gt, gt2, gs, ss, ls, lv, cC, tblC, colC, Int.toNat_natCast, List.length_map, locsR_tbls, locsR_cols, true_or, at_0, at_1, at_2, at_3]
    repeat' ((first | apply split_cond | apply split_yes | apply split_no) <;> intro hc <;> simp -implicitDefEqProofs only [hc, go_sem, simprocAttr, z, cT, x0, x1, x2, x3, ge, ge2, cs, gt, gt2, gs, ss, ls, lv, cC, tblC, colC, Int.toNat_natCast, List.length_map, locsR_tbls, locsR_cols, true_or, at_0, at_1, at_2, at_3])
end
section
variable {L : List Int}
theorem l_loose (n : Nat) (hn : n ≤ 2) : ∀ (q j : Nat) (x : List Tbl) (a B : Int), n = j + q → Gd L a B → (1000 * q : Int) ≤ B → SzX x (3 + j) →
    ∃ (x' : List Tbl) (a' : Int), a ≤ a' ∧ a' ≤ a + 1000 * q ∧ SzX x' 5 ∧ ∀ (ks : List It) (Bo : Code) (jj : Int), Loop Tryz.f4 0 Bo → jj = (j : Int) →
    RL K (.run 4 1 (.code Bo :: .lp Bo (some ([0, 2, 3, 8, 9], [])) 3 :: .blk 0 3 :: ks) [(0, .ptr 0 0), (2, .ptr 1 0), (3, .ptr 2 0), (8, I (n : Int)), (9, I jj)] [.cells [LR L, I a], .cells [.nils], .cells [.rows (x.map tblC)]]) =
    R K (.run 4 1 ks [(2, .ptr 1 0), (3, .ptr 2 0)] [.cells [LR L, I a'], .cells [.nils], .cells [.rows (x'.map tblC)]])
  | 0, j, x, a, B, hq, hG, hB', hx => by
    have d : ¬ (j : Int) < (n : Int) := by omega
    refine ⟨x, a, by omega, by omega, hx.more (by omega), fun ks Bo jj hB hj => ?_⟩
    subst hj
    unfold Loop at hB
    simp -implicitDefEqProofs only [go_sem, simprocAttr, Tryz.f4, loopOf] at hB
    subst hB
    rw [RL_eq]
    simp -implicitDefEqProofs only [go_sem, simprocAttr, d]
    repeat' ((first | apply split_cond | apply split_yes | apply split_no) <;> intro hc <;> simp -implicitDefEqProofs only [hc, go_sem, simprocAttr, d])
  | q + 1, j, x, a, B, hq, hG, hB', hx => by
    have d : (j : Int) < (n : Int) := by omega
    have h7 := next_id (i := j) (n := n) (by omega) (by omega)
    obtain ⟨y, a1, x1, p1, p2, p3⟩ := g_Spoiled hG (by omega) x (3 + j) (by omega) hx
    obtain ⟨x', a', q1, q2, q3, ih⟩ := l_loose n hn q (j + 1) y a1 (B - 1000) (by omega) (hG.step _ _ (by omega) (by omega)) (by omega) p3
    refine ⟨x', a', by omega, by omega, q3, fun ks Bo jj hB hj => ?_⟩
    subst hj
    have ih := ih ks Bo _ hB rfl
    unfold Loop at hB
    simp -implicitDefEqProofs only [go_sem, simprocAttr, Tryz.f4, loopOf] at hB
    subst hB
    rw [RL_eq]
    simp -implicitDefEqProofs only [go_sem, simprocAttr, d, h7, x1]
    repeat' ((first | apply split_cond | apply split_yes | apply split_no) <;> intro hc <;> simp -implicitDefEqProofs only [hc, go_sem, simprocAttr, d, h7, x1])
    exact ih
theorem g_loose {a B : Int} (h : Gd L a B) (hB : 100000 ≤ B) : ∃ (x : List Tbl) (a' : Int), R K (.call 4 [.ptr 0 0] (St L a)) = some (schC x, St L a') ∧ SzX x 5 := by
  obtain ⟨x, a1, x1, p1, p2, p3⟩ := g_Schema h (by omega)
  have h1 := h.step a1 (B - 50000) (by omega) (by omega)
  obtain ⟨n, hn, y⟩ := g_Pick h1 (by omega) [0, 0, 1, 1, 2] (by decide) (by decide)
  have hb : 0 ≤ n ∧ n ≤ 2 := (by decide : ∀ x ∈ ([0, 0, 1, 1, 2] : List Int), 0 ≤ x ∧ x ≤ 2) n hn
  obtain ⟨k, rfl⟩ : ∃ k : Nat, n = (k : Int) := ⟨n.toNat, by omega⟩
  have h2 := h1.step (a1 + 1) (B - 50001) (by omega) (by omega)
  obtain ⟨x', a', q1, q2, q3, e⟩ := l_loose (L := L) k (by omega) k 0 x (a1 + 1) (B - 50001) (by omega) h2 (by omega) p3
  simp only [List.map] at y
  refine ⟨x', a', ?_, q3⟩
  rw [call_4]
  simp -implicitDefEqProofs only [go_sem, simprocAttr, Tryz.f4, x1, y]
  repeat' ((first | apply split_cond | apply split_yes | apply split_no) <;> intro hc <;> simp -implicitDefEqProofs only [hc, go_sem, simprocAttr, x1, y])
  rw [e _ _ 0 ?_ rfl]
  · simp -implicitDefEqProofs only [go_sem, simprocAttr]
    repeat' ((first | apply split_cond | apply split_yes | apply split_no) <;> intro hc <;> simp -implicitDefEqProofs only [hc, go_sem, simprocAttr])
  · rfl
end
theorem l_Equal (l : List (List UInt8)) (hl : l.length ≤ 1000000) (ks : List It) : ∀ (q j : Nat) (i : Int) (Bo : Code), Loop Tryz.f10 0 Bo → i = (j : Int) → l.length = j + q →
    RL K (.run 10 0 (.code Bo :: .lp Bo (some ([0, 1, 12, 13], [])) 0 :: .blk 0 0 :: ks) [(0, .rows (SLs l)), (1, .rows (SLs l)), (12, I (l.length : Int)), (13, I i)] []) =
    R K (.run 10 0 ks [] [])
  | 0, j, i, Bo, hB, hi, hq => by
    subst hi
    have d : ¬ (j : Int) < (l.length : Int) := by omega
    unfold Loop at hB
    simp -implicitDefEqProofs only [go_sem, simprocAttr, Tryz.f10, loopOf] at hB
    subst hB
    rw [RL_eq]
    simp -implicitDefEqProofs only [go_sem, simprocAttr, d]
    repeat' ((first | apply split_cond | apply split_yes | apply split_no) <;> intro hc <;> simp -implicitDefEqProofs only [hc, go_sem, simprocAttr, d])
  | q + 1, j, i, Bo, hB, hi, hq => by
    subst hi
    have hB' := hB
    have d : (j : Int) < (l.length : Int) := by omega
    have h7 := next_id (i := j) (n := l.length) (by omega) (by omega)
    obtain ⟨c, hc⟩ := some_at (l := l) (i := j) (by omega)
    have gc := str_get hc
    have ih := l_Equal l hl ks q (j + 1) _ Bo hB' rfl (by omega)
    unfold Loop at hB
    simp -implicitDefEqProofs only [go_sem, simprocAttr, Tryz.f10, loopOf] at hB
    subst hB
    rw [RL_eq]
    simp -implicitDefEqProofs only [go_sem, simprocAttr, d, h7, gc, bne, beq_self_eq_true]
    repeat' ((first | apply split_cond | apply split_yes | apply split_no) <;> intro hc <;> simp -implicitDefEqProofs only [hc, go_sem, simprocAttr, d, h7, gc, bne, beq_self_eq_true])
    exact ih
theorem c_Equal (l : List (List UInt8)) (hl : l.length ≤ 1000000) : R K (.call 10 [.rows (SLs l), .rows (SLs l)] []) = some (.bool true, []) := by
  have lk := fun ks B hB => l_Equal l hl ks l.length 0 0 B hB rfl (by omega)
  rw [call_10]
  simp -implicitDefEqProofs only [go_sem, simprocAttr, Tryz.f10, SLs_len, bne, beq_self_eq_true]
  repeat' ((first | apply split_cond | apply split_yes | apply split_no) <;> intro hc <;> simp -implicitDefEqProofs only [hc, go_sem, simprocAttr, SLs_len, bne, beq_self_eq_true])
  rw [lk _ _ ?_]
  · simp -implicitDefEqProofs only [go_sem, simprocAttr]
    repeat' ((first | apply split_cond | apply split_yes | apply split_no) <;> intro hc <;> simp -implicitDefEqProofs only [hc, go_sem, simprocAttr])
  · rfl
theorem r_schemas : R K (.call 7 [] []) = some (.bool true, []) := R_prim rfl
theorem ord_len {x : List Tbl} : ∀ (m : Nat) (o : List Nat), (ordN x m o).length ≤ o.length + m
  | 0, o => Nat.le_refl _
  | m + 1, o => by
    simp only [ordN]
    split
    · have := ord_len (x := x) m (o ++ [‹_›])
      simp only [List.length_append, List.length_cons, List.length_nil] at this
      omega
    · omega
theorem cir_len {x : List Tbl} : ∀ (m i : Nat), (circN x i m).length ≤ m
  | 0, _ => Nat.le_refl _
  | m + 1, i => by
    have := cir_len (x := x) m (i + 1)
    simp only [circN, List.length_append]
    split <;> simp <;> omega
theorem law_schemas (L : List Int) (hL : L.length ≤ 9223372036854775807) : R K (.call 3 [LR L] []) = some (.bool true, []) := by
  obtain ⟨x, a', x0, hx⟩ := g_loose (L := L) (a := 0) (B := 100000) ⟨by omega, by omega, hL⟩ (by omega)
  have hF := hx.fit (by omega)
  have hl3 := hx.l3
  have x1 := r_SchemaFault x hF
  have x2 := c_Order x hF
  have x3 := c_CheckSchema x hF
  by_cases h0 : chkE x = 0
  · have x4 := r_OrderOf x hF h0
    rw [if_pos h0] at x2
    rw [h0] at x1 x3
    have e1 := c_Equal ((ordN x x.length []).map (nmX x)) (by rw [List.length_map]; have := ord_len (x := x) x.length []; simp at this; omega)
    have e2 := c_Equal ((circN x 0 x.length).map (nmX x)) (by rw [List.length_map]; have := cir_len (x := x) x.length 0; omega)
    unfold ordS cirS at x2 x4
    generalize (ordN x x.length []).map (nmX x) = o at *
    generalize (circN x 0 x.length).map (nmX x) = c at *
    rw [call_3]
    simp -implicitDefEqProofs only [go_sem, simprocAttr, Tryz.f3, x0, x1, x2, x3, x4, e1, e2, r_schemas, bne, beq_self_eq_true]
    repeat' ((first | apply split_cond | apply split_yes | apply split_no) <;> intro hc <;> simp -implicitDefEqProofs only [hc, go_sem, simprocAttr, x0, x1, x2, x3, x4, e1, e2, r_schemas, bne, beq_self_eq_true])
  · rw [if_neg h0] at x2
    have d0 : (chkE x == 0) = false := by simpa using h0
    generalize chkE x = e at *
    rw [call_3]
    simp -implicitDefEqProofs only [go_sem, simprocAttr, Tryz.f3, x0, x1, x2, x3, r_schemas, d0, bne, beq_self_eq_true, List.length_nil]
    repeat' ((first | apply split_cond | apply split_yes | apply split_no) <;> intro hc <;> simp -implicitDefEqProofs only [hc, go_sem, simprocAttr, x0, x1, x2, x3, r_schemas, d0, bne, beq_self_eq_true, List.length_nil])
end Go.Ab
