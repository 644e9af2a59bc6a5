/- What is proved: contracts of the program's and the reference's functions in the evaluator, and plain laws on them. Conditions: as each states. -/
import Derived.Test.YtnckdofnpjaibaaGreatDoorMQ1
set_option linter.unusedSimpArgs false
set_option linter.unusedVariables false
set_option maxRecDepth 100000
namespace Go.Ab
open Go Go.Proofs
theorem r_momentFrom (s : List UInt8) : ∃ w b, R K (.call 122 [.str s] []) = some (.tup [enc w, .bool b], []) ∧ b = decide ((dreadS s).k = 4) ∧ (b = true → w = dreadS s) := by
  by_cases hs : s.length = 19
  rotate_left
  · have e : dreadS s = null := if_neg hs
    have hb : (((s.length : Nat) : Int) != 19) = true := by simpa using (fun h => hs (by omega) : ¬ ((s.length : Nat) : Int) = 19)
    refine ⟨null, false, ?_, by rw [e]; rfl, fun h => by simp at h⟩
    rw [call_122]
    simp -implicitDefEqProofs only [go_sem, simprocAttr, Tryz.f122, hb]
    rfl
  have hsI : ((s.length : Nat) : Int) = 19 := by omega
  have lt : ∀ (k : Nat) (l : List UInt8), (List.take k l).length ≤ 281474976710656 ∨ 281474976710656 < k := fun k l => by
    rcases Nat.lt_or_ge 281474976710656 k with h | h
    · exact .inr h
    · exact .inl (Nat.le_trans (List.length_take_le _ _) h)
  cases h0 : atoiN (List.take 4 s) with
  | none =>
    have e := six_no (s := s) (.inl h0)
    obtain ⟨z, a0⟩ := p_Atoi_no (List.take 4 s) ((lt _ _).resolve_right (by omega)) h0
    refine ⟨null, false, ?_, by rw [e]; rfl, fun h => by simp at h⟩
    rw [call_122]
    simp -implicitDefEqProofs only [go_sem, simprocAttr, Tryz.f122, hs, hsI]
    rw [RL_eq]
    simp -implicitDefEqProofs only [go_sem, simprocAttr, hs, hsI, at?, small_room, a0]
    rfl
  | some n0 =>
    have a0 := p_Atoi_ok (List.take 4 s) n0 ((lt _ _).resolve_right (by omega)) h0
    cases h1 : atoiN (List.take 2 (List.drop 5 s)) with
    | none =>
      have e := six_no (s := s) (.inr (.inl h1))
      obtain ⟨z, a1⟩ := p_Atoi_no (List.take 2 (List.drop 5 s)) ((lt _ _).resolve_right (by omega)) h1
      refine ⟨null, false, ?_, by rw [e]; rfl, fun h => by simp at h⟩
      rw [call_122]
      simp -implicitDefEqProofs only [go_sem, simprocAttr, Tryz.f122, hs, hsI]
      rw [RL_eq]
      simp -implicitDefEqProofs only [go_sem, simprocAttr, hs, hsI, at?, small_room, a0, a1]
      rw [RL_eq]
      simp -implicitDefEqProofs only [go_sem, simprocAttr, hs, hsI, at?, small_room, a0, a1]
      rfl
    | some n1 =>
      have a1 := p_Atoi_ok (List.take 2 (List.drop 5 s)) n1 ((lt _ _).resolve_right (by omega)) h1
      cases h2 : atoiN (List.take 2 (List.drop 8 s)) with
      | none =>
        have e := six_no (s := s) (.inr (.inr (.inl h2)))
        obtain ⟨z, a2⟩ := p_Atoi_no (List.take 2 (List.drop 8 s)) ((lt _ _).resolve_right (by omega)) h2
        refine ⟨null, false, ?_, by rw [e]; rfl, fun h => by simp at h⟩
        rw [call_122]
        simp -implicitDefEqProofs only [go_sem, simprocAttr, Tryz.f122, hs, hsI]
        rw [RL_eq]
        simp -implicitDefEqProofs only [go_sem, simprocAttr, hs, hsI, at?, small_room, a0, a1, a2]
        rw [RL_eq]
        simp -implicitDefEqProofs only [go_sem, simprocAttr, hs, hsI, at?, small_room, a0, a1, a2]
        rw [RL_eq]
        simp -implicitDefEqProofs only [go_sem, simprocAttr, hs, hsI, at?, small_room, a0, a1, a2]
        rfl
      | some n2 =>
        have a2 := p_Atoi_ok (List.take 2 (List.drop 8 s)) n2 ((lt _ _).resolve_right (by omega)) h2
        cases h3 : atoiN (List.take 2 (List.drop 11 s)) with
        | none =>
          have e := six_no (s := s) (.inr (.inr (.inr (.inl h3))))
          obtain ⟨z, a3⟩ := p_Atoi_no (List.take 2 (List.drop 11 s)) ((lt _ _).resolve_right (by omega)) h3
          refine ⟨null, false, ?_, by rw [e]; rfl, fun h => by simp at h⟩
          rw [call_122]
          simp -implicitDefEqProofs only [go_sem, simprocAttr, Tryz.f122, hs, hsI]
          rw [RL_eq]
          simp -implicitDefEqProofs only [go_sem, simprocAttr, hs, hsI, at?, small_room, a0, a1, a2, a3]
          rw [RL_eq]
          simp -implicitDefEqProofs only [go_sem, simprocAttr, hs, hsI, at?, small_room, a0, a1, a2, a3]
          rw [RL_eq]
          simp -implicitDefEqProofs only [go_sem, simprocAttr, hs, hsI, at?, small_room, a0, a1, a2, a3]
          rw [RL_eq]
          simp -implicitDefEqProofs only [go_sem, simprocAttr, hs, hsI, at?, small_room, a0, a1, a2, a3]
          rfl
        | some n3 =>
          have a3 := p_Atoi_ok (List.take 2 (List.drop 11 s)) n3 ((lt _ _).resolve_right (by omega)) h3
          cases h4 : atoiN (List.take 2 (List.drop 14 s)) with
          | none =>
            have e := six_no (s := s) (.inr (.inr (.inr (.inr (.inl h4)))))
            obtain ⟨z, a4⟩ := p_Atoi_no (List.take 2 (List.drop 14 s)) ((lt _ _).resolve_right (by omega)) h4
            refine ⟨null, false, ?_, by rw [e]; rfl, fun h => by simp at h⟩
            rw [call_122]
            simp -implicitDefEqProofs only [go_sem, simprocAttr, Tryz.f122, hs, hsI]
            rw [RL_eq]
            simp -implicitDefEqProofs only [go_sem, simprocAttr, hs, hsI, at?, small_room, a0, a1, a2, a3, a4]
            rw [RL_eq]
            simp -implicitDefEqProofs only [go_sem, simprocAttr, hs, hsI, at?, small_room, a0, a1, a2, a3, a4]
            rw [RL_eq]
            simp -implicitDefEqProofs only [go_sem, simprocAttr, hs, hsI, at?, small_room, a0, a1, a2, a3, a4]
            rw [RL_eq]
            simp -implicitDefEqProofs only [go_sem, simprocAttr, hs, hsI, at?, small_room, a0, a1, a2, a3, a4]
            rw [RL_eq]
            simp -implicitDefEqProofs only [go_sem, simprocAttr, hs, hsI, at?, small_room, a0, a1, a2, a3, a4]
            rfl
          | some n4 =>
            have a4 := p_Atoi_ok (List.take 2 (List.drop 14 s)) n4 ((lt _ _).resolve_right (by omega)) h4
            cases h5 : atoiN (List.take 2 (List.drop 17 s)) with
            | none =>
              have e := six_no (s := s) (.inr (.inr (.inr (.inr (.inr h5)))))
              obtain ⟨z, a5⟩ := p_Atoi_no (List.take 2 (List.drop 17 s)) ((lt _ _).resolve_right (by omega)) h5
              refine ⟨null, false, ?_, by rw [e]; rfl, fun h => by simp at h⟩
              rw [call_122]
              simp -implicitDefEqProofs only [go_sem, simprocAttr, Tryz.f122, hs, hsI]
              rw [RL_eq]
              simp -implicitDefEqProofs only [go_sem, simprocAttr, hs, hsI, at?, small_room, a0, a1, a2, a3, a4, a5]
              rw [RL_eq]
              simp -implicitDefEqProofs only [go_sem, simprocAttr, hs, hsI, at?, small_room, a0, a1, a2, a3, a4, a5]
              rw [RL_eq]
              simp -implicitDefEqProofs only [go_sem, simprocAttr, hs, hsI, at?, small_room, a0, a1, a2, a3, a4, a5]
              rw [RL_eq]
              simp -implicitDefEqProofs only [go_sem, simprocAttr, hs, hsI, at?, small_room, a0, a1, a2, a3, a4, a5]
              rw [RL_eq]
              simp -implicitDefEqProofs only [go_sem, simprocAttr, hs, hsI, at?, small_room, a0, a1, a2, a3, a4, a5]
              rw [RL_eq]
              simp -implicitDefEqProofs only [go_sem, simprocAttr, hs, hsI, at?, small_room, a0, a1, a2, a3, a4, a5]
              rfl
            | some n5 =>
              have a5 := p_Atoi_ok (List.take 2 (List.drop 17 s)) n5 ((lt _ _).resolve_right (by omega)) h5
              have hsix := six_yes h0 h1 h2 h3 h4 h5
              have hv : dreadS s = if (dateV n0 n1 n2 n3 n4 n5).k = 0 ∨ dtextS (dateV n0 n1 n2 n3 n4 n5).n ≠ s then null else dateV n0 n1 n2 n3 n4 n5 := by unfold dreadS; rw [if_pos hs, hsix]
              have hd := r_Dated n0 n1 n2 n3 n4 n5
              rcases date_cases n0 n1 n2 n3 n4 n5 with hc | ⟨hk, hss, hr⟩
              · rw [hc] at hv hd
                have hv : dreadS s = null := by rw [hv]; rfl
                refine ⟨null, false, ?_, by rw [hv]; rfl, fun h => by simp at h⟩
                have kn : null.k = 0 := rfl
                rw [call_122]
                simp -implicitDefEqProofs only [go_sem, simprocAttr, Tryz.f122, hs, hsI]
                rw [RL_eq]
                simp -implicitDefEqProofs only [go_sem, simprocAttr, hs, hsI, at?, small_room, a0, a1, a2, a3, a4, a5]
                rw [RL_eq]
                simp -implicitDefEqProofs only [go_sem, simprocAttr, hs, hsI, at?, small_room, a0, a1, a2, a3, a4, a5]
                rw [RL_eq]
                simp -implicitDefEqProofs only [go_sem, simprocAttr, hs, hsI, at?, small_room, a0, a1, a2, a3, a4, a5]
                rw [RL_eq]
                simp -implicitDefEqProofs only [go_sem, simprocAttr, hs, hsI, at?, small_room, a0, a1, a2, a3, a4, a5]
                rw [RL_eq]
                simp -implicitDefEqProofs only [go_sem, simprocAttr, hs, hsI, at?, small_room, a0, a1, a2, a3, a4, a5]
                rw [RL_eq]
                simp -implicitDefEqProofs only [go_sem, simprocAttr, hs, hsI, at?, small_room, a0, a1, a2, a3, a4, a5]
                rw [RL_eq]
                simp -implicitDefEqProofs only [go_sem, simprocAttr, hs, hsI, at?, small_room, a0, a1, a2, a3, a4, a5, hd, kn]
                all_goals rfl
              · have hb := right_moment hk hr
                have ht := r_MomentText (dateV n0 n1 n2 n3 n4 n5).n hb.1 hb.2
                by_cases hq : dtextS (dateV n0 n1 n2 n3 n4 n5).n = s
                · have hv : dreadS s = dateV n0 n1 n2 n3 n4 n5 := by rw [hv, if_neg (fun h => h.elim (fun h => by rw [hk] at h; simp at h) (fun h => h hq))]
                  have hq2 : (dtextS (dateV n0 n1 n2 n3 n4 n5).n == s) = true := by simp [hq]
                  refine ⟨dateV n0 n1 n2 n3 n4 n5, true, ?_, by rw [hv, hk]; rfl, fun _ => hv.symm⟩
                  rw [call_122]
                  simp -implicitDefEqProofs only [go_sem, simprocAttr, Tryz.f122, hs, hsI]
                  rw [RL_eq]
                  simp -implicitDefEqProofs only [go_sem, simprocAttr, hs, hsI, at?, small_room, a0, a1, a2, a3, a4, a5]
                  rw [RL_eq]
                  simp -implicitDefEqProofs only [go_sem, simprocAttr, hs, hsI, at?, small_room, a0, a1, a2, a3, a4, a5]
                  rw [RL_eq]
                  simp -implicitDefEqProofs only [go_sem, simprocAttr, hs, hsI, at?, small_room, a0, a1, a2, a3, a4, a5]
                  rw [RL_eq]
                  simp -implicitDefEqProofs only [go_sem, simprocAttr, hs, hsI, at?, small_room, a0, a1, a2, a3, a4, a5]
                  rw [RL_eq]
                  simp -implicitDefEqProofs only [go_sem, simprocAttr, hs, hsI, at?, small_room, a0, a1, a2, a3, a4, a5]
                  rw [RL_eq]
                  simp -implicitDefEqProofs only [go_sem, simprocAttr, hs, hsI, at?, small_room, a0, a1, a2, a3, a4, a5]
                  rw [RL_eq]
                  simp -implicitDefEqProofs only [go_sem, simprocAttr, hs, hsI, at?, small_room, a0, a1, a2, a3, a4, a5, hd, hk, ht, hq2]
                · have hv : dreadS s = null := by rw [hv, if_pos (.inr hq)]
                  have hq2 : (dtextS (dateV n0 n1 n2 n3 n4 n5).n == s) = false := by simpa using hq
                  refine ⟨dateV n0 n1 n2 n3 n4 n5, false, ?_, by rw [hv]; rfl, fun h => by simp at h⟩
                  rw [call_122]
                  simp -implicitDefEqProofs only [go_sem, simprocAttr, Tryz.f122, hs, hsI]
                  rw [RL_eq]
                  simp -implicitDefEqProofs only [go_sem, simprocAttr, hs, hsI, at?, small_room, a0, a1, a2, a3, a4, a5]
                  rw [RL_eq]
                  simp -implicitDefEqProofs only [go_sem, simprocAttr, hs, hsI, at?, small_room, a0, a1, a2, a3, a4, a5]
                  rw [RL_eq]
                  simp -implicitDefEqProofs only [go_sem, simprocAttr, hs, hsI, at?, small_room, a0, a1, a2, a3, a4, a5]
                  rw [RL_eq]
                  simp -implicitDefEqProofs only [go_sem, simprocAttr, hs, hsI, at?, small_room, a0, a1, a2, a3, a4, a5]
                  rw [RL_eq]
                  simp -implicitDefEqProofs only [go_sem, simprocAttr, hs, hsI, at?, small_room, a0, a1, a2, a3, a4, a5]
                  rw [RL_eq]
                  simp -implicitDefEqProofs only [go_sem, simprocAttr, hs, hsI, at?, small_room, a0, a1, a2, a3, a4, a5]
                  rw [RL_eq]
                  simp -implicitDefEqProofs only [go_sem, simprocAttr, hs, hsI, at?, small_room, a0, a1, a2, a3, a4, a5, hd, hk, ht, hq2]
theorem p_HasPrefix (s p : List UInt8) : R K (.call 116 [.str s, .str p] []) = some (.bool (Lib.hasPrefix s p), []) := R_prim rfl
theorem p_TrimPrefix (s p : List UInt8) : R K (.call 123 [.str s, .str p] []) = some (.str (Lib.trimPrefix s p), []) := R_prim rfl
theorem u8_39 (c : UInt8) : (((c.toNat : Nat) : Int) == 39) = (c == 39) := u8_lit c 39 (by omega)
theorem c_candidate (s : List UInt8) (hs : s.length ≤ 10000000) : R K (.call 54 [.str s] []) = some (enc (candS s), []) := by
  by_cases h1 : s = bTrue
  · have e : candS s = boolV true := by rw [h1]; exact cand_true
    have hb : (s == bTrue) = true := by simp [h1]
    rw [e]
    rw [call_54]
    simp -implicitDefEqProofs only [go_sem, simprocAttr, Tryz.f54, hb, c_boolean]
  by_cases h2 : s = bFalse
  · have e : candS s = boolV false := by rw [h2]; exact cand_false
    have hb : (s == bTrue) = false := by simpa using h1
    have hb2 : (s == bFalse) = true := by simp [h2]
    rw [e]
    rw [call_54]
    simp -implicitDefEqProofs only [go_sem, simprocAttr, Tryz.f54, hb, hb2, c_boolean]
  have hb : (s == bTrue) = false := by simpa using h1
  have hb2 : (s == bFalse) = false := by simpa using h2
  have hn : ¬ (s = bTrue ∨ s = bFalse) := fun h => h.elim h1 h2
  have tailEq : ¬ (2 ≤ s.length ∧ s[0]? = some 39 ∧ s[s.length - 1]? = some 39) → candS s = (if Lib.hasPrefix s [64] = true then dreadS (s.drop 1) else match atoiN s with
    | some n => ⟨2, n, []⟩
    | none => null) := fun hq => by unfold candS; rw [if_neg hn, if_neg hq]; cases atoiN s <;> rfl
  have hw : 1 ≤ s.length → wrapI .i64 ((s.length : Int) - 1) = ((s.length - 1 : Nat) : Int) := fun h => by rw [wrap_id (by omega) (by omega)]; omega
  have q4 : (s.drop 1).length ≤ s.length := by simp
  by_cases hq : (2 ≤ s.length ∧ s[0]? = some 39 ∧ s[s.length - 1]? = some 39)
  · have e : candS s = ⟨3, 0, Lib.replaceAll (cut s 1 (s.length - 1)) [39, 39] [39]⟩ := by unfold candS; rw [if_neg hn, if_pos hq]
    obtain ⟨l2, c0, cl⟩ := hq
    have hw := hw (by omega)
    have g1 : decide ((2 : Int) ≤ (s.length : Int)) = true := by rw [decide_eq_true_eq]; omega
    have g2 : at? s 0 = some 39 := byte_get c0
    have g3 := byte_get cl
    have g4 : ((0 : Int) ≤ ((s.length - 1 : Nat) : Int)) = True := eq_true (by omega)
    have g5 : (((s.length - 1 : Nat) : Int) ≤ (s.length : Int)) = True := eq_true (by omega)
    have g6 : ((1 : Int) ≤ ((s.length - 1 : Nat) : Int)) = True := eq_true (by omega)
    have g9 : ((1 : Int) ≤ (s.length : Int)) = True := eq_true (by omega)
    have g7 : (1 : Int).toNat = 1 := rfl
    have g8 : ((39 : UInt8).toNat : Int) = 39 := rfl
    have hr := p_Replace (List.take (s.length - 1 - 1) (List.drop 1 s)) [39, 39] [39] (by simp; omega) (by simp) (by simp; omega)
    rw [e]
    rw [call_54]
    simp -implicitDefEqProofs only [go_sem, simprocAttr, Tryz.f54, hb, hb2, g1, g2, g3, g4, g5, g6, g7, g8, g9, hw, Int.toNat_natCast, hr]
    all_goals rfl
  · rw [tailEq hq]
    by_cases h3 : Lib.hasPrefix s [64] = true
    · have hs0 : ∃ r, s = 64 :: r := by
        match s, h3 with
        | [], h3 => simp [Lib.hasPrefix] at h3
        | c :: r, h3 =>
          by_cases hc : c = 64
          · exact ⟨r, by rw [hc]⟩
          · rw [pre_no c r hc] at h3; simp at h3
      obtain ⟨r, rfl⟩ := hs0
      rw [if_pos h3]
      have d := c_dateRead r
      have hp := p_HasPrefix (64 :: r) [64]
      rw [h3] at hp
      have g8 : ((64 : UInt8).toNat : Int) = 64 := rfl
      have g9 : ((1 : Int) ≤ ((r.length + 1 : Nat) : Int)) = True := eq_true (by omega)
      have g7 : (1 : Int).toNat = 1 := rfl
      have g10 : ((r.length + 1 : Nat) : Int).toNat = r.length + 1 := rfl
      by_cases h4 : 2 ≤ r.length + 1
      · have g1 : decide ((2 : Int) ≤ ((r.length + 1 : Nat) : Int)) = true := by rw [decide_eq_true_eq]; omega
        rw [call_54]
        simp -implicitDefEqProofs only [go_sem, simprocAttr, Tryz.f54, hb, hb2, g1, at_zero, g8, hp, g9, g7, Nat.add_sub_cancel, List.take_length, d]
        all_goals rfl
      · have g1 : decide ((2 : Int) ≤ ((r.length + 1 : Nat) : Int)) = false := by simp; omega
        rw [call_54]
        simp -implicitDefEqProofs only [go_sem, simprocAttr, Tryz.f54, hb, hb2, g1, at_zero, g8, hp, g9, g7, Nat.add_sub_cancel, List.take_length, d]
        all_goals rfl
    · have h3' : Lib.hasPrefix s [64] = false := by simpa using h3
      rw [if_neg h3]
      have hp := p_HasPrefix s [64]
      rw [h3'] at hp
      have fin : ∀ {X : AV}, True := fun {X} => trivial
      cases ha : atoiN s with
      | none =>
        obtain ⟨z, a⟩ := p_Atoi_no s (by omega) ha
        by_cases l2 : 2 ≤ s.length
        · have g1 : decide ((2 : Int) ≤ (s.length : Int)) = true := by rw [decide_eq_true_eq]; omega
          obtain ⟨c, hc⟩ := some_at (l := s) (i := 0) (by omega)
          have g2 : at? s 0 = some c := byte_get hc
          have hw := hw (by omega)
          obtain ⟨d, hd⟩ := some_at (l := s) (i := s.length - 1) (by omega)
          have g3 := byte_get hd
          by_cases hc39 : c = 39
          · have g4 : (c == 39) = true := by simp [hc39]
            have g5 : (d == 39) = false := by
              have : d ≠ 39 := fun e => hq ⟨l2, by rw [hc, hc39], by rw [hd, e]⟩
              simpa using this
            rw [call_54]
            simp -implicitDefEqProofs only [go_sem, simprocAttr, Tryz.f54, hb, hb2, g1, g2, g3, g4, g5, u8_39, hw, hp, a]
            all_goals rfl
          · have g4 : (c == 39) = false := by simpa using hc39
            rw [call_54]
            simp -implicitDefEqProofs only [go_sem, simprocAttr, Tryz.f54, hb, hb2, g1, g2, g4, u8_39, hp, a]
            all_goals rfl
        · have g1 : decide ((2 : Int) ≤ (s.length : Int)) = false := by simp; omega
          rw [call_54]
          simp -implicitDefEqProofs only [go_sem, simprocAttr, Tryz.f54, hb, hb2, g1, hp, a]
          all_goals rfl
      | some n =>
        have a := p_Atoi_ok s n (by omega) ha
        by_cases l2 : 2 ≤ s.length
        · have g1 : decide ((2 : Int) ≤ (s.length : Int)) = true := by rw [decide_eq_true_eq]; omega
          obtain ⟨c, hc⟩ := some_at (l := s) (i := 0) (by omega)
          have g2 : at? s 0 = some c := byte_get hc
          have hw := hw (by omega)
          obtain ⟨d, hd⟩ := some_at (l := s) (i := s.length - 1) (by omega)
          have g3 := byte_get hd
          by_cases hc39 : c = 39
          · have g4 : (c == 39) = true := by simp [hc39]
            have g5 : (d == 39) = false := by
              have : d ≠ 39 := fun e => hq ⟨l2, by rw [hc, hc39], by rw [hd, e]⟩
              simpa using this
            rw [call_54]
            simp -implicitDefEqProofs only [go_sem, simprocAttr, Tryz.f54, hb, hb2, g1, g2, g3, g4, g5, u8_39, hw, hp, a]
          · have g4 : (c == 39) = false := by simpa using hc39
            rw [call_54]
            simp -implicitDefEqProofs only [go_sem, simprocAttr, Tryz.f54, hb, hb2, g1, g2, g4, u8_39, hp, a]
        · have g1 : decide ((2 : Int) ≤ (s.length : Int)) = false := by simp; omega
          rw [call_54]
          simp -implicitDefEqProofs only [go_sem, simprocAttr, Tryz.f54, hb, hb2, g1, hp, a]
theorem c_Can (a b : Int) : R K (.call 18 [I a, I b] []) = some (.bool (canS a b), []) := by
  rw [call_18]
  simp -implicitDefEqProofs only [go_sem, simprocAttr, Tryz.f18, c_within]
  repeat' ((first | apply split_cond | apply split_yes | apply split_no) <;> intro hc <;> simp -implicitDefEqProofs only [hc, go_sem, simprocAttr, c_within])
  all_goals simp_all [canS]
theorem r_CanCast (a b : Int) : R K (.call 19 [I a, I b] []) = some (.bool (canS a b), []) := by
  rw [call_19]
  simp -implicitDefEqProofs only [go_sem, simprocAttr, Tryz.f19, r_within]
  repeat' ((first | apply split_cond | apply split_yes | apply split_no) <;> intro hc <;> simp -implicitDefEqProofs only [hc, go_sem, simprocAttr, r_within])
  all_goals simp_all [canS]
theorem c_shown (v : Val) (h : v.k = 4 → 0 ≤ v.n ∧ v.n ≤ 253402300799) : R K (.call 66 [V v.k v.n v.s] []) = some (.str (shownS v), []) := by
  by_cases h3 : v.k = 3
  · have e : shownS v = v.s := if_pos h3
    rw [e]
    rw [call_66]
    simp -implicitDefEqProofs only [go_sem, simprocAttr, Tryz.f66, h3]
  · by_cases h4 : v.k = 4
    · have e : shownS v = dtextS v.n := by unfold shownS; rw [if_neg h3, if_pos h4]
      have hd := c_dateText v.n (h h4).1 (h h4).2
      rw [e]
      rw [call_66]
      simp -implicitDefEqProofs only [go_sem, simprocAttr, Tryz.f66, h4, hd]
    · have e : shownS v = showS v := by unfold shownS; rw [if_neg h3, if_neg h4]
      have b3 : (v.k == 3) = false := by simpa using h3
      have b4 : (v.k == 4) = false := by simpa using h4
      have hs := c_Show v.k v.n v.s
      rw [Val.eta] at hs
      rw [e]
      rw [call_66]
      simp -implicitDefEqProofs only [go_sem, simprocAttr, Tryz.f66, b3, b4, hs]
theorem c_fromText (s : List UInt8) (kind : Int) (hs : s.length ≤ 10000000) : R K (.call 67 [.str s, I kind] []) = some (enc (fromS s kind), []) := by
  have h1 := c_candidate s hs
  have h2 := c_dateRead s
  have key : ∀ (v : Val) (b : Bool), b = (kind == 4) → (if kind = 4 then dreadS s else candS s) = v → (b = true → dreadS s = v) → (b = false → candS s = v) → R K (.call 67 [.str s, I kind] []) = some (enc (fromS s kind), []) := by
    intro v b hb hv hd hc
    have hr := c_right v.k v.n v.s
    rw [Val.eta] at hr
    have fin : fromS s kind = if rightS v = true ∧ v.k = kind ∧ shownS v = s then v else null := by unfold fromS; rw [hv]
    rw [fin]
    cases hrv : rightS v with
    | false =>
      rw [hrv] at hr
      rw [if_neg (by simp)]
      cases b with
      | true =>
        rw [hd rfl] at h2
        rw [call_67]
        simp -implicitDefEqProofs only [go_sem, simprocAttr, Tryz.f67, bne, h1, ← hb, h2, hr]
        all_goals rfl
      | false =>
        rw [hc rfl] at h1
        rw [call_67]
        simp -implicitDefEqProofs only [go_sem, simprocAttr, Tryz.f67, bne, h1, ← hb, hr]
        all_goals rfl
    | true =>
      rw [hrv] at hr
      have hm : v.k = 4 → 0 ≤ v.n ∧ v.n ≤ 253402300799 := fun h => right_moment h hrv
      have hsh := c_shown v hm
      by_cases hk : v.k = kind
      · have bk : (v.k == kind) = true := by simp [hk]
        by_cases hq : shownS v = s
        · have bq : (shownS v == s) = true := by simp [hq]
          rw [if_pos ⟨rfl, hk, hq⟩]
          cases b with
          | true =>
            rw [hd rfl] at h2
            rw [call_67]
            simp -implicitDefEqProofs only [go_sem, simprocAttr, Tryz.f67, bne, h1, ← hb, h2, hr, bk, hsh, bq]
          | false =>
            rw [hc rfl] at h1
            rw [call_67]
            simp -implicitDefEqProofs only [go_sem, simprocAttr, Tryz.f67, bne, h1, ← hb, hr, bk, hsh, bq]
        · have bq : (shownS v == s) = false := by simpa using hq
          rw [if_neg (fun h => hq h.2.2)]
          cases b with
          | true =>
            rw [hd rfl] at h2
            rw [call_67]
            simp -implicitDefEqProofs only [go_sem, simprocAttr, Tryz.f67, bne, h1, ← hb, h2, hr, bk, hsh, bq]
            all_goals rfl
          | false =>
            rw [hc rfl] at h1
            rw [call_67]
            simp -implicitDefEqProofs only [go_sem, simprocAttr, Tryz.f67, bne, h1, ← hb, hr, bk, hsh, bq]
            all_goals rfl
      · have bk : (v.k == kind) = false := by simpa using hk
        rw [if_neg (fun h => hk h.2.1)]
        cases b with
        | true =>
          rw [hd rfl] at h2
          rw [call_67]
          simp -implicitDefEqProofs only [go_sem, simprocAttr, Tryz.f67, bne, h1, ← hb, h2, hr, bk]
          all_goals rfl
        | false =>
          rw [hc rfl] at h1
          rw [call_67]
          simp -implicitDefEqProofs only [go_sem, simprocAttr, Tryz.f67, bne, h1, ← hb, hr, bk]
          all_goals rfl
  by_cases hk : kind = 4
  · exact key _ true (by simp [hk]) (if_pos hk) (fun _ => rfl) (fun h => by simp at h)
  · exact key _ false (by simp [hk]) (if_neg hk) (fun h => by simp at h) (fun _ => rfl)
theorem c_Cast (k n : Int) (s : List UInt8) (kind : Int) : R K (.call 16 [V k n s, I kind] []) = some (enc (castS ⟨k, n, s⟩ kind), []) := by
  have hp := c_plain k n s
  generalize hv : (⟨k, n, s⟩ : Val) = a
  rw [hv] at hp
  have hpr := plain_right a
  unfold castS
  by_cases h0 : (plainV a).k = 0
  · rw [if_pos (.inl h0)]
    have b0 : ((plainV a).k == 0) = true := by simp [h0]
    rw [call_16]
    simp -implicitDefEqProofs only [go_sem, simprocAttr, Tryz.f16, hp, b0]
    all_goals rfl
  have b0 : ((plainV a).k == 0) = false := by simpa using h0
  have hcan := c_Can (plainV a).k kind
  cases hc : canS (plainV a).k kind with
  | false =>
    rw [hc] at hcan
    rw [if_pos (.inr rfl)]
    rw [call_16]
    simp -implicitDefEqProofs only [go_sem, simprocAttr, Tryz.f16, hp, b0, hcan]
    all_goals rfl
  | true =>
    rw [hc] at hcan
    rw [if_neg (by simp [h0])]
    by_cases hk : (plainV a).k = kind
    · have bk : ((plainV a).k == kind) = true := by simp [hk]
      rw [if_pos hk]
      rw [call_16]
      simp -implicitDefEqProofs only [go_sem, simprocAttr, Tryz.f16, hp, b0, hcan, bk]
    have bk : ((plainV a).k == kind) = false := by simpa using hk
    rw [if_neg hk]
    by_cases h3 : kind = 3
    · subst h3
      rw [if_pos rfl]
      have hsh := c_shown (plainV a) (fun h => right_moment h hpr)
      rw [call_16]
      simp -implicitDefEqProofs only [go_sem, simprocAttr, Tryz.f16, hp, b0, hcan, bk, hsh, c_text]
    have b3 : (kind == 3) = false := by simpa using h3
    rw [if_neg h3]
    by_cases h4 : (plainV a).k = 3
    · rw [if_pos h4]
      have bt : ((plainV a).k == 3) = true := by simp [h4]
      have hf := c_fromText (plainV a).s kind (by have := (plain3 a h4).1; omega)
      rw [call_16]
      simp -implicitDefEqProofs only [go_sem, simprocAttr, Tryz.f16, hp, b0, hcan, bk, b3, bt, hf]
    have bt : ((plainV a).k == 3) = false := by simpa using h4
    rw [if_neg h4]
    by_cases h5 : kind = 1
    · subst h5
      rw [if_pos rfl]
      rw [call_16]
      simp -implicitDefEqProofs only [go_sem, simprocAttr, Tryz.f16, hp, b0, hcan, bk, bt, c_boolean]
      all_goals rfl
    have b5 : (kind == 1) = false := by simpa using h5
    rw [if_neg h5]
    rw [call_16]
    simp -implicitDefEqProofs only [go_sem, simprocAttr, Tryz.f16, hp, b0, hcan, bk, b3, bt, b5, c_number]
def Fresh (rows : List (List AV)) (r : AV × Heap) : Prop := r = (.lit rows, []) ∨ r = (.own 0 rows.length, [.rows 3 rows false])
theorem r_candidates (s : List UInt8) (hs : s.length ≤ 10000000) : ∃ r, R K (.call 56 [.str s] []) = some r ∧ Fresh ((candsS s).map rowV) r := by
  obtain ⟨w, b, hm, hb, hw⟩ := r_momentFrom (Lib.trimPrefix s [64])
  have ht := p_TrimPrefix s [64]
  have hd : (if (dreadS (Lib.trimPrefix s [64])).k = 4 then [dreadS (Lib.trimPrefix s [64])] else []) = if b = true then [w] else [] := by
    cases b with
    | true => rw [if_pos (by simpa using hb.symm), if_pos rfl, hw rfl]
    | false => rw [if_neg (by simpa using hb.symm), if_neg (by simp)]
  have key : ∀ (q : Bool), (q = true ↔ (1 < s.length ∧ s[0]? = some 39)) → ∀ (X : List Val), (match atoiN s with | some n => [numberS 2 n] | none => []) = X →
     ∃ r, R K (.call 56 [.str s] []) = some r ∧ Fresh (([null, boolV true, boolV false] ++ X ++ (if q = true then [textS (Lib.replaceAll (cut s 1 (s.length - 1)) [39, 39] [39])] else []) ++ (if b = true then [w] else [])).map rowV) r := by
    intro q hq X hX
    have g7 : (1 : Int).toNat = 1 := rfl
    have hr := p_Replace (List.take (s.length - 1 - 1) (List.drop 1 s)) [39, 39] [39] (by simp; omega) (by simp) (by simp; omega)
    have hwr : 1 < s.length → wrapI .i64 ((s.length : Int) - 1) = ((s.length - 1 : Nat) : Int) := fun h => by rw [wrap_id (by omega) (by omega)]; omega
    cases ha : atoiN s with
    | none =>
      rw [ha] at hX
      subst hX
      obtain ⟨z, a⟩ := p_Atoi_no s (by omega) ha
      by_cases h1 : 1 < s.length
      · have d1 : decide ((1 : Int) < (s.length : Int)) = true := by rw [decide_eq_true_eq]; omega
        obtain ⟨c, hc⟩ := some_at (l := s) (i := 0) (by omega)
        have c0 : at? s 0 = some c := byte_get hc
        by_cases h39 : c = 39
        · have c39 : (c == 39) = true := by simp [h39]
          have hw1 := hwr h1
          have g9 : ((1 : Int) ≤ (s.length : Int)) = True := eq_true (by omega)
          have g4 : ((0 : Int) ≤ ((s.length - 1 : Nat) : Int)) = True := eq_true (by omega)
          have g5 : (((s.length - 1 : Nat) : Int) ≤ (s.length : Int)) = True := eq_true (by omega)
          have g6 : ((1 : Int) ≤ ((s.length - 1 : Nat) : Int)) = True := eq_true (by omega)
          have hqt : q = true := hq.2 ⟨h1, by rw [hc, h39]⟩
          subst hqt
          cases b with
          | true =>
            refine ⟨_, ?_, .inr rfl⟩
            rw [call_56]
            simp -implicitDefEqProofs only [go_sem, simprocAttr, Tryz.f56, small_room, a, d1, c0, u8_39, c39, hw1, g9, g4, g5, g6, g7, Int.toNat_natCast, hr, ht, hm, r_Truth, r_word]
            all_goals rfl
          | false =>
            refine ⟨_, ?_, .inr rfl⟩
            rw [call_56]
            simp -implicitDefEqProofs only [go_sem, simprocAttr, Tryz.f56, small_room, a, d1, c0, u8_39, c39, hw1, g9, g4, g5, g6, g7, Int.toNat_natCast, hr, ht, hm, r_Truth, r_word]
            all_goals rfl
        · have c39 : (c == 39) = false := by simpa using h39
          have hqf : q = false := by rw [Bool.eq_false_iff]; intro e; have := (hq.1 e).2; rw [hc] at this; exact h39 (Option.some.inj this)
          subst hqf
          cases b with
          | true =>
            refine ⟨_, ?_, .inr rfl⟩
            rw [call_56]
            simp -implicitDefEqProofs only [go_sem, simprocAttr, Tryz.f56, small_room, a, d1, c0, u8_39, c39, ht, hm, r_Truth, r_word]
            all_goals rfl
          | false =>
            refine ⟨_, ?_, .inl rfl⟩
            rw [call_56]
            simp -implicitDefEqProofs only [go_sem, simprocAttr, Tryz.f56, small_room, a, d1, c0, u8_39, c39, ht, hm, r_Truth, r_word]
            all_goals rfl
      · have d1 : decide ((1 : Int) < (s.length : Int)) = false := by simp; omega
        have hqf : q = false := by rw [Bool.eq_false_iff]; intro e; exact h1 (hq.1 e).1
        subst hqf
        cases b with
        | true =>
          refine ⟨_, ?_, .inr rfl⟩
          rw [call_56]
          simp -implicitDefEqProofs only [go_sem, simprocAttr, Tryz.f56, small_room, a, d1, ht, hm, r_Truth, r_word]
          all_goals rfl
        | false =>
          refine ⟨_, ?_, .inl rfl⟩
          rw [call_56]
          simp -implicitDefEqProofs only [go_sem, simprocAttr, Tryz.f56, small_room, a, d1, ht, hm, r_Truth, r_word]
          all_goals rfl
    | some n =>
      rw [ha] at hX
      subst hX
      have a := p_Atoi_ok s n (by omega) ha
      by_cases h1 : 1 < s.length
      · have d1 : decide ((1 : Int) < (s.length : Int)) = true := by rw [decide_eq_true_eq]; omega
        obtain ⟨c, hc⟩ := some_at (l := s) (i := 0) (by omega)
        have c0 : at? s 0 = some c := byte_get hc
        by_cases h39 : c = 39
        · have c39 : (c == 39) = true := by simp [h39]
          have hw1 := hwr h1
          have g9 : ((1 : Int) ≤ (s.length : Int)) = True := eq_true (by omega)
          have g4 : ((0 : Int) ≤ ((s.length - 1 : Nat) : Int)) = True := eq_true (by omega)
          have g5 : (((s.length - 1 : Nat) : Int) ≤ (s.length : Int)) = True := eq_true (by omega)
          have g6 : ((1 : Int) ≤ ((s.length - 1 : Nat) : Int)) = True := eq_true (by omega)
          have hqt : q = true := hq.2 ⟨h1, by rw [hc, h39]⟩
          subst hqt
          cases b with
          | true =>
            refine ⟨_, ?_, .inr rfl⟩
            rw [call_56]
            simp -implicitDefEqProofs only [go_sem, simprocAttr, Tryz.f56, small_room, a, d1, c0, u8_39, c39, hw1, g9, g4, g5, g6, g7, Int.toNat_natCast, hr, ht, hm, r_Truth, r_word, r_Number]
            all_goals rfl
          | false =>
            refine ⟨_, ?_, .inr rfl⟩
            rw [call_56]
            simp -implicitDefEqProofs only [go_sem, simprocAttr, Tryz.f56, small_room, a, d1, c0, u8_39, c39, hw1, g9, g4, g5, g6, g7, Int.toNat_natCast, hr, ht, hm, r_Truth, r_word, r_Number]
            all_goals rfl
        · have c39 : (c == 39) = false := by simpa using h39
          have hqf : q = false := by rw [Bool.eq_false_iff]; intro e; have := (hq.1 e).2; rw [hc] at this; exact h39 (Option.some.inj this)
          subst hqf
          cases b with
          | true =>
            refine ⟨_, ?_, .inr rfl⟩
            rw [call_56]
            simp -implicitDefEqProofs only [go_sem, simprocAttr, Tryz.f56, small_room, a, d1, c0, u8_39, c39, ht, hm, r_Truth, r_word, r_Number]
            all_goals rfl
          | false =>
            refine ⟨_, ?_, .inr rfl⟩
            rw [call_56]
            simp -implicitDefEqProofs only [go_sem, simprocAttr, Tryz.f56, small_room, a, d1, c0, u8_39, c39, ht, hm, r_Truth, r_word, r_Number]
            all_goals rfl
      · have d1 : decide ((1 : Int) < (s.length : Int)) = false := by simp; omega
        have hqf : q = false := by rw [Bool.eq_false_iff]; intro e; exact h1 (hq.1 e).1
        subst hqf
        cases b with
        | true =>
          refine ⟨_, ?_, .inr rfl⟩
          rw [call_56]
          simp -implicitDefEqProofs only [go_sem, simprocAttr, Tryz.f56, small_room, a, d1, ht, hm, r_Truth, r_word, r_Number]
          all_goals rfl
        | false =>
          refine ⟨_, ?_, .inr rfl⟩
          rw [call_56]
          simp -implicitDefEqProofs only [go_sem, simprocAttr, Tryz.f56, small_room, a, d1, ht, hm, r_Truth, r_word, r_Number]
          all_goals rfl
  have e : candsS s = [null, boolV true, boolV false] ++ (match atoiN s with | some n => [numberS 2 n] | none => []) ++ (if decide (1 < s.length ∧ s[0]? = some 39) = true then [textS (Lib.replaceAll (cut s 1 (s.length - 1)) [39, 39] [39])] else []) ++ (if b = true then [w] else []) := by
    unfold candsS
    rw [hd]
    simp only [decide_eq_true_eq]
    cases atoiN s <;> rfl
  rw [e]
  exact key _ (by rw [decide_eq_true_eq]) _ rfl
theorem opt_len {α : Type} (p : Prop) [Decidable p] (x : α) : (if p then [x] else []).length ≤ 1 := by split <;> simp
theorem cands_len (s : List UInt8) : (candsS s).length ≤ 6 := by
  unfold candsS
  simp only [List.length_append, List.length_cons, List.length_nil]
  have h2 := opt_len (1 < s.length ∧ s[0]? = some 39) (textS (Lib.replaceAll (cut s 1 (s.length - 1)) [39, 39] [39]))
  have h3 := opt_len ((dreadS (Lib.trimPrefix s [64])).k = 4) (dreadS (Lib.trimPrefix s [64]))
  cases atoiN s with
  | none => simp only [List.length_nil]; omega
  | some n => simp only [List.length_cons, List.length_nil]; omega
theorem r_castText (v : Val) : R K (.call 70 [V v.k v.n v.s] []) = some (enc (castTextS v), []) := by
  have hsh := r_Shown v.k v.n v.s
  rw [Val.eta] at hsh
  by_cases h : v.k = 3
  · have e : castTextS v = v := if_pos h
    rw [e]
    rw [call_70]
    simp -implicitDefEqProofs only [go_sem, simprocAttr, Tryz.f70, h]
  · have e : castTextS v = textS (Lib.trimPrefix (showS v) [64]) := if_neg h
    have b3 : (v.k == 3) = false := by simpa using h
    rw [e]
    rw [call_70]
    simp -implicitDefEqProofs only [go_sem, simprocAttr, Tryz.f70, b3, hsh, p_TrimPrefix, r_word]
theorem eq_val (u v : Val) : ((u.k == v.k) && ((u.n == v.n) && (u.s == v.s))) = decide (u = v) := by
  rw [Bool.eq_iff_iff]
  simp only [Bool.and_eq_true, beq_iff_eq, decide_eq_true_eq]
  constructor
  · rintro ⟨h1, h2, h3⟩; cases u; cases v; simp_all
  · rintro rfl; exact ⟨rfl, rfl, rfl⟩
theorem l_Casted (w : Val) (kind : Int) (rows more : List Val) (hl : rows.length ≤ 1000) (A : Nat) (H : Heap) (b : Nat)
   (hX : (A = 2 ∧ H = [.cells [I w.k, I w.n, .str w.s], .cells [I 0, I 0, .str []], .rows 3 (rows.map rowV) false] ∧ b = 3) ∨ (A = 3 ∧ H = [.cells [I w.k, I w.n, .str w.s], .cells [I 0, I 0, .str []], .rows 3 (more.map rowV) false, .rows 3 (rows.map rowV) false] ∧ b = 4) ∨ (A = 2 ∧ H = [.cells [I w.k, I w.n, .str w.s], .cells [I 0, I 0, .str []], .rows 3 (rows.map rowV) false, .rows 3 (more.map rowV) false] ∧ b = 4)) (ks : List It) : ∀ (m i : Nat) (j : Int) (B : Code), Loop Tryz.f17 1 B → j = (i : Int) → rows.length = i + m →
   RL K (.run 17 0 (.code B :: .lp B (some ([1, 2, 4, 43, 44, 45], [])) b :: .blk 1 b :: ks) [(1, I kind), (2, .ptr 0 0), (4, .ptr 1 0), (43, .own A rows.length), (44, I (rows.length : Int)), (45, I j)] H) =
   match (rows.drop i).find? (fitS w kind) with
   | some v => some (enc v, [])
   | none => R K (.run 17 0 ks [(4, .ptr 1 0)] (H.take b))
  | 0, i, j, B, hB, hj, hm => by
    subst hj
    have h1 : decide ((i : Int) < (rows.length : Int)) = false := by simp; omega
    rw [List.drop_of_length_le (by omega)]
    rcases hX with ⟨rfl, rfl, rfl⟩ | ⟨rfl, rfl, rfl⟩ | ⟨rfl, rfl, rfl⟩
    · unfold Loop at hB
      simp -implicitDefEqProofs only [go_sem, simprocAttr, Tryz.f17, loopOf] at hB
      subst hB
      rw [RL_eq]
      simp -implicitDefEqProofs only [go_sem, simprocAttr, h1]
      rfl
    · unfold Loop at hB
      simp -implicitDefEqProofs only [go_sem, simprocAttr, Tryz.f17, loopOf] at hB
      subst hB
      rw [RL_eq]
      simp -implicitDefEqProofs only [go_sem, simprocAttr, h1]
      rfl
    · unfold Loop at hB
      simp -implicitDefEqProofs only [go_sem, simprocAttr, Tryz.f17, loopOf] at hB
      subst hB
      rw [RL_eq]
      simp -implicitDefEqProofs only [go_sem, simprocAttr, h1]
      rfl
  | m + 1, i, j, B, hB, hj, hm => by
    subst hj
    have hB' := hB
    have h1 : decide ((i : Int) < (rows.length : Int)) = true := by rw [decide_eq_true_eq]; omega
    obtain ⟨v, hv⟩ := some_at (l := rows) (i := i) (by omega)
    have hg := row_get hv
    have hg2 : (rows.map rowV)[i]? = some (rowV v) := by simp [hv]
    have hw := next_id (i := i) (n := rows.length) (by omega) (by omega)
    have hsh := r_castText v
    rw [drop_get hv]
    have ih := l_Casted w kind rows more hl A H b hX ks m (i + 1) _ B hB' rfl (by omega)
    have hfit : fitS w kind v = ((v.k == kind) && (((castTextS v).k == w.k) && (((castTextS v).n == w.n) && ((castTextS v).s == w.s)))) := by unfold fitS; rw [eq_val]
    cases hk : v.k == kind with
    | false =>
      have hq : fitS w kind v = false := by rw [hfit, hk]; rfl
      rcases hX with ⟨rfl, rfl, rfl⟩ | ⟨rfl, rfl, rfl⟩ | ⟨rfl, rfl, rfl⟩
      · unfold Loop at hB
        simp -implicitDefEqProofs only [go_sem, simprocAttr, Tryz.f17, loopOf] at hB
        subst hB
        rw [RL_eq]
        simp -implicitDefEqProofs only [go_sem, simprocAttr, h1, hg, hg2, rowV, hk, hw, Int.toNat_natCast, List.length_map, bne]
        rw [ih]
        simp only [List.find?_cons, hq]
        cases List.find? (fitS w kind) (List.drop (i + 1) rows) <;> rfl
      · unfold Loop at hB
        simp -implicitDefEqProofs only [go_sem, simprocAttr, Tryz.f17, loopOf] at hB
        subst hB
        rw [RL_eq]
        simp -implicitDefEqProofs only [go_sem, simprocAttr, h1, hg, hg2, rowV, hk, hw, Int.toNat_natCast, List.length_map, bne]
        rw [ih]
        simp only [List.find?_cons, hq]
        cases List.find? (fitS w kind) (List.drop (i + 1) rows) <;> rfl
      · unfold Loop at hB
        simp -implicitDefEqProofs only [go_sem, simprocAttr, Tryz.f17, loopOf] at hB
        subst hB
        rw [RL_eq]
        simp -implicitDefEqProofs only [go_sem, simprocAttr, h1, hg, hg2, rowV, hk, hw, Int.toNat_natCast, List.length_map, bne]
        rw [ih]
        simp only [List.find?_cons, hq]
        cases List.find? (fitS w kind) (List.drop (i + 1) rows) <;> rfl
    | true =>
      cases hq2 : ((castTextS v).k == w.k) && (((castTextS v).n == w.n) && ((castTextS v).s == w.s)) with
      | true =>
        have hq : fitS w kind v = true := by rw [hfit, hk, hq2]; rfl
        simp only [Bool.and_eq_true] at hq2
        obtain ⟨q1, q2, q3⟩ := hq2
        rcases hX with ⟨rfl, rfl, rfl⟩ | ⟨rfl, rfl, rfl⟩ | ⟨rfl, rfl, rfl⟩
        · unfold Loop at hB
          simp -implicitDefEqProofs only [go_sem, simprocAttr, Tryz.f17, loopOf] at hB
          subst hB
          rw [RL_eq]
          simp -implicitDefEqProofs only [go_sem, simprocAttr, h1, hg, hg2, rowV, hk, hsh, q1, q2, q3, Int.toNat_natCast, List.length_map, bne]
          simp only [List.find?_cons, hq]
          all_goals rfl
        · unfold Loop at hB
          simp -implicitDefEqProofs only [go_sem, simprocAttr, Tryz.f17, loopOf] at hB
          subst hB
          rw [RL_eq]
          simp -implicitDefEqProofs only [go_sem, simprocAttr, h1, hg, hg2, rowV, hk, hsh, q1, q2, q3, Int.toNat_natCast, List.length_map, bne]
          simp only [List.find?_cons, hq]
          all_goals rfl
        · unfold Loop at hB
          simp -implicitDefEqProofs only [go_sem, simprocAttr, Tryz.f17, loopOf] at hB
          subst hB
          rw [RL_eq]
          simp -implicitDefEqProofs only [go_sem, simprocAttr, h1, hg, hg2, rowV, hk, hsh, q1, q2, q3, Int.toNat_natCast, List.length_map, bne]
          simp only [List.find?_cons, hq]
          all_goals rfl
      | false =>
        have hq : fitS w kind v = false := by rw [hfit, hk, hq2]; rfl
        rcases hX with ⟨rfl, rfl, rfl⟩ | ⟨rfl, rfl, rfl⟩ | ⟨rfl, rfl, rfl⟩
        · unfold Loop at hB
          simp -implicitDefEqProofs only [go_sem, simprocAttr, Tryz.f17, loopOf] at hB
          subst hB
          rw [RL_eq]
          simp -implicitDefEqProofs only [go_sem, simprocAttr, h1, hg, hg2, rowV, hk, hsh, hq2, hw, Int.toNat_natCast, List.length_map, bne]
          rw [ih]
          simp only [List.find?_cons, hq]
          cases List.find? (fitS w kind) (List.drop (i + 1) rows) <;> rfl
        · unfold Loop at hB
          simp -implicitDefEqProofs only [go_sem, simprocAttr, Tryz.f17, loopOf] at hB
          subst hB
          rw [RL_eq]
          simp -implicitDefEqProofs only [go_sem, simprocAttr, h1, hg, hg2, rowV, hk, hsh, hq2, hw, Int.toNat_natCast, List.length_map, bne]
          rw [ih]
          simp only [List.find?_cons, hq]
          cases List.find? (fitS w kind) (List.drop (i + 1) rows) <;> rfl
        · unfold Loop at hB
          simp -implicitDefEqProofs only [go_sem, simprocAttr, Tryz.f17, loopOf] at hB
          subst hB
          rw [RL_eq]
          simp -implicitDefEqProofs only [go_sem, simprocAttr, h1, hg, hg2, rowV, hk, hsh, hq2, hw, Int.toNat_natCast, List.length_map, bne]
          rw [ih]
          simp only [List.find?_cons, hq]
          cases List.find? (fitS w kind) (List.drop (i + 1) rows) <;> rfl
theorem allLen_map : ∀ l : List Val, allLen 3 (l.map rowV) = true
  | [] => rfl
  | v :: r => by simp only [List.map_cons, allLen, allLen_map r, rowV, List.length_cons, List.length_nil]; rfl
theorem r_Casted (k n : Int) (s : List UInt8) (kind : Int) : R K (.call 17 [V k n s, I kind] []) = some (enc (castedS ⟨k, n, s⟩ kind), []) := by
  have hp := r_right k n s
  generalize hv : (⟨k, n, s⟩ : Val) = a
  rw [hv] at hp
  have hpr := plain_right a
  unfold castedS
  by_cases h0 : (plainV a).k = 0
  · rw [if_pos (.inl h0)]
    have b0 : ((plainV a).k == 0) = true := by simp [h0]
    rw [call_17]
    simp -implicitDefEqProofs only [go_sem, simprocAttr, Tryz.f17, hp, b0]
    all_goals rfl
  have b0 : ((plainV a).k == 0) = false := by simpa using h0
  have hcan := r_CanCast (plainV a).k kind
  cases hc : canS (plainV a).k kind with
  | false =>
    rw [hc] at hcan
    rw [if_pos (.inr rfl)]
    rw [call_17]
    simp -implicitDefEqProofs only [go_sem, simprocAttr, Tryz.f17, hp, b0, hcan]
    all_goals rfl
  | true =>
    rw [hc] at hcan
    rw [if_neg (by simp [h0])]
    by_cases hk : (plainV a).k = kind
    · have bk : ((plainV a).k == kind) = true := by simp [hk]
      rw [if_pos hk]
      rw [call_17]
      simp -implicitDefEqProofs only [go_sem, simprocAttr, Tryz.f17, hp, b0, hcan, bk]
      all_goals rfl
    have bk : ((plainV a).k == kind) = false := by simpa using hk
    rw [if_neg hk]
    by_cases h3 : kind = 3
    · subst h3
      rw [if_pos rfl]
      have hsh := r_castText (plainV a)
      rw [call_17]
      simp -implicitDefEqProofs only [go_sem, simprocAttr, Tryz.f17, hp, b0, hcan, bk, hsh]
    have b3 : (kind == 3) = false := by simpa using h3
    rw [if_neg h3]
    by_cases h4 : (plainV a).k = 3
    · rw [if_pos h4]
      have bt : ((plainV a).k == 3) = true := by simp [h4]
      have hl3 := (plain3 a h4).1
      obtain ⟨r1, hr1, hf1⟩ := r_candidates (plainV a).s (by omega)
      obtain ⟨r2, hr2, hf2⟩ := r_candidates (64 :: (plainV a).s) (by simp; omega)
      have hl1 := cands_len (plainV a).s
      have hl2 := cands_len (64 :: (plainV a).s)
      have g1 : (1 + (plainV a).s.length ≤ strMax) = True := eq_true (by unfold strMax; omega)
      have hne : 3 ≤ (candsS (64 :: (plainV a).s)).length := by unfold candsS; simp only [List.length_append, List.length_cons, List.length_nil]; omega
      rw [show [64] ++ (plainV a).s = 64 :: (plainV a).s from rfl]
      generalize candsS (plainV a).s = c1 at hf1 hl1 ⊢
      generalize candsS (64 :: (plainV a).s) = c2 at hf2 hl2 hne ⊢
      have hm1 : (c1.map rowV).length = c1.length := List.length_map _
      have hm2 : (c2.map rowV).length = c2.length := List.length_map _
      have a1 : allLen 3 (c1.map rowV) = true := allLen_map c1
      have a2 : allLen 3 (c2.map rowV) = true := allLen_map c2
      have g2 : (0 < c2.length) = True := eq_true (by omega)
      have g3 : ∀ x : Nat, ((c1.length + c2.length) * (x + 1) ≤ roomMax) = ((c1.length + c2.length) * (x + 1) ≤ roomMax) := fun _ => rfl
      have g4 : ((c1.length + c2.length) * 33 ≤ roomMax) = True := eq_true (by unfold roomMax; omega)
      have e : (c1 ++ c2).map rowV = c1.map rowV ++ c2.map rowV := List.map_append
      have el : (c1 ++ c2).length = c1.length + c2.length := List.length_append
      have hn : ((c1.length : Int) + (c2.length : Int)) = (((c1 ++ c2).length : Nat) : Int) := by rw [el]; omega
      rcases hf1 with rfl | rfl <;> rcases hf2 with rfl | rfl
      · try simp only [hm1, hm2] at hr1 hr2
        rw [call_17]
        simp -implicitDefEqProofs only [go_sem, simprocAttr, Tryz.f17, hp, b0, hcan, bk, b3, bt, hr1, hr2, g1, g2, g4, hm1, hm2, a1, a2]
        rw [← el, l_Casted (plainV a) kind (c1 ++ c2) c2 (by omega) 2 _ 3 (.inl ⟨rfl, by rw [e], rfl⟩) _ (c1 ++ c2).length 0 0 _ ?_ rfl (by omega), List.drop_zero]
        · cases (c1 ++ c2).find? (fitS (plainV a) kind) with
          | some v => rfl
          | none =>
            simp only [List.take_succ_cons, List.take_zero, List.take_nil]
            simp -implicitDefEqProofs only [go_sem, simprocAttr]
            all_goals rfl
        · rfl
      · try simp only [hm1, hm2] at hr1 hr2
        rw [call_17]
        simp -implicitDefEqProofs only [go_sem, simprocAttr, Tryz.f17, hp, b0, hcan, bk, b3, bt, hr1, hr2, g1, g2, g4, hm1, hm2, a1, a2]
        rw [← el, l_Casted (plainV a) kind (c1 ++ c2) c2 (by omega) 3 _ 4 (.inr (.inl ⟨rfl, by rw [e], rfl⟩)) _ (c1 ++ c2).length 0 0 _ ?_ rfl (by omega), List.drop_zero]
        · cases (c1 ++ c2).find? (fitS (plainV a) kind) with
          | some v => rfl
          | none =>
            simp only [List.take_succ_cons, List.take_zero, List.take_nil]
            simp -implicitDefEqProofs only [go_sem, simprocAttr]
            all_goals rfl
        · rfl
      · try simp only [hm1, hm2] at hr1 hr2
        rw [call_17]
        simp -implicitDefEqProofs only [go_sem, simprocAttr, Tryz.f17, hp, b0, hcan, bk, b3, bt, hr1, hr2, g1, g2, g4, hm1, hm2, a1, a2]
        rw [← el, l_Casted (plainV a) kind (c1 ++ c2) c2 (by omega) 2 _ 3 (.inl ⟨rfl, by rw [e], rfl⟩) _ (c1 ++ c2).length 0 0 _ ?_ rfl (by omega), List.drop_zero]
        · cases (c1 ++ c2).find? (fitS (plainV a) kind) with
          | some v => rfl
          | none =>
            simp only [List.take_succ_cons, List.take_zero, List.take_nil]
            simp -implicitDefEqProofs only [go_sem, simprocAttr]
            all_goals rfl
        · rfl
      · try simp only [hm1, hm2] at hr1 hr2
        rw [call_17]
        simp -implicitDefEqProofs only [go_sem, simprocAttr, Tryz.f17, hp, b0, hcan, bk, b3, bt, hr1, hr2, g1, g2, g4, hm1, hm2, a1, a2]
        rw [← el, l_Casted (plainV a) kind (c1 ++ c2) c2 (by omega) 2 _ 4 (.inr (.inr ⟨rfl, by rw [e], rfl⟩)) _ (c1 ++ c2).length 0 0 _ ?_ rfl (by omega), List.drop_zero]
        · cases (c1 ++ c2).find? (fitS (plainV a) kind) with
          | some v => rfl
          | none =>
            simp only [List.take_succ_cons, List.take_zero, List.take_nil]
            simp -implicitDefEqProofs only [go_sem, simprocAttr]
            all_goals rfl
        · rfl
    have bt : ((plainV a).k == 3) = false := by simpa using h4
    rw [if_neg h4]
    by_cases h5 : kind = 1
    · subst h5
      rw [if_pos rfl]
      rw [call_17]
      simp -implicitDefEqProofs only [go_sem, simprocAttr, Tryz.f17, hp, b0, hcan, bk, bt, r_Truth]
      all_goals rfl
    have b5 : (kind == 1) = false := by simpa using h5
    rw [if_neg h5]
    by_cases h6 : kind = 4
    · subst h6
      rw [if_pos rfl]
      rw [call_17]
      simp -implicitDefEqProofs only [go_sem, simprocAttr, Tryz.f17, hp, b0, hcan, bk, bt, r_moment]
    have b6 : (kind == 4) = false := by simpa using h6
    rw [if_neg h6]
    rw [call_17]
    simp -implicitDefEqProofs only [go_sem, simprocAttr, Tryz.f17, hp, b0, hcan, bk, b3, bt, b5, b6, r_Number]
inductive Ex where
  | mk (k op n : Int) (v : Val) (src nm : List UInt8) (d : Bool) (args : List Ex)
namespace Ex
def k : Ex → Int | mk k _ _ _ _ _ _ _ => k
end Ex
namespace Ex
def op : Ex → Int | mk _ op _ _ _ _ _ _ => op
end Ex
namespace Ex
def n : Ex → Int | mk _ _ n _ _ _ _ _ => n
end Ex
namespace Ex
def v : Ex → Val | mk _ _ _ v _ _ _ _ => v
end Ex
namespace Ex
def src : Ex → List UInt8 | mk _ _ _ _ s _ _ _ => s
end Ex
namespace Ex
def nm : Ex → List UInt8 | mk _ _ _ _ _ m _ _ => m
end Ex
namespace Ex
def d : Ex → Bool | mk _ _ _ _ _ _ d _ => d
end Ex
namespace Ex
def args : Ex → List Ex | mk _ _ _ _ _ _ _ a => a
end Ex
mutual
/-- An expression's cells. -/
def exC : Ex → List AV
  | .mk k op n v src nm d args => [.int .i64 k, .int .i64 op, .int .i64 n, .int .i64 v.k, .int .i64 v.n, .str v.s, .str src, .str nm, .bool d, .rows (exR args), .rows [], .rows [], .rows []]
def exR : List Ex → List (List AV)
  | [] => []
  | e :: r => exC e :: exR r
end
mutual
/-- How many parts an expression has. -/
def exN : Ex → Nat
  | .mk _ _ _ _ _ _ _ args => 1 + exNs args
def exNs : List Ex → Nat
  | [] => 0
  | e :: r => exN e + exNs r
end
mutual
/-- How many parts are within one another. -/
def exD : Ex → Nat
  | .mk _ _ _ _ _ _ _ args => 1 + exDs args
def exDs : List Ex → Nat
  | [] => 0
  | e :: r => max (exD e) (exDs r)
end
mutual
/-- Names are short. -/
def exB : Ex → Prop
  | .mk _ _ _ _ src nm _ args => src.length ≤ 100 ∧ nm.length ≤ 100 ∧ exBs args
def exBs : List Ex → Prop
  | [] => True
  | e :: r => exB e ∧ exBs r
end
theorem exB_mem {e : Ex} : ∀ {l : List Ex}, exBs l → e ∈ l → exB e
  | x :: r, h, he => by
    simp only [exBs] at h
    rcases List.mem_cons.1 he with rfl | he
    · exact h.1
    · exact exB_mem h.2 he
theorem exBs_app : ∀ {a b : List Ex}, exBs a → exBs b → exBs (a ++ b)
  | [], b, _, h => h
  | e :: r, b, h, h2 => by
    simp only [exBs, List.cons_append] at h ⊢
    exact ⟨h.1, exBs_app h.2 h2⟩
theorem exBs_set {e : Ex} (he : exB e) : ∀ {l : List Ex} (i : Nat), exBs l → exBs (l.set i e)
  | [], _, h => h
  | x :: r, 0, h => by simp only [exBs, List.set_cons_zero] at h ⊢; exact ⟨he, h.2⟩
  | x :: r, i + 1, h => by simp only [exBs, List.set_cons_succ] at h ⊢; exact ⟨h.1, exBs_set he i h.2⟩
theorem exBs_drop : ∀ {l : List Ex} (n : Nat), exBs l → exBs (l.drop n)
  | [], n, _ => by simp [exBs]
  | x :: r, 0, h => h
  | x :: r, n + 1, h => by simp only [exBs] at h; rw [List.drop_succ_cons]; exact exBs_drop n h.2
theorem exR_len : ∀ l : List Ex, (exR l).length = l.length
  | [] => rfl
  | _ :: r => by simp [exR, exR_len r]
theorem exR_map : ∀ l : List Ex, exR l = l.map exC
  | [] => rfl
  | e :: r => by rw [exR, exR_map r, List.map_cons]
theorem exR_app (a b : List Ex) : exR (a ++ b) = exR a ++ exR b := by rw [exR_map, exR_map, exR_map, List.map_append]
theorem exC_len (e : Ex) : (exC e).length = 13 := by cases e; rfl
theorem exN_pos (e : Ex) : 1 ≤ exN e := by cases e; simp only [exN]; omega
theorem exN_mem {e : Ex} : ∀ {l : List Ex}, e ∈ l → exN e ≤ exNs l
  | x :: r, h => by
    rcases List.mem_cons.1 h with rfl | h
    · simp only [exNs]; omega
    · have := exN_mem h; simp only [exNs]; omega
theorem exNs_len : ∀ l : List Ex, l.length ≤ exNs l
  | [] => by simp [exNs]
  | e :: r => by have := exNs_len r; have := exN_pos e; simp only [exNs, List.length_cons]; omega
theorem exD_le : ∀ e : Ex, exD e ≤ exN e := by
  refine Ex.rec (motive_1 := fun e => exD e ≤ exN e) (motive_2 := fun l => exDs l ≤ exNs l) ?_ ?_ ?_
  · intro k op n v src nm d args ih; simp only [exD, exN]; omega
  · simp [exDs, exNs]
  · intro e r h1 h2; simp only [exDs, exNs]; omega
theorem Ex.ind {P : Ex → Prop} (h : ∀ e, (∀ a ∈ e.args, P a) → P e) : ∀ e, P e := by
  refine Ex.rec (motive_1 := P) (motive_2 := fun l => ∀ a ∈ l, P a) ?_ ?_ ?_
  · intro k op n v src nm d args ih; exact h _ ih
  · intro a ha; simp at ha
  · intro e r h1 h2 a ha
    rcases List.mem_cons.1 ha with rfl | ha
    · exact h1
    · exact h2 a ha
theorem Ex.eta (e : Ex) : Ex.mk e.k e.op e.n e.v e.src e.nm e.d e.args = e := by cases e; rfl
structure Cel where
  src : List UInt8
  nm : List UInt8
  k : Int
def CelOk (c : Cel) : Prop := c.src.length ≤ 100 ∧ c.nm.length ≤ 100 ∧ 0 ≤ c.k
def celC (c : Cel) : List AV := [.str c.src, .str c.nm, .int .i64 c.k]
abbrev St (L : List Int) (a : Int) : Heap := [.cells [LR L, I a]]
structure Gd (L : List Int) (a B : Int) : Prop where
  pos : 0 ≤ a
  top : a + B ≤ 4611686018427387904
  len : L.length ≤ 9223372036854775807
theorem Gd.step {L : List Int} {a B : Int} (h : Gd L a B) (a' B' : Int) (h1 : a ≤ a') (h2 : a' + B' ≤ a + B) : Gd L a' B' := ⟨by have := h.pos; omega, by have := h.top; omega, h.len⟩
def Out (t : Tk) (L : List Int) (a B : Int) (P : AV → Prop) : Prop := ∃ r a', R K t = some (r, St L a') ∧ a ≤ a' ∧ a' ≤ a + B ∧ P r
theorem Out.mk {t : Tk} {L : List Int} {a B : Int} {P : AV → Prop} (r : AV) (a' : Int) (h1 : a ≤ a') (h2 : a' ≤ a + B) (h3 : P r) (e : R K t = some (r, St L a')) : Out t L a B P := ⟨r, a', e, h1, h2, h3⟩
section
variable {L : List Int} {a B : Int}
theorem g_Next (h : Gd L a B) (hB : 1 ≤ B) (n : Int) : R K (.call 38 [.ptr 0 0, I n] (St L a)) = some (I (nextS L a n), St L (a + 1)) := by
  have h1 := h.pos
  have h2 := h.top
  exact r_Next L a n h1 (by omega) h.len
def rngS (L : List Int) (a lo hi : Int) : Int := lo + nextS L a (hi - lo + 1)
theorem range_bounds (L : List Int) (a lo hi : Int) (h1 : lo ≤ hi) (h2 : hi - lo ≤ 4611686018427387000) : lo ≤ rngS L a lo hi ∧ rngS L a lo hi ≤ hi := by
  have := next_bounds L a (hi - lo + 1) (by omega) (by omega)
  unfold rngS
  omega
theorem g_Range (h : Gd L a B) (hB : 1 ≤ B) (lo hi : Int) (h1 : lo ≤ hi) (h2 : -1152921504606846976 ≤ lo) (h3 : hi ≤ 1152921504606846976) : R K (.call 100 [.ptr 0 0, I lo, I hi] (St L a)) = some (I (rngS L a lo hi), St L (a + 1)) := by
  have x0 := g_Next h hB (hi - lo + 1)
  have b0 := range_bounds L a lo hi h1 (by omega)
  have d0 : decide (hi < lo) = false := decide_eq_false (by omega)
  have w1 : wrapI .i64 (hi - lo) = hi - lo := wrap_id (by omega) (by omega)
  have w2 : wrapI .i64 (hi - lo + 1) = hi - lo + 1 := wrap_id (by omega) (by omega)
  have w3 : wrapI .i64 (lo + nextS L a (hi - lo + 1)) = rngS L a lo hi := by
    unfold rngS at b0 ⊢
    exact wrap_id (by omega) (by omega)
  rw [call_100]
  simp -implicitDefEqProofs only [go_sem, simprocAttr, Tryz.f100, x0, d0, w1, w2, w3]
theorem g_Flip (h : Gd L a B) (hB : 1 ≤ B) (n : Int) : R K (.call 43 [.ptr 0 0, I n] (St L a)) = some (.bool (nextS L a n == 0), St L (a + 1)) := by
  have x0 := g_Next h hB n
  rw [call_43]
  simp -implicitDefEqProofs only [go_sem, simprocAttr, Tryz.f43, x0]
theorem int_at {l : List Int} {i : Int} (h : 0 ≤ i ∧ i < (l.length : Int)) : ∃ x ∈ l, at? (l.map fun x => [I x]) i = some [I x] := by
  obtain ⟨x, hx⟩ := some_at (l := l) (i := i.toNat) (by omega)
  refine ⟨x, List.mem_of_getElem? hx, ?_⟩
  unfold at?
  rw [if_pos h.1]
  simp [hx]
theorem g_Pick (h : Gd L a B) (hB : 1 ≤ B) (l : List Int) (hl : 1 ≤ l.length) (hl2 : l.length ≤ 1000) : ∃ x ∈ l, R K (.call 49 [.ptr 0 0, .rows (l.map fun x => [I x])] (St L a)) = some (I x, St L (a + 1)) := by
  have x0 := g_Next h hB (l.length : Int)
  have b0 := next_bounds L a (l.length : Int) (by omega) (by omega)
  obtain ⟨x, hx, hg⟩ := int_at (l := l) b0
  refine ⟨x, hx, ?_⟩
  rw [call_49]
  simp -implicitDefEqProofs only [go_sem, simprocAttr, Tryz.f49, x0, hg]
theorem g_Kind (h : Gd L a B) (hB : 1 ≤ B) : R K (.call 94 [.ptr 0 0] (St L a)) = some (I (rngS L a 1 4), St L (a + 1)) := by
  have x0 := g_Range h hB 1 4 (by omega) (by omega) (by omega)
  rw [call_94]
  simp -implicitDefEqProofs only [go_sem, simprocAttr, Tryz.f94, x0]
theorem g_Int (h : Gd L a B) (hB : 2 ≤ B) : ∃ n a', R K (.call 101 [.ptr 0 0] (St L a)) = some (I n, St L a') ∧ a ≤ a' ∧ a' ≤ a + 2 := by
  have x0 := g_Next h (by omega) 10
  have h1 := h.step (a + 1) (B - 1) (by omega) (by omega)
  by_cases e0 : nextS L a 10 = 0
  · obtain ⟨x, _, p⟩ := g_Pick h1 (by omega) [999999999999999, -999999999999999, 1000000000000000, -1000000000000000, 4611686018427387904, -9223372036854775808, 9223372036854775807, 253402300799, 253402300800] (by decide) (by decide)
    simp only [List.map] at p
    refine ⟨x, a + 1 + 1, ?_, by omega, by omega⟩
    rw [call_101]
    simp -implicitDefEqProofs only [go_sem, simprocAttr, Tryz.f101, x0, e0, p]
  · have b0 : (nextS L a 10 == 0) = false := by simpa using e0
    by_cases e1 : nextS L a 10 = 1
    · have x1 := g_Range h1 (by omega) (-1000000) 1000000 (by omega) (by omega) (by omega)
      refine ⟨rngS L (a + 1) (-1000000) 1000000, a + 1 + 1, ?_, by omega, by omega⟩
      rw [call_101]
      simp -implicitDefEqProofs only [go_sem, simprocAttr, Tryz.f101, x0, e1, x1]
    · have b1 : (nextS L a 10 == 1) = false := by simpa using e1
      have x1 := g_Range h1 (by omega) (-6) 12 (by omega) (by omega) (by omega)
      refine ⟨rngS L (a + 1) (-6) 12, a + 1 + 1, ?_, by omega, by omega⟩
      rw [call_101]
      simp -implicitDefEqProofs only [go_sem, simprocAttr, Tryz.f101, x0, b0, b1, x1]
theorem str_at {l : List (List UInt8)} {i : Int} (h : 0 ≤ i ∧ i < (l.length : Int)) : ∃ x ∈ l, at? (l.map fun x => [AV.str x]) i = some [.str x] := by
  obtain ⟨x, hx⟩ := some_at (l := l) (i := i.toNat) (by omega)
  refine ⟨x, List.mem_of_getElem? hx, ?_⟩
  unfold at?
  rw [if_pos h.1]
  simp [hx]
def pcs : List (List UInt8) := [[97], [98], [97, 98], [], [65], [37], [95], [92], [39], [32], [48], [49, 50], [45, 51], [116, 114, 117, 101], [120, 44, 121], [40], [50, 48, 48, 48, 45, 48, 50, 45, 50, 57, 84, 48, 48, 58, 48, 48, 58, 48, 48]]
theorem pcs_len : ∀ x ∈ pcs, x.length ≤ 19 := by decide
theorem l_text (c : Nat) (hc : c ≤ 100) (ks : List It) : ∀ (m j : Nat) (i : Int) (t : List UInt8) (a B : Int) (Bo : Code), Loop Tryz.f102 0 Bo → Gd L a B → m ≤ B → i = (j : Int) → c = j + m → t.length ≤ 19 * j →
   ∃ (t' : List UInt8) (a' : Int), a ≤ a' ∧ a' ≤ a + m ∧ t'.length ≤ 19 * c ∧
   RL K (.run 102 1 (.code Bo :: .lp Bo (some ([0, 3, 4, 18, 19], [])) 1 :: .blk 0 1 :: ks) [(0, .ptr 0 0), (3, .lit (pcs.map fun x => [.str x])), (4, .str t), (18, I (c : Int)), (19, I i)] (St L a)) =
   R K (.run 102 1 ks [(4, .str t')] (St L a'))
  | 0, j, i, t, a, B, Bo, hB, hG, hm, hi, hj, ht => by
    subst hi
    have h1 : decide ((j : Int) < (c : Int)) = false := decide_eq_false (by omega)
    refine ⟨t, a, by omega, by omega, by omega, ?_⟩
    unfold Loop at hB
    simp -implicitDefEqProofs only [go_sem, simprocAttr, Tryz.f102, loopOf] at hB
    subst hB
    rw [RL_eq]
    simp -implicitDefEqProofs only [go_sem, simprocAttr, h1]
  | m + 1, j, i, t, a, B, Bo, hB, hG, hm, hi, hj, ht => by
    subst hi
    have hB' := hB
    have h1 : decide ((j : Int) < (c : Int)) = true := decide_eq_true (by omega)
    have x1 := g_Next hG (by omega) 17
    obtain ⟨x, hx, hg⟩ := str_at (l := pcs) (next_bounds L a 17 (by omega) (by omega))
    have hxl := pcs_len x hx
    have h7 := next_id (i := j) (n := c) (by omega) (by omega)
    have k1 : (t.length + x.length ≤ strMax) = True := eq_true (by unfold strMax; omega)
    have l1 : (pcs.map fun x => [AV.str x]).length = 17 := rfl
    obtain ⟨t', a', q1, q2, q3, ih⟩ := l_text c hc ks m (j + 1) _ (t ++ x) (a + 1) (B - 1) Bo hB' (hG.step _ _ (by omega) (by omega)) (by omega) rfl (by omega) (by rw [List.length_append]; omega)
    refine ⟨t', a', by omega, by omega, q3, ?_⟩
    unfold Loop at hB
    simp -implicitDefEqProofs only [go_sem, simprocAttr, Tryz.f102, loopOf] at hB
    subst hB
    rw [RL_eq]
    simp -implicitDefEqProofs only [go_sem, simprocAttr, h1, x1, hg, l1, h7, k1]
    rw [ih]
theorem g_text (h : Gd L a B) (hB : 10 ≤ B) : ∃ s a', R K (.call 102 [.ptr 0 0] (St L a)) = some (.str s, St L a') ∧ a ≤ a' ∧ a' ≤ a + 10 ∧ s.length ≤ 2000 := by
  have x0 := g_Flip h (by omega) 12
  have h1 := h.step (a + 1) (B - 1) (by omega) (by omega)
  cases e0 : nextS L a 12 == 0 with
  | true =>
    rw [e0] at x0
    have x1 := g_Next h1 (by omega) 4
    obtain ⟨s, hs, hg⟩ := str_at (l := [[97], [39], [92], [37]]) (next_bounds L (a + 1) 4 (by omega) (by omega))
    have hsl : s.length ≤ 1 := (by decide : ∀ x ∈ ([[97], [39], [92], [37]] : List (List UInt8)), x.length ≤ 1) s hs
    have h2 := h1.step (a + 1 + 1) (B - 2) (by omega) (by omega)
    obtain ⟨x, hx, p⟩ := g_Pick h2 (by omega) [49, 50, 51, 99, 100, 101] (by decide) (by decide)
    have hxb : 0 ≤ x ∧ x ≤ 101 := (by decide : ∀ x ∈ ([49, 50, 51, 99, 100, 101] : List Int), 0 ≤ x ∧ x ≤ 101) x hx
    have pr := p_Repeat s x.toNat (by omega) (by omega)
    rw [Int.toNat_of_nonneg hxb.1] at pr
    simp only [List.map] at p hg
    refine ⟨Lib.repeatL s x.toNat, a + 1 + 1 + 1, ?_, by omega, by omega, ?_⟩
    · rw [call_102]
      simp -implicitDefEqProofs only [go_sem, simprocAttr, Tryz.f102, x0, x1, hg, p, pr]
    · rw [Lib.repeatL_length, Nat.mul_comm]
      have : s.length * x.toNat ≤ 1 * 101 := Nat.mul_le_mul hsl (by omega)
      omega
  | false =>
    rw [e0] at x0
    have x1 := g_Range h1 (by omega) 0 3 (by omega) (by omega) (by omega)
    have b1 := range_bounds L (a + 1) 0 3 (by omega) (by omega)
    have e1 : ((rngS L (a + 1) 0 3).toNat : Int) = rngS L (a + 1) 0 3 := by omega
    obtain ⟨t', a', q1, q2, q3, lk⟩ := l_text (L := L) (rngS L (a + 1) 0 3).toNat (by omega) [.code _] (rngS L (a + 1) 0 3).toNat 0 0 [] (a + 1 + 1) (B - 2) _ rfl (h1.step _ _ (by omega) (by omega)) (by omega) rfl (by omega) (by simp)
    rw [e1] at lk
    refine ⟨t', a', ?_, by omega, by omega, by omega⟩
    rw [call_102]
    simp -implicitDefEqProofs only [go_sem, simprocAttr, Tryz.f102, x0, x1]
    simp only [pcs, List.map] at lk
    rw [lk]
    simp -implicitDefEqProofs only [go_sem, simprocAttr]
theorem g_Full (h : Gd L a B) (hB : 12 ≤ B) (k : Int) : ∃ v a', R K (.call 98 [.ptr 0 0, I k] (St L a)) = some (enc v, St L a') ∧ a ≤ a' ∧ a' ≤ a + 12 ∧ v.s.length ≤ 2000 := by
  by_cases k1 : k = 1
  · subst k1
    have x0 := g_Next h (by omega) 2
    refine ⟨⟨1, nextS L a 2, []⟩, a + 1, ?_, by omega, by omega, by simp⟩
    rw [call_98]
    simp -implicitDefEqProofs only [go_sem, simprocAttr, Tryz.f98, x0]
  have b1 : (k == 1) = false := by simpa using k1
  by_cases k2 : k = 2
  · subst k2
    obtain ⟨n, a', x0, q1, q2⟩ := g_Int h (by omega)
    refine ⟨⟨2, if 999999999999999 < (if n < -999999999999999 then -999999999999999 else n) then 999999999999999 else (if n < -999999999999999 then -999999999999999 else n), []⟩, a', ?_, by omega, by omega, by simp⟩
    rw [call_98]
    simp -implicitDefEqProofs only [go_sem, simprocAttr, Tryz.f98, x0]
    all_goals rfl
  have b2 : (k == 2) = false := by simpa using k2
  by_cases k3 : k = 3
  · subst k3
    obtain ⟨s, a', x0, q1, q2, q3⟩ := g_text h (by omega)
    by_cases hl : 100 < s.length
    · have d0 : decide ((100 : Int) < (s.length : Int)) = true := decide_eq_true (by omega)
      have d1 : ((100 : Int) ≤ (s.length : Int)) = True := eq_true (by omega)
      have d2 : (100 : Int).toNat = 100 := rfl
      refine ⟨⟨3, 0, s.take 100⟩, a', ?_, by omega, by omega, by simp; omega⟩
      rw [call_98]
      simp -implicitDefEqProofs only [go_sem, simprocAttr, Tryz.f98, x0, d0, d1, d2]
    · have d0 : decide ((100 : Int) < (s.length : Int)) = false := decide_eq_false (by omega)
      refine ⟨⟨3, 0, s⟩, a', ?_, by omega, by omega, by omega⟩
      rw [call_98]
      simp -implicitDefEqProofs only [go_sem, simprocAttr, Tryz.f98, x0, d0]
  have b3 : (k == 3) = false := by simpa using k3
  have x0 := g_Range h (by omega) 0 2147483648 (by omega) (by omega) (by omega)
  have h1 := h.step (a + 1) (B - 1) (by omega) (by omega)
  obtain ⟨x, _, p⟩ := g_Pick h1 (by omega) [0, 1, 59, 86399, 86400, 951782400, 951868799, 1709164800, 1706659200, 253402300799, rngS L a 0 2147483648] (by simp) (by simp)
  simp only [List.map] at p
  refine ⟨⟨k, x, []⟩, a + 1 + 1, ?_, by omega, by omega, by simp⟩
  rw [call_98]
  simp -implicitDefEqProofs only [go_sem, simprocAttr, Tryz.f98, b1, b2, b3, x0, p]
theorem g_Value (h : Gd L a B) (hB : 13 ≤ B) (k : Int) : ∃ v a', R K (.call 41 [.ptr 0 0, I k] (St L a)) = some (enc v, St L a') ∧ a ≤ a' ∧ a' ≤ a + 13 ∧ v.s.length ≤ 2000 := by
  have x0 := g_Flip h (by omega) 7
  have h1 := h.step (a + 1) (B - 1) (by omega) (by omega)
  cases e0 : nextS L a 7 == 0 with
  | true =>
    rw [e0] at x0
    refine ⟨null, a + 1, ?_, by omega, by omega, by simp [null]⟩
    rw [call_41]
    simp -implicitDefEqProofs only [go_sem, simprocAttr, Tryz.f41, x0]
    all_goals rfl
  | false =>
    rw [e0] at x0
    obtain ⟨v, a', x1, q1, q2, q3⟩ := g_Full h1 (by omega) k
    refine ⟨v, a', ?_, by omega, by omega, q3⟩
    rw [call_41]
    simp -implicitDefEqProofs only [go_sem, simprocAttr, Tryz.f41, x0, x1]
theorem g_Any (h : Gd L a B) (hB : 30 ≤ B) : ∃ v a', R K (.call 44 [.ptr 0 0] (St L a)) = some (enc v, St L a') ∧ a ≤ a' ∧ a' ≤ a + 30 ∧ v.s.length ≤ 2001 := by
  have x0 := g_Range h (by omega) 1 4 (by omega) (by omega) (by omega)
  obtain ⟨v, a1, x1, q1, q2, q3⟩ := g_Value (h.step (a + 1) (B - 1) (by omega) (by omega)) (by omega) (rngS L a 1 4)
  have h1 := h.step a1 (B - 14) (by omega) (by omega)
  have x2 := g_Flip h1 (by omega) 8
  cases e0 : nextS L a1 8 == 0 with
  | false =>
    rw [e0] at x2
    refine ⟨v, a1 + 1, ?_, by omega, by omega, by omega⟩
    rw [call_44]
    simp -implicitDefEqProofs only [go_sem, simprocAttr, Tryz.f44, x0, x1, x2]
  | true =>
    rw [e0] at x2
    have h2 := h1.step (a1 + 1) (B - 15) (by omega) (by omega)
    have x3 := g_Next h2 (by omega) 5
    have h3 := h2.step (a1 + 1 + 1) (B - 16) (by omega) (by omega)
    by_cases c0 : nextS L (a1 + 1) 5 = 0
    · obtain ⟨x, _, p⟩ := g_Pick h3 (by omega) [-1, 5, 0, 1, 2, 3, 4] (by decide) (by decide)
      simp only [List.map] at p
      refine ⟨⟨x, v.n, v.s⟩, a1 + 1 + 1 + 1, ?_, by omega, by omega, by simp only; omega⟩
      rw [call_44]
      simp -implicitDefEqProofs only [go_sem, simprocAttr, Tryz.f44, x0, x1, x2, x3, c0, p]
    have b0 : (nextS L (a1 + 1) 5 == 0) = false := by simpa using c0
    by_cases c1 : nextS L (a1 + 1) 5 = 1
    · obtain ⟨n, a2, p, r1, r2⟩ := g_Int h3 (by omega)
      refine ⟨⟨v.k, n, v.s⟩, a2, ?_, by omega, by omega, by simp only; omega⟩
      rw [call_44]
      simp -implicitDefEqProofs only [go_sem, simprocAttr, Tryz.f44, x0, x1, x2, x3, c1, p]
    have b1 : (nextS L (a1 + 1) 5 == 1) = false := by simpa using c1
    by_cases c2 : nextS L (a1 + 1) 5 = 2
    · obtain ⟨s, a2, p, r1, r2, r3⟩ := g_text h3 (by omega)
      refine ⟨⟨v.k, v.n, s⟩, a2, ?_, by omega, by omega, by simp only; omega⟩
      rw [call_44]
      simp -implicitDefEqProofs only [go_sem, simprocAttr, Tryz.f44, x0, x1, x2, x3, c2, p]
    have b2 : (nextS L (a1 + 1) 5 == 2) = false := by simpa using c2
    by_cases c3 : nextS L (a1 + 1) 5 = 3
    · have k1 : (v.s.length + 1 ≤ strMax) = True := eq_true (by unfold strMax; omega)
      refine ⟨⟨v.k, v.n, v.s ++ [10]⟩, a1 + 1 + 1, ?_, by omega, by omega, by simp; omega⟩
      rw [call_44]
      simp -implicitDefEqProofs only [go_sem, simprocAttr, Tryz.f44, x0, x1, x2, x3, c3, k1]
    have b3 : (nextS L (a1 + 1) 5 == 3) = false := by simpa using c3
    obtain ⟨x, hx, p⟩ := g_Pick h3 (by omega) [100, 101] (by decide) (by decide)
    have hxb : 0 ≤ x ∧ x ≤ 101 := (by decide : ∀ x ∈ ([100, 101] : List Int), 0 ≤ x ∧ x ≤ 101) x hx
    have pr := p_Repeat [122] x.toNat (by omega) (by simp)
    rw [Int.toNat_of_nonneg hxb.1] at pr
    simp only [List.map] at p
    refine ⟨⟨v.k, v.n, Lib.repeatL [122] x.toNat⟩, a1 + 1 + 1 + 1, ?_, by omega, by omega, ?_⟩
    · rw [call_44]
      simp -implicitDefEqProofs only [go_sem, simprocAttr, Tryz.f44, x0, x1, x2, x3, b0, b1, b2, b3, p, pr]
    · rw [Lib.repeatL_length]; simp; omega
end
theorem exC_eq (e : Ex) : exC e = [I e.k, I e.op, I e.n, I e.v.k, I e.v.n, .str e.v.s, .str e.src, .str e.nm, .bool e.d, .rows (exR e.args), .rows [], .rows [], .rows []] := by cases e; rfl
@[go_sem] theorem exC_singles (e : Ex) : singles (exC e) = true := by rw [exC_eq]; rfl
@[go_sem] theorem exC_purify (e : Ex) (h : Heap) : purifyL h (exC e) = some (exC e) := by rw [exC_eq]; rfl
@[go_sem] theorem exC_conv (e : Ex) (h : Heap) : convL h (exC e) = some (exC e) := by rw [exC_eq]; rfl
@[go_sem] theorem exC_leave (e : Ex) (b : Bool) (k : Nat) (h : Heap) : leaveL b k h (exC e) = some (exC e) := by rw [exC_eq]; rfl
@[go_sem] theorem exC_locs (e : Ex) : locsL (exC e) = [] := by rw [exC_eq]; rfl
@[go_sem] theorem exC_ren (e : Ex) (σ : Nat → Nat) : renL σ (exC e) = exC e := by rw [exC_eq]; rfl
@[go_sem] theorem exC_take (e : Ex) : (exC e).take 13 = exC e := by rw [exC_eq]; rfl
@[go_sem] theorem exC_drop (e : Ex) : (exC e).drop 13 = [] := by rw [exC_eq]; rfl
attribute [go_sem] exC_len touchesCall true_or or_true
abbrev colsC (cols : List Cel) : AV := .rows (cols.map celC)
theorem g_Constant (v : Val) : R K (.call 152 [V v.k v.n v.s] []) = some (.agg (exC (.mk 1 0 0 v [] [] false [])), []) := by
  rw [call_152]
  simp -implicitDefEqProofs only [go_sem, simprocAttr, Tryz.f152]
  all_goals rfl
theorem g_Oper (op : Int) (l : List Ex) : R K (.call 149 [I op, .rows (exR l)] []) = some (.agg (exC (.mk 4 op 0 null [] [] false l)), []) := by
  rw [call_149]
  simp -implicitDefEqProofs only [go_sem, simprocAttr, Tryz.f149]
  all_goals rfl
section
variable {L : List Int} {a B : Int}
theorem cel_get {l : List Cel} {i : Nat} {v : Cel} (h : l[i]? = some v) : at? (l.map celC) (i : Int) = some (celC v) := at_get (by simp [h])
theorem ex_get {l : List Ex} {i : Nat} {v : Ex} (h : l[i]? = some v) : at? (exR l) (i : Int) = some (exC v) := at_get (by simp [exR_map, h])
theorem ex_get' {l : List Ex} {i : Nat} {v : Ex} (h : l[i]? = some v) : (exR l)[i]? = some (exC v) := by simp [exR_map, h]
theorem int_get {l : List Int} {i : Nat} {v : Int} (h : l[i]? = some v) : at? (l.map fun x => [I x]) (i : Int) = some [I v] := at_get (by simp [h])
def Lone (e : Ex) : Prop := e.args = [] ∧ exB e
theorem Lone.n {e : Ex} (h : Lone e) : exN e = 1 := by
  have h := h.1
  cases e
  simp only [Ex.args] at h
  subst h
  rfl
theorem lone_mk (k op n : Int) (v : Val) (src nm : List UInt8) (d : Bool) (h1 : src.length ≤ 100) (h2 : nm.length ≤ 100) : Lone (.mk k op n v src nm d []) := ⟨rfl, by simp only [exB, exBs]; exact ⟨h1, h2, trivial⟩⟩
theorem exR_snoc (l : List Ex) (e : Ex) : exR l ++ [exC e] = exR (l ++ [e]) := by rw [exR_app]; rfl
theorem room_small (n : Nat) (h : n ≤ 100000) (b : Nat) (hb : b ≤ 1000) : (n * b ≤ roomMax) = True := eq_true (by
  have : n * b ≤ 100000 * 1000 := Nat.mul_le_mul h hb
  unfold roomMax; omega)
theorem l_leaf0 (cols : List Cel) (hco : ∀ c ∈ cols, CelOk c) (hc : cols.length ≤ 1000) (kind : Int) (ps : List Int) (H0 : List AV) (hH : locsL H0 = []) (ks : List It) : ∀ (m j : Nat) (i : Int) (l : List Ex) (Bo : Code), Loop Tryz.f147 0 Bo → i = (j : Int) → cols.length = j + m → l.length ≤ j → (∀ e ∈ l, Lone e) →
   ∃ l' : List Ex, l'.length ≤ cols.length ∧ (∀ e ∈ l', Lone e) ∧
   RL K (.run 147 1 (.code Bo :: .lp Bo (some ([0, 1, 3, 8, 9, 14, 15, 16], [])) 3 :: .blk 0 3 :: ks) [(0, .ptr 0 0), (1, I kind), (3, LR ps), (8, .ptr 1 0), (9, .own 2 l.length), (14, colsC cols), (15, I (cols.length : Int)), (16, I i)] [.cells [LR L, I a], .cells H0, .rows 13 (exR l) false]) =
   R K (.run 147 1 ks [(0, .ptr 0 0), (1, I kind), (3, LR ps), (8, .ptr 1 0), (9, .own 2 l'.length)] [.cells [LR L, I a], .cells H0, .rows 13 (exR l') false])
  | 0, j, i, l, Bo, hB, hi, hj, hl, hL => by
    subst hi
    have h1 : decide ((j : Int) < (cols.length : Int)) = false := decide_eq_false (by omega)
    refine ⟨l, by omega, hL, ?_⟩
    unfold Loop at hB
    simp -implicitDefEqProofs only [go_sem, simprocAttr, Tryz.f147, loopOf] at hB
    subst hB
    rw [RL_eq]
    simp -implicitDefEqProofs only [go_sem, simprocAttr, h1, hH]
  | m + 1, j, i, l, Bo, hB, hi, hj, hl, hL => by
    subst hi
    have hB' := hB
    have h1 : decide ((j : Int) < (cols.length : Int)) = true := decide_eq_true (by omega)
    obtain ⟨c, hc'⟩ := some_at (l := cols) (i := j) (by omega)
    have hg := cel_get hc'
    have h7 := next_id (i := j) (n := cols.length) (by omega) (by omega)
    cases hk : c.k == kind with
    | false =>
      obtain ⟨l', q1, q2, ih⟩ := l_leaf0 cols hco hc kind ps H0 hH ks m (j + 1) _ l Bo hB' rfl (by omega) (by omega) hL
      refine ⟨l', q1, q2, ?_⟩
      unfold Loop at hB
      simp -implicitDefEqProofs only [go_sem, simprocAttr, Tryz.f147, loopOf] at hB
      subst hB
      rw [RL_eq]
      simp -implicitDefEqProofs only [go_sem, simprocAttr, h1, hH, hg, celC, h7, hk]
      rw [← ih]
    | true =>
      have hr := room_small (l.length + 1) (by omega)
      obtain ⟨l', q1, q2, ih⟩ := l_leaf0 cols hco hc kind ps H0 hH ks m (j + 1) _ (l ++ [.mk 3 0 0 null c.src c.nm false []]) Bo hB' rfl (by omega) (by simp; omega) (by
        intro e he
        rcases List.mem_append.1 he with he | he
        · exact hL e he
        · simp only [List.mem_cons, List.not_mem_nil, or_false] at he; subst he; exact lone_mk _ _ _ _ _ _ _ (hco c (List.mem_of_getElem? hc')).1 (hco c (List.mem_of_getElem? hc')).2.1)
      refine ⟨l', q1, q2, ?_⟩
      unfold Loop at hB
      simp -implicitDefEqProofs only [go_sem, simprocAttr, Tryz.f147, loopOf] at hB
      subst hB
      rw [RL_eq]
      simp -implicitDefEqProofs only [go_sem, simprocAttr, h1, hH, hg, celC, h7, hk, exR_len, hr]
      rw [← ih]
      simp only [← exR_snoc, List.length_append, List.length_cons, List.length_nil]
      rfl
theorem l_leaf2 (ps : List Int) (hp : ps.length ≤ 1000) (kind : Int) (H0 : List AV) (hH : locsL H0 = []) (ks : List It) : ∀ (m j : Nat) (i : Int) (l : List Ex) (Bo : Code), Loop Tryz.f147 2 Bo → i = (j : Int) → ps.length = j + m → l.length ≤ 1000 + j → (∀ e ∈ l, Lone e) →
   ∃ l' : List Ex, l'.length ≤ 1000 + ps.length ∧ (∀ e ∈ l', Lone e) ∧
   RL K (.run 147 1 (.code Bo :: .lp Bo (some ([0, 1, 8, 9, 33, 34, 35], [])) 3 :: .blk 2 3 :: ks) [(0, .ptr 0 0), (1, I kind), (8, .ptr 1 0), (9, .own 2 l.length), (33, LR ps), (34, I (ps.length : Int)), (35, I i)] [.cells [LR L, I a], .cells H0, .rows 13 (exR l) false]) =
   R K (.run 147 1 ks [(0, .ptr 0 0), (1, I kind), (8, .ptr 1 0), (9, .own 2 l'.length)] [.cells [LR L, I a], .cells H0, .rows 13 (exR l') false])
  | 0, j, i, l, Bo, hB, hi, hj, hl, hL => by
    subst hi
    have h1 : decide ((j : Int) < (ps.length : Int)) = false := decide_eq_false (by omega)
    refine ⟨l, by omega, hL, ?_⟩
    unfold Loop at hB
    simp -implicitDefEqProofs only [go_sem, simprocAttr, Tryz.f147, loopOf] at hB
    subst hB
    rw [RL_eq]
    simp -implicitDefEqProofs only [go_sem, simprocAttr, h1, hH]
  | m + 1, j, i, l, Bo, hB, hi, hj, hl, hL => by
    subst hi
    have hB' := hB
    have h1 : decide ((j : Int) < (ps.length : Int)) = true := decide_eq_true (by omega)
    obtain ⟨c, hc'⟩ := some_at (l := ps) (i := j) (by omega)
    have hg := int_get hc'
    have h7 := next_id (i := j) (n := ps.length) (by omega) (by omega)
    cases hk : c == kind with
    | false =>
      obtain ⟨l', q1, q2, ih⟩ := l_leaf2 ps hp kind H0 hH ks m (j + 1) _ l Bo hB' rfl (by omega) (by omega) hL
      refine ⟨l', q1, q2, ?_⟩
      unfold Loop at hB
      simp -implicitDefEqProofs only [go_sem, simprocAttr, Tryz.f147, loopOf] at hB
      subst hB
      rw [RL_eq]
      simp -implicitDefEqProofs only [go_sem, simprocAttr, h1, hH, hg, h7, hk]
      rw [← ih]
    | true =>
      have hr := room_small (l.length + 1) (by omega)
      obtain ⟨l', q1, q2, ih⟩ := l_leaf2 ps hp kind H0 hH ks m (j + 1) _ (l ++ [.mk 2 0 (j : Int) null [] [] false []]) Bo hB' rfl (by omega) (by simp; omega) (by
        intro e he
        rcases List.mem_append.1 he with he | he
        · exact hL e he
        · simp only [List.mem_cons, List.not_mem_nil, or_false] at he; subst he; exact lone_mk _ _ _ _ _ _ _ (by simp) (by simp))
      refine ⟨l', q1, q2, ?_⟩
      unfold Loop at hB
      simp -implicitDefEqProofs only [go_sem, simprocAttr, Tryz.f147, loopOf] at hB
      subst hB
      rw [RL_eq]
      simp -implicitDefEqProofs only [go_sem, simprocAttr, h1, hH, hg, h7, hk, exR_len, hr]
      rw [← ih]
      simp only [← exR_snoc, List.length_append, List.length_cons, List.length_nil]
      rfl
theorem g_leaf (h : Gd L a B) (hB : 16 ≤ B) (kind : Int) (cols : List Cel) (ps : List Int) (hco : ∀ c ∈ cols, CelOk c) (hc : cols.length ≤ 1000) (hp : ps.length ≤ 1000) : ∃ e a', R K (.call 147 [.ptr 0 0, I kind, colsC cols, LR ps] (St L a)) = some (.agg (exC e), St L a') ∧ a ≤ a' ∧ a' ≤ a + 16 ∧ exN e ≤ 1 ∧ exB e := by
  obtain ⟨l1, q1, q2, e1⟩ := l_leaf0 (L := L) (a := a) cols hco hc kind ps [I 0, I 0, I 0, I 0, I 0, .str [], .str [], .str [], .bool false, .nils, .nils, .nils, .nils] rfl [.code _] cols.length 0 0 [] _ rfl rfl (by omega) (by simp) (by simp)
  obtain ⟨l2, r1, r2, e2⟩ := l_leaf2 (L := L) (a := a) ps hp kind [I 0, I 0, I 0, I 0, I 0, .str [], .str [], .str [], .bool false, .nils, .nils, .nils, .nils] rfl [.code _] ps.length 0 0 l1 _ rfl rfl (by omega) (by omega) q2
  simp only [List.length_nil, exR] at e1
  have f0 := g_Flip h (by omega) 3
  have h1 := h.step (a + 1) (B - 1) (by omega) (by omega)
  by_cases hl : 0 < l2.length
  · have d0 : decide ((0 : Int) < (l2.length : Int)) = true := decide_eq_true (by omega)
    cases hf : nextS L a 3 == 0 with
    | false =>
      rw [hf] at f0
      have x0 := g_Next h1 (by omega) (l2.length : Int)
      have b0 := next_bounds L (a + 1) (l2.length : Int) (by omega) (by omega)
      obtain ⟨x, hx⟩ := some_at (l := l2) (i := (nextS L (a + 1) (l2.length : Int)).toNat) (by omega)
      have hg : at? (exR l2) (nextS L (a + 1) (l2.length : Int)) = some (exC x) := by
        unfold at?
        rw [if_pos b0.1]
        exact ex_get' hx
      have hg2 := ex_get' hx
      refine ⟨x, a + 1 + 1, ?_, by omega, by omega, by rw [(r2 x (List.mem_of_getElem? hx)).n]; omega, (r2 x (List.mem_of_getElem? hx)).2⟩
      rw [call_147]
      simp -implicitDefEqProofs only [go_sem, simprocAttr, Tryz.f147]
      rw [e1]
      simp -implicitDefEqProofs only [go_sem, simprocAttr]
      rw [e2]
      simp -implicitDefEqProofs only [go_sem, simprocAttr, d0, f0, x0, exR_len, hg, hg2]
    | true =>
      rw [hf] at f0
      obtain ⟨v, a', x0, s1, s2, _⟩ := g_Value h1 (by omega) kind
      refine ⟨.mk 1 0 0 v [] [] false [], a', ?_, by omega, by omega, ?_, (lone_mk _ _ _ _ _ _ _ (by simp) (by simp)).2⟩
      · rw [call_147]
        simp -implicitDefEqProofs only [go_sem, simprocAttr, Tryz.f147]
        rw [e1]
        simp -implicitDefEqProofs only [go_sem, simprocAttr]
        rw [e2]
        simp -implicitDefEqProofs only [go_sem, simprocAttr, d0, f0, x0, g_Constant]
      · simp [exN, exNs]
  · have d0 : decide ((0 : Int) < (l2.length : Int)) = false := decide_eq_false (by omega)
    obtain ⟨v, a', x0, s1, s2, _⟩ := g_Value h (by omega) kind
    refine ⟨.mk 1 0 0 v [] [] false [], a', ?_, by omega, by omega, ?_, (lone_mk _ _ _ _ _ _ _ (by simp) (by simp)).2⟩
    · rw [call_147]
      simp -implicitDefEqProofs only [go_sem, simprocAttr, Tryz.f147]
      rw [e1]
      simp -implicitDefEqProofs only [go_sem, simprocAttr]
      rw [e2]
      simp -implicitDefEqProofs only [go_sem, simprocAttr, d0, x0, g_Constant]
    · simp [exN, exNs]
end
def bN : Nat → Nat
  | 0 => 1
  | d + 1 => 1 + 5 * bN d
def bT : Nat → Int
  | 0 => 20
  | d + 1 => 30 + 5 * bT d
theorem bN_pos : ∀ d, 1 ≤ bN d
  | 0 => by simp [bN]
  | d + 1 => by simp only [bN]; omega
theorem bT_pos : ∀ d, 20 ≤ bT d
  | 0 => by simp [bT]
  | d + 1 => by have := bT_pos d; simp only [bT]; omega
theorem block_plain {C : Cfg} {f k id : Nat} {ks : List It} {fr : Fr} {h : Heap} {b : Code} : onBlockL C f k ks id b fr h none = R C (.run f k (.code (.loop b) :: .blk id h.length :: ks) fr h) := rfl
def ScalarOk (d : Nat) : Prop := ∀ (L : List Int) (cols : List Cel) (ps : List Int) (kind a B : Int), (∀ c ∈ cols, CelOk c) → cols.length ≤ 1000 → ps.length ≤ 1000 → Gd L a B → bT d ≤ B →
  ∃ e a', R K (.call 96 [.ptr 0 0, I kind, colsC cols, LR ps, I (d : Int)] (St L a)) = some (.agg (exC e), St L a') ∧ a ≤ a' ∧ a' ≤ a + bT d ∧ exN e ≤ bN d ∧ exB e
abbrev Env (L : List Int) (a : Int) (cols : List Cel) (ps : List Int) (d : Int) : Heap := [.cells [.ptr 4 0], .cells [colsC cols], .cells [LR ps], .cells [I d], .cells [LR L, I a]]
def SubOk (f : Nat) (d : Nat) : Prop := ∀ (L : List Int) (cols : List Cel) (ps : List Int) (kind a B : Int), (∀ c ∈ cols, CelOk c) → cols.length ≤ 1000 → ps.length ≤ 1000 → Gd L a B → bT d ≤ B →
  ∃ e a', R K (.call f [I kind, .ptr 0 0, .ptr 1 0, .ptr 2 0, .ptr 3 0] (Env L a cols ps ((d + 1 : Nat) : Int))) = some (.agg (exC e), Env L a' cols ps ((d + 1 : Nat) : Int)) ∧ a ≤ a' ∧ a' ≤ a + bT d ∧ exN e ≤ bN d ∧ exB e
theorem sub_Scalar {d : Nat} (hd : d ≤ 1000) (h : ScalarOk d) : SubOk 148 d := by
  intro L cols ps kind a B hco hc hp hG hB
  obtain ⟨e, a', x, q1, q2, q3⟩ := h L cols ps kind a B hco hc hp hG hB
  have w : wrapI .i64 (((d + 1 : Nat) : Int) - 1) = (d : Int) := by rw [wrap_id (by omega) (by omega)]; omega
  refine ⟨e, a', ?_, q1, q2, q3⟩
  rw [call_148]
  simp -implicitDefEqProofs only [go_sem, simprocAttr, Tryz.f148, w, x]
theorem sub_truth {d : Nat} (hd : d ≤ 1000) (h : ScalarOk d) : SubOk 208 d := by
  intro L cols ps kind a B hco hc hp hG hB
  obtain ⟨e, a', x, q1, q2, q3⟩ := h L cols ps kind a B hco hc hp hG hB
  have w : wrapI .i64 (((d + 1 : Nat) : Int) - 1) = (d : Int) := by rw [wrap_id (by omega) (by omega)]; omega
  refine ⟨e, a', ?_, q1, q2, q3⟩
  rw [call_208]
  simp -implicitDefEqProofs only [go_sem, simprocAttr, Tryz.f208, w, x]
theorem sub_number {d : Nat} (hd : d ≤ 1000) (h : ScalarOk d) : SubOk 209 d := by
  intro L cols ps kind a B hco hc hp hG hB
  obtain ⟨e, a', x, q1, q2, q3⟩ := h L cols ps kind a B hco hc hp hG hB
  have w : wrapI .i64 (((d + 1 : Nat) : Int) - 1) = (d : Int) := by rw [wrap_id (by omega) (by omega)]; omega
  refine ⟨e, a', ?_, q1, q2, q3⟩
  rw [call_209]
  simp -implicitDefEqProofs only [go_sem, simprocAttr, Tryz.f209, w, x]
theorem g_truth {d : Nat} (hd : d ≤ 1000) (hS : SubOk 208 d) (L : List Int) (cols : List Cel) (ps : List Int) (a B : Int) (hco : ∀ c ∈ cols, CelOk c) (hc : cols.length ≤ 1000) (hp : ps.length ≤ 1000) (hG : Gd L a B) (hB : 4 * bT d + 5 ≤ B) :
    ∃ e a', R K (.call 150 [.ptr 0 0, colsC cols, LR ps, I ((d + 1 : Nat) : Int)] (St L a)) = some (.agg (exC e), St L a') ∧ a ≤ a' ∧ a' ≤ a + (4 * bT d + 5) ∧ exN e ≤ 1 + 4 * bN d ∧ exB e := by
  have hT := bT_pos d
  have x0 := g_Next hG (by omega) 8
  by_cases c0 : nextS L a 8 = 0
  · have c0' : (nextS L a 8 == 0) = true := by simp [c0]
    obtain ⟨e1, a1, x1, q1, r1, s1, t1⟩ := hS L cols ps 1 (a + 1) _ hco hc hp (hG.step (a + 1) (bT d) (by omega) (by omega)) (by omega)
    have gO := g_Oper 1 [e1]
    simp only [exR] at gO
    refine ⟨.mk 4 1 0 null [] [] false [e1], a1, ?_, by omega, by omega, by simp only [exN, exNs]; omega, by simp only [exB, exBs]; exact ⟨Nat.zero_le _, Nat.zero_le _, t1, trivial⟩⟩
    rw [call_150]
    simp -implicitDefEqProofs only [go_sem, simprocAttr, Tryz.f150, x0, c0', x1, gO]
    all_goals rfl
  have b0 : (nextS L a 8 == 0) = false := by simpa using c0
  by_cases c1 : nextS L a 8 = 1
  · have c1' : (nextS L a 8 == 1) = true := by simp [c1]
    obtain ⟨p, _, hp0⟩ := g_Pick (hG.step (a + 1) 1 (by omega) (by omega)) (by omega) [2, 3] (by decide) (by decide)
    simp only [List.map] at hp0
    obtain ⟨e1, a1, x1, q1, r1, s1, t1⟩ := hS L cols ps 1 (a + 1 + 1) _ hco hc hp (hG.step (a + 1 + 1) (bT d) (by omega) (by omega)) (by omega)
    obtain ⟨e2, a2, x2, q2, r2, s2, t2⟩ := hS L cols ps 1 a1 _ hco hc hp (hG.step a1 (bT d) (by omega) (by omega)) (by omega)
    have gO := g_Oper p [e1, e2]
    simp only [exR] at gO
    refine ⟨.mk 4 p 0 null [] [] false [e1, e2], a2, ?_, by omega, by omega, by simp only [exN, exNs]; omega, by simp only [exB, exBs]; exact ⟨Nat.zero_le _, Nat.zero_le _, t1, t2, trivial⟩⟩
    rw [call_150]
    simp -implicitDefEqProofs only [go_sem, simprocAttr, Tryz.f150, x0, b0, c1', hp0, x1, x2, gO]
    all_goals rfl
  have b1 : (nextS L a 8 == 1) = false := by simpa using c1
  by_cases c2 : nextS L a 8 = 2
  · have c2' : (nextS L a 8 == 2) = true := by simp [c2]
    obtain ⟨p, _, hp0⟩ := g_Pick (hG.step (a + 1) 1 (by omega) (by omega)) (by omega) [2, 3] (by decide) (by decide)
    simp only [List.map] at hp0
    obtain ⟨e1, a1, x1, q1, r1, s1, t1⟩ := hS L cols ps 1 (a + 1 + 1) _ hco hc hp (hG.step (a + 1 + 1) (bT d) (by omega) (by omega)) (by omega)
    obtain ⟨e2, a2, x2, q2, r2, s2, t2⟩ := hS L cols ps 1 a1 _ hco hc hp (hG.step a1 (bT d) (by omega) (by omega)) (by omega)
    have gO := g_Oper p [e1, e2]
    simp only [exR] at gO
    refine ⟨.mk 4 p 0 null [] [] false [e1, e2], a2, ?_, by omega, by omega, by simp only [exN, exNs]; omega, by simp only [exB, exBs]; exact ⟨Nat.zero_le _, Nat.zero_le _, t1, t2, trivial⟩⟩
    rw [call_150]
    simp -implicitDefEqProofs only [go_sem, simprocAttr, Tryz.f150, x0, b0, b1, c2', hp0, x1, x2, gO]
    all_goals rfl
  have b2 : (nextS L a 8 == 2) = false := by simpa using c2
  by_cases c3 : nextS L a 8 = 3
  · have c3' : (nextS L a 8 == 3) = true := by simp [c3]
    have y1 := g_Kind (hG.step (a + 1) 1 (by omega) (by omega)) (by omega)
    obtain ⟨e1, a1, x1, q1, r1, s1, t1⟩ := hS L cols ps (rngS L (a + 1) 1 4) (a + 1 + 1) _ hco hc hp (hG.step (a + 1 + 1) (bT d) (by omega) (by omega)) (by omega)
    have gO := g_Oper 11 [e1]
    simp only [exR] at gO
    refine ⟨.mk 4 11 0 null [] [] false [e1], a1, ?_, by omega, by omega, by simp only [exN, exNs]; omega, by simp only [exB, exBs]; exact ⟨Nat.zero_le _, Nat.zero_le _, t1, trivial⟩⟩
    rw [call_150]
    simp -implicitDefEqProofs only [go_sem, simprocAttr, Tryz.f150, x0, b0, b1, b2, c3', y1, x1, gO]
    all_goals rfl
  have b3 : (nextS L a 8 == 3) = false := by simpa using c3
  by_cases c4 : nextS L a 8 = 4
  · have c4' : (nextS L a 8 == 4) = true := by simp [c4]
    obtain ⟨e1, a1, x1, q1, r1, s1, t1⟩ := hS L cols ps 3 (a + 1) _ hco hc hp (hG.step (a + 1) (bT d) (by omega) (by omega)) (by omega)
    obtain ⟨e2, a2, x2, q2, r2, s2, t2⟩ := hS L cols ps 3 a1 _ hco hc hp (hG.step a1 (bT d) (by omega) (by omega)) (by omega)
    have gO := g_Oper 19 [e1, e2]
    simp only [exR] at gO
    refine ⟨.mk 4 19 0 null [] [] false [e1, e2], a2, ?_, by omega, by omega, by simp only [exN, exNs]; omega, by simp only [exB, exBs]; exact ⟨Nat.zero_le _, Nat.zero_le _, t1, t2, trivial⟩⟩
    rw [call_150]
    simp -implicitDefEqProofs only [go_sem, simprocAttr, Tryz.f150, x0, b0, b1, b2, b3, c4', x1, x2, gO]
    all_goals rfl
  have b4 : (nextS L a 8 == 4) = false := by simpa using c4
  by_cases c5 : nextS L a 8 = 5
  · have c5' : (nextS L a 8 == 5) = true := by simp [c5]
    have y1 := g_Kind (hG.step (a + 1) 1 (by omega) (by omega)) (by omega)
    obtain ⟨e1, a1, x1, q1, r1, s1, t1⟩ := hS L cols ps (rngS L (a + 1) 1 4) (a + 1 + 1) _ hco hc hp (hG.step (a + 1 + 1) (bT d) (by omega) (by omega)) (by omega)
    have y2 := g_Range (hG.step a1 1 (by omega) (by omega)) (by omega) 1 3 (by omega) (by omega) (by omega)
    have yb := range_bounds L a1 1 3 (by omega) (by omega)
    have hcs : rngS L a1 1 3 = 1 ∨ rngS L a1 1 3 = 2 ∨ rngS L a1 1 3 = 3 := by omega
    obtain ⟨e2, a2, x2, q2, r2, s2, t2⟩ := hS L cols ps (rngS L (a + 1) 1 4) (a1 + 1) _ hco hc hp (hG.step (a1 + 1) (bT d) (by omega) (by omega)) (by omega)
    rcases hcs with hn | hn | hn
    · rw [hn] at y2
      refine ⟨.mk 6 0 0 null [] [] false [e1, e2], a2, ?_, by omega, by omega, by simp only [exN, exNs]; omega, by simp only [exB, exBs]; exact ⟨Nat.zero_le _, Nat.zero_le _, t1, t2, trivial⟩⟩
      rw [call_150]
      simp -implicitDefEqProofs only [go_sem, simprocAttr, Tryz.f150, x0, b0, b1, b2, b3, b4, c5', y1, y2, small_room, block_plain, R_loop, R_lpn, x1, x2]
      all_goals rfl
    · rw [hn] at y2
      obtain ⟨e3, a3, x3, q3, r3, s3, t3⟩ := hS L cols ps (rngS L (a + 1) 1 4) a2 _ hco hc hp (hG.step a2 (bT d) (by omega) (by omega)) (by omega)
      refine ⟨.mk 6 0 0 null [] [] false [e1, e2, e3], a3, ?_, by omega, by omega, by simp only [exN, exNs]; omega, by simp only [exB, exBs]; exact ⟨Nat.zero_le _, Nat.zero_le _, t1, t2, t3, trivial⟩⟩
      rw [call_150]
      simp -implicitDefEqProofs only [go_sem, simprocAttr, Tryz.f150, x0, b0, b1, b2, b3, b4, c5', y1, y2, small_room, block_plain, R_loop, R_lpn, x1, x2, x3]
      all_goals rfl
    · rw [hn] at y2
      obtain ⟨e3, a3, x3, q3, r3, s3, t3⟩ := hS L cols ps (rngS L (a + 1) 1 4) a2 _ hco hc hp (hG.step a2 (bT d) (by omega) (by omega)) (by omega)
      obtain ⟨e4, a4, x4, q4, r4, s4, t4⟩ := hS L cols ps (rngS L (a + 1) 1 4) a3 _ hco hc hp (hG.step a3 (bT d) (by omega) (by omega)) (by omega)
      refine ⟨.mk 6 0 0 null [] [] false [e1, e2, e3, e4], a4, ?_, by omega, by omega, by simp only [exN, exNs]; omega, by simp only [exB, exBs]; exact ⟨Nat.zero_le _, Nat.zero_le _, t1, t2, t3, t4, trivial⟩⟩
      rw [call_150]
      simp -implicitDefEqProofs only [go_sem, simprocAttr, Tryz.f150, x0, b0, b1, b2, b3, b4, c5', y1, y2, small_room, block_plain, R_loop, R_lpn, x1, x2, x3, x4]
      all_goals rfl
  have b5 : (nextS L a 8 == 5) = false := by simpa using c5
  · have y1 := g_Kind (hG.step (a + 1) 1 (by omega) (by omega)) (by omega)
    have y2 := g_Range (hG.step (a + 1 + 1) 1 (by omega) (by omega)) (by omega) 4 10 (by omega) (by omega) (by omega)
    obtain ⟨e1, a1, x1, q1, r1, s1, t1⟩ := hS L cols ps (rngS L (a + 1) 1 4) (a + 1 + 1 + 1) _ hco hc hp (hG.step (a + 1 + 1 + 1) (bT d) (by omega) (by omega)) (by omega)
    obtain ⟨e2, a2, x2, q2, r2, s2, t2⟩ := hS L cols ps (rngS L (a + 1) 1 4) a1 _ hco hc hp (hG.step a1 (bT d) (by omega) (by omega)) (by omega)
    have gO := g_Oper (rngS L (a + 1 + 1) 4 10) [e1, e2]
    simp only [exR] at gO
    refine ⟨.mk 4 (rngS L (a + 1 + 1) 4 10) 0 null [] [] false [e1, e2], a2, ?_, by omega, by omega, by simp only [exN, exNs]; omega, by simp only [exB, exBs]; exact ⟨Nat.zero_le _, Nat.zero_le _, t1, t2, trivial⟩⟩
    rw [call_150]
    simp -implicitDefEqProofs only [go_sem, simprocAttr, Tryz.f150, x0, b0, b1, b2, b3, b4, b5, y1, y2, x1, x2, gO]
    all_goals rfl
theorem g_number {d : Nat} (hd : d ≤ 1000) (hS : SubOk 209 d) (L : List Int) (cols : List Cel) (ps : List Int) (a B : Int) (hco : ∀ c ∈ cols, CelOk c) (hc : cols.length ≤ 1000) (hp : ps.length ≤ 1000) (hG : Gd L a B) (hB : 4 * bT d + 5 ≤ B) :
    ∃ e a', R K (.call 151 [.ptr 0 0, colsC cols, LR ps, I ((d + 1 : Nat) : Int)] (St L a)) = some (.agg (exC e), St L a') ∧ a ≤ a' ∧ a' ≤ a + (4 * bT d + 5) ∧ exN e ≤ 1 + 4 * bN d ∧ exB e := by
  have hT := bT_pos d
  have x0 := g_Next hG (by omega) 6
  by_cases c0 : nextS L a 6 = 0
  · have c0' : (nextS L a 6 == 0) = true := by simp [c0]
    obtain ⟨e1, a1, x1, q1, r1, s1, t1⟩ := hS L cols ps 2 (a + 1) _ hco hc hp (hG.step (a + 1) (bT d) (by omega) (by omega)) (by omega)
    have gO := g_Oper 17 [e1]
    simp only [exR] at gO
    refine ⟨.mk 4 17 0 null [] [] false [e1], a1, ?_, by omega, by omega, by simp only [exN, exNs]; omega, by simp only [exB, exBs]; exact ⟨Nat.zero_le _, Nat.zero_le _, t1, trivial⟩⟩
    rw [call_151]
    simp -implicitDefEqProofs only [go_sem, simprocAttr, Tryz.f151, x0, c0', x1, gO]
    all_goals rfl
  have b0 : (nextS L a 6 == 0) = false := by simpa using c0
  by_cases c1 : nextS L a 6 = 1
  · have c1' : (nextS L a 6 == 1) = true := by simp [c1]
    obtain ⟨e1, a1, x1, q1, r1, s1, t1⟩ := hS L cols ps 3 (a + 1) _ hco hc hp (hG.step (a + 1) (bT d) (by omega) (by omega)) (by omega)
    have gO := g_Oper 22 [e1]
    simp only [exR] at gO
    refine ⟨.mk 4 22 0 null [] [] false [e1], a1, ?_, by omega, by omega, by simp only [exN, exNs]; omega, by simp only [exB, exBs]; exact ⟨Nat.zero_le _, Nat.zero_le _, t1, trivial⟩⟩
    rw [call_151]
    simp -implicitDefEqProofs only [go_sem, simprocAttr, Tryz.f151, x0, b0, c1', x1, gO]
    all_goals rfl
  have b1 : (nextS L a 6 == 1) = false := by simpa using c1
  by_cases c2 : nextS L a 6 = 2
  · have c2' : (nextS L a 6 == 2) = true := by simp [c2]
    obtain ⟨e1, a1, x1, q1, r1, s1, t1⟩ := hS L cols ps 4 (a + 1) _ hco hc hp (hG.step (a + 1) (bT d) (by omega) (by omega)) (by omega)
    have gO := g_Oper 26 [e1]
    simp only [exR] at gO
    have y2 := g_Range (hG.step a1 1 (by omega) (by omega)) (by omega) 1 6 (by omega) (by omega) (by omega)
    refine ⟨.mk 4 26 (rngS L a1 1 6) null [] [] false [e1], (a1 + 1), ?_, by omega, by omega, by simp only [exN, exNs]; omega, by simp only [exB, exBs]; exact ⟨Nat.zero_le _, Nat.zero_le _, t1, trivial⟩⟩
    rw [call_151]
    simp -implicitDefEqProofs only [go_sem, simprocAttr, Tryz.f151, x0, b0, b1, c2', x1, gO, exC, y2]
    all_goals rfl
  have b2 : (nextS L a 6 == 2) = false := by simpa using c2
  by_cases c3 : nextS L a 6 = 3
  · have c3' : (nextS L a 6 == 3) = true := by simp [c3]
    obtain ⟨e1, a1, x1, q1, r1, s1, t1⟩ := hS L cols ps 4 (a + 1) _ hco hc hp (hG.step (a + 1) (bT d) (by omega) (by omega)) (by omega)
    obtain ⟨e2, a2, x2, q2, r2, s2, t2⟩ := hS L cols ps 4 a1 _ hco hc hp (hG.step a1 (bT d) (by omega) (by omega)) (by omega)
    have gO := g_Oper 13 [e1, e2]
    simp only [exR] at gO
    refine ⟨.mk 4 13 0 null [] [] false [e1, e2], a2, ?_, by omega, by omega, by simp only [exN, exNs]; omega, by simp only [exB, exBs]; exact ⟨Nat.zero_le _, Nat.zero_le _, t1, t2, trivial⟩⟩
    rw [call_151]
    simp -implicitDefEqProofs only [go_sem, simprocAttr, Tryz.f151, x0, b0, b1, b2, c3', x1, x2, gO]
    all_goals rfl
  have b3 : (nextS L a 6 == 3) = false := by simpa using c3
  · have y2 := g_Range (hG.step (a + 1) 1 (by omega) (by omega)) (by omega) 12 16 (by omega) (by omega) (by omega)
    obtain ⟨e1, a1, x1, q1, r1, s1, t1⟩ := hS L cols ps 2 (a + 1 + 1) _ hco hc hp (hG.step (a + 1 + 1) (bT d) (by omega) (by omega)) (by omega)
    obtain ⟨e2, a2, x2, q2, r2, s2, t2⟩ := hS L cols ps 2 a1 _ hco hc hp (hG.step a1 (bT d) (by omega) (by omega)) (by omega)
    have gO := g_Oper (rngS L (a + 1) 12 16) [e1, e2]
    simp only [exR] at gO
    refine ⟨.mk 4 (rngS L (a + 1) 12 16) 0 null [] [] false [e1, e2], a2, ?_, by omega, by omega, by simp only [exN, exNs]; omega, by simp only [exB, exBs]; exact ⟨Nat.zero_le _, Nat.zero_le _, t1, t2, trivial⟩⟩
    rw [call_151]
    simp -implicitDefEqProofs only [go_sem, simprocAttr, Tryz.f151, x0, b0, b1, b2, b3, y2, x1, x2, gO]
    all_goals rfl
theorem g_Scalar0 : ScalarOk 0 := by
  intro L cols ps kind a B hco hc hp hG hB
  simp only [bT] at hB
  obtain ⟨e, a', x, q1, q2, q3, q4⟩ := g_leaf hG (by omega) kind cols ps hco hc hp
  refine ⟨e, a', ?_, q1, by simp only [bT]; omega, by simpa [bN] using q3, q4⟩
  rw [call_96]
  simp -implicitDefEqProofs only [go_sem, simprocAttr, Tryz.f96, x, Int.cast_ofNat_Int]
theorem g_Scalar1 {d : Nat} (hd : d ≤ 1000) (hS : SubOk 148 d) (hT : SubOk 208 d) (hN : SubOk 209 d) : ScalarOk (d + 1) := by
  intro L cols ps kind a B hco hc hp hG hB
  have ht := bT_pos d
  have hn := bN_pos d
  simp only [bT] at hB ⊢
  have d0 : decide (((d + 1 : Nat) : Int) ≤ 0) = false := decide_eq_false (by omega)
  have f0 := g_Flip hG (by omega) 4
  cases hf : nextS L a 4 == 0 with
  | true =>
    rw [hf] at f0
    obtain ⟨e, a', x, q1, q2, q3, q4⟩ := g_leaf (hG.step (a + 1) (B - 1) (by omega) (by omega)) (by omega) kind cols ps hco hc hp
    refine ⟨e, a', ?_, by omega, by omega, by simp only [bN]; omega, q4⟩
    rw [call_96]
    simp -implicitDefEqProofs only [go_sem, simprocAttr, Tryz.f96, d0, f0, x]
  | false =>
    rw [hf] at f0
    have x0 := g_Next (hG.step (a + 1) (B - 1) (by omega) (by omega)) (by omega) 7
    by_cases c0 : nextS L (a + 1) 7 = 0
    · have c0' : (nextS L (a + 1) 7 == 0) = true := by simp [c0]
      have y1 := g_Range (hG.step (a + 1 + 1) 1 (by omega) (by omega)) (by omega) 1 2 (by omega) (by omega) (by omega)
      have yb := range_bounds L (a + 1 + 1) 1 2 (by omega) (by omega)
      have hcs : rngS L (a + 1 + 1) 1 2 = 1 ∨ rngS L (a + 1 + 1) 1 2 = 2 := by omega
      obtain ⟨e1, a1, x1, q1, r1, s1, t1⟩ := hS L cols ps 1 (a + 1 + 1 + 1) _ hco hc hp (hG.step (a + 1 + 1 + 1) (bT d) (by omega) (by omega)) (by omega)
      obtain ⟨e2, a2, x2, q2, r2, s2, t2⟩ := hS L cols ps kind a1 _ hco hc hp (hG.step a1 (bT d) (by omega) (by omega)) (by omega)
      rcases hcs with hn1 | hn1
      · rw [hn1] at y1
        obtain ⟨e3, a3, x3, q3, r3, s3, t3⟩ := hS L cols ps kind a2 _ hco hc hp (hG.step a2 (bT d) (by omega) (by omega)) (by omega)
        refine ⟨.mk 5 0 0 null [] [] false [e1, e2, e3], a3, ?_, by omega, by omega, by simp only [exN, exNs, bN]; omega, by simp only [exB, exBs]; exact ⟨Nat.zero_le _, Nat.zero_le _, t1, t2, t3, trivial⟩⟩
        rw [call_96]
        simp -implicitDefEqProofs only [go_sem, simprocAttr, Tryz.f96, d0, f0, x0, c0', y1, x1, x2, x3, small_room]
        rw [RL_eq]
        simp -implicitDefEqProofs only [go_sem, simprocAttr, d0, f0, x0, c0', y1, x1, x2, x3, small_room]
        rw [RL_eq]
        simp -implicitDefEqProofs only [go_sem, simprocAttr, d0, f0, x0, c0', y1, x1, x2, x3, small_room]
        all_goals rfl
      · rw [hn1] at y1
        obtain ⟨e3, a3, x3, q3, r3, s3, t3⟩ := hS L cols ps 1 a2 _ hco hc hp (hG.step a2 (bT d) (by omega) (by omega)) (by omega)
        obtain ⟨e4, a4, x4, q4, r4, s4, t4⟩ := hS L cols ps kind a3 _ hco hc hp (hG.step a3 (bT d) (by omega) (by omega)) (by omega)
        obtain ⟨e5, a5, x5, q5, r5, s5, t5⟩ := hS L cols ps kind a4 _ hco hc hp (hG.step a4 (bT d) (by omega) (by omega)) (by omega)
        refine ⟨.mk 5 0 0 null [] [] false [e1, e2, e3, e4, e5], a5, ?_, by omega, by omega, by simp only [exN, exNs, bN]; omega, by simp only [exB, exBs]; exact ⟨Nat.zero_le _, Nat.zero_le _, t1, t2, t3, t4, t5, trivial⟩⟩
        rw [call_96]
        simp -implicitDefEqProofs only [go_sem, simprocAttr, Tryz.f96, d0, f0, x0, c0', y1, x1, x2, x3, x4, x5, small_room]
        rw [RL_eq]
        simp -implicitDefEqProofs only [go_sem, simprocAttr, d0, f0, x0, c0', y1, x1, x2, x3, x4, x5, small_room]
        rw [RL_eq]
        simp -implicitDefEqProofs only [go_sem, simprocAttr, d0, f0, x0, c0', y1, x1, x2, x3, x4, x5, small_room]
        rw [RL_eq]
        simp -implicitDefEqProofs only [go_sem, simprocAttr, d0, f0, x0, c0', y1, x1, x2, x3, x4, x5, small_room]
        all_goals rfl
    have b0 : (nextS L (a + 1) 7 == 0) = false := by simpa using c0
    by_cases c1 : nextS L (a + 1) 7 = 1
    · have c1' : (nextS L (a + 1) 7 == 1) = true := by simp [c1]
      obtain ⟨e1, a1, x1, q1, r1, s1, t1⟩ := hS L cols ps kind (a + 1 + 1) _ hco hc hp (hG.step (a + 1 + 1) (bT d) (by omega) (by omega)) (by omega)
      obtain ⟨e2, a2, x2, q2, r2, s2, t2⟩ := hS L cols ps kind a1 _ hco hc hp (hG.step a1 (bT d) (by omega) (by omega)) (by omega)
      have gO := g_Oper 24 [e1, e2]
      simp only [exR] at gO
      refine ⟨.mk 4 24 0 null [] [] false [e1, e2], a2, ?_, by omega, by omega, by simp only [exN, exNs, bN]; omega, by simp only [exB, exBs]; exact ⟨Nat.zero_le _, Nat.zero_le _, t1, t2, trivial⟩⟩
      rw [call_96]
      simp -implicitDefEqProofs only [go_sem, simprocAttr, Tryz.f96, d0, f0, x0, b0, c1', x1, x2, gO]
      all_goals rfl
    have b1 : (nextS L (a + 1) 7 == 1) = false := by simpa using c1
    by_cases c2 : nextS L (a + 1) 7 = 2
    · have c2' : (nextS L (a + 1) 7 == 2) = true := by simp [c2]
      have y1 := g_Kind (hG.step (a + 1 + 1) 1 (by omega) (by omega)) (by omega)
      have y2 := r_CanCast (rngS L (a + 1 + 1) 1 4) kind
      cases hcan : canS (rngS L (a + 1 + 1) 1 4) kind with
      | true =>
        rw [hcan] at y2
        obtain ⟨e1, a1, x1, q1, r1, s1, t1⟩ := hS L cols ps (rngS L (a + 1 + 1) 1 4) (a + 1 + 1 + 1) _ hco hc hp (hG.step (a + 1 + 1 + 1) (bT d) (by omega) (by omega)) (by omega)
        have gO := g_Oper 27 [e1]
        simp only [exR] at gO
        refine ⟨.mk 4 27 kind null [] [] false [e1], a1, ?_, by omega, by omega, by simp only [exN, exNs, bN]; omega, by simp only [exB, exBs]; exact ⟨Nat.zero_le _, Nat.zero_le _, t1, trivial⟩⟩
        rw [call_96]
        simp -implicitDefEqProofs only [go_sem, simprocAttr, Tryz.f96, d0, f0, x0, b0, b1, c2', y1, y2, x1, gO, exC]
        all_goals rfl
      | false =>
        rw [hcan] at y2
        by_cases k1 : kind = 1
        · subst k1
          obtain ⟨e, a', x, q1, q2, q3, q4⟩ := g_truth hd hT L cols ps (a + 1 + 1 + 1) (B - 3) hco hc hp (hG.step (a + 1 + 1 + 1) (B - 3) (by omega) (by omega)) (by omega)
          refine ⟨e, a', ?_, by omega, by omega, by simp only [bN]; omega, q4⟩
          rw [call_96]
          simp -implicitDefEqProofs only [go_sem, simprocAttr, Tryz.f96, d0, f0, x0, b0, b1, c2', y1, y2, x]
          all_goals rfl
        have kb1 : (kind == 1) = false := by simpa using k1
        by_cases k2 : kind = 2
        · subst k2
          obtain ⟨e, a', x, q1, q2, q3, q4⟩ := g_number hd hN L cols ps (a + 1 + 1 + 1) (B - 3) hco hc hp (hG.step (a + 1 + 1 + 1) (B - 3) (by omega) (by omega)) (by omega)
          refine ⟨e, a', ?_, by omega, by omega, by simp only [bN]; omega, q4⟩
          rw [call_96]
          simp -implicitDefEqProofs only [go_sem, simprocAttr, Tryz.f96, d0, f0, x0, b0, b1, c2', y1, y2, x]
          all_goals rfl
        have kb2 : (kind == 2) = false := by simpa using k2
        by_cases k3 : kind = 3
        · subst k3
          have z0 := g_Next (hG.step (a + 1 + 1 + 1) 1 (by omega) (by omega)) (by omega) 4
          by_cases m0 : nextS L (a + 1 + 1 + 1) 4 = 0
          · have m0' : (nextS L (a + 1 + 1 + 1) 4 == 0) = true := by simp [m0]
            obtain ⟨pk, _, hp0⟩ := g_Pick (hG.step ((a + 1 + 1 + 1) + 1) 1 (by omega) (by omega)) (by omega) [20, 21] (by decide) (by decide)
            simp only [List.map] at hp0
            obtain ⟨e1, a1, x1, q1, r1, s1, t1⟩ := hS L cols ps 3 ((a + 1 + 1 + 1) + 1 + 1) _ hco hc hp (hG.step ((a + 1 + 1 + 1) + 1 + 1) (bT d) (by omega) (by omega)) (by omega)
            have gO := g_Oper pk [e1]
            simp only [exR] at gO
            refine ⟨.mk 4 pk 0 null [] [] false [e1], a1, ?_, by omega, by omega, by simp only [exN, exNs, bN]; omega, by simp only [exB, exBs]; exact ⟨Nat.zero_le _, Nat.zero_le _, t1, trivial⟩⟩
            rw [call_96]
            simp -implicitDefEqProofs only [go_sem, simprocAttr, Tryz.f96, d0, f0, x0, b0, b1, c2', y1, y2, z0, m0', hp0, x1, gO]
            all_goals rfl
          have mb0 : (nextS L (a + 1 + 1 + 1) 4 == 0) = false := by simpa using m0
          by_cases m1 : nextS L (a + 1 + 1 + 1) 4 = 1
          · have m1' : (nextS L (a + 1 + 1 + 1) 4 == 1) = true := by simp [m1]
            obtain ⟨e1, a1, x1, q1, r1, s1, t1⟩ := hS L cols ps 3 ((a + 1 + 1 + 1) + 1) _ hco hc hp (hG.step ((a + 1 + 1 + 1) + 1) (bT d) (by omega) (by omega)) (by omega)
            obtain ⟨e2, a2, x2, q2, r2, s2, t2⟩ := hS L cols ps 2 a1 _ hco hc hp (hG.step a1 (bT d) (by omega) (by omega)) (by omega)
            obtain ⟨e3, a3, x3, q3, r3, s3, t3⟩ := hS L cols ps 2 a2 _ hco hc hp (hG.step a2 (bT d) (by omega) (by omega)) (by omega)
            have gO := g_Oper 23 [e1, e2, e3]
            simp only [exR] at gO
            refine ⟨.mk 4 23 0 null [] [] false [e1, e2, e3], a3, ?_, by omega, by omega, by simp only [exN, exNs, bN]; omega, by simp only [exB, exBs]; exact ⟨Nat.zero_le _, Nat.zero_le _, t1, t2, t3, trivial⟩⟩
            rw [call_96]
            simp -implicitDefEqProofs only [go_sem, simprocAttr, Tryz.f96, d0, f0, x0, b0, b1, c2', y1, y2, z0, mb0, m1', x1, x2, x3, gO]
            all_goals rfl
          have mb1 : (nextS L (a + 1 + 1 + 1) 4 == 1) = false := by simpa using m1
          obtain ⟨e1, a1, x1, q1, r1, s1, t1⟩ := hS L cols ps 3 ((a + 1 + 1 + 1) + 1) _ hco hc hp (hG.step ((a + 1 + 1 + 1) + 1) (bT d) (by omega) (by omega)) (by omega)
          obtain ⟨e2, a2, x2, q2, r2, s2, t2⟩ := hS L cols ps 3 a1 _ hco hc hp (hG.step a1 (bT d) (by omega) (by omega)) (by omega)
          have gO := g_Oper 18 [e1, e2]
          simp only [exR] at gO
          refine ⟨.mk 4 18 0 null [] [] false [e1, e2], a2, ?_, by omega, by omega, by simp only [exN, exNs, bN]; omega, by simp only [exB, exBs]; exact ⟨Nat.zero_le _, Nat.zero_le _, t1, t2, trivial⟩⟩
          rw [call_96]
          simp -implicitDefEqProofs only [go_sem, simprocAttr, Tryz.f96, d0, f0, x0, b0, b1, c2', y1, y2, z0, mb0, mb1, x1, x2, gO]
          all_goals rfl
        have kb3 : (kind == 3) = false := by simpa using k3
        have z0 := g_Flip (hG.step (a + 1 + 1 + 1) 1 (by omega) (by omega)) (by omega) 2
        cases hz : nextS L (a + 1 + 1 + 1) 2 == 0 with
        | true =>
          rw [hz] at z0
          obtain ⟨pk, _, hp0⟩ := g_Pick (hG.step ((a + 1 + 1 + 1) + 1) 1 (by omega) (by omega)) (by omega) [12, 13] (by decide) (by decide)
          simp only [List.map] at hp0
          obtain ⟨e1, a1, x1, q1, r1, s1, t1⟩ := hS L cols ps 4 ((a + 1 + 1 + 1) + 1 + 1) _ hco hc hp (hG.step ((a + 1 + 1 + 1) + 1 + 1) (bT d) (by omega) (by omega)) (by omega)
          obtain ⟨e2, a2, x2, q2, r2, s2, t2⟩ := hS L cols ps 2 a1 _ hco hc hp (hG.step a1 (bT d) (by omega) (by omega)) (by omega)
          have gO := g_Oper pk [e1, e2]
          simp only [exR] at gO
          refine ⟨.mk 4 pk 0 null [] [] false [e1, e2], a2, ?_, by omega, by omega, by simp only [exN, exNs, bN]; omega, by simp only [exB, exBs]; exact ⟨Nat.zero_le _, Nat.zero_le _, t1, t2, trivial⟩⟩
          rw [call_96]
          simp -implicitDefEqProofs only [go_sem, simprocAttr, Tryz.f96, d0, f0, x0, b0, b1, c2', y1, y2, kb1, kb2, kb3, z0, hp0, x1, x2, gO]
          all_goals rfl
        | false =>
          rw [hz] at z0
          obtain ⟨e1, a1, x1, q1, r1, s1, t1⟩ := hS L cols ps 4 ((a + 1 + 1 + 1) + 1) _ hco hc hp (hG.step ((a + 1 + 1 + 1) + 1) (bT d) (by omega) (by omega)) (by omega)
          have gO := g_Oper 25 [e1]
          simp only [exR] at gO
          have w2 := g_Range (hG.step a1 1 (by omega) (by omega)) (by omega) 1 6 (by omega) (by omega) (by omega)
          refine ⟨.mk 4 25 (rngS L a1 1 6) null [] [] false [e1], (a1 + 1), ?_, by omega, by omega, by simp only [exN, exNs, bN]; omega, by simp only [exB, exBs]; exact ⟨Nat.zero_le _, Nat.zero_le _, t1, trivial⟩⟩
          rw [call_96]
          simp -implicitDefEqProofs only [go_sem, simprocAttr, Tryz.f96, d0, f0, x0, b0, b1, c2', y1, y2, kb1, kb2, kb3, z0, x1, gO, exC, w2]
          all_goals rfl
    have b2 : (nextS L (a + 1) 7 == 2) = false := by simpa using c2
    by_cases k1 : kind = 1
    · subst k1
      obtain ⟨e, a', x, q1, q2, q3, q4⟩ := g_truth hd hT L cols ps (a + 1 + 1) (B - 3) hco hc hp (hG.step (a + 1 + 1) (B - 3) (by omega) (by omega)) (by omega)
      refine ⟨e, a', ?_, by omega, by omega, by simp only [bN]; omega, q4⟩
      rw [call_96]
      simp -implicitDefEqProofs only [go_sem, simprocAttr, Tryz.f96, d0, f0, x0, b0, b1, b2, x]
      all_goals rfl
    have kb1 : (kind == 1) = false := by simpa using k1
    by_cases k2 : kind = 2
    · subst k2
      obtain ⟨e, a', x, q1, q2, q3, q4⟩ := g_number hd hN L cols ps (a + 1 + 1) (B - 3) hco hc hp (hG.step (a + 1 + 1) (B - 3) (by omega) (by omega)) (by omega)
      refine ⟨e, a', ?_, by omega, by omega, by simp only [bN]; omega, q4⟩
      rw [call_96]
      simp -implicitDefEqProofs only [go_sem, simprocAttr, Tryz.f96, d0, f0, x0, b0, b1, b2, x]
      all_goals rfl
    have kb2 : (kind == 2) = false := by simpa using k2
    by_cases k3 : kind = 3
    · subst k3
      have z0 := g_Next (hG.step (a + 1 + 1) 1 (by omega) (by omega)) (by omega) 4
      by_cases m0 : nextS L (a + 1 + 1) 4 = 0
      · have m0' : (nextS L (a + 1 + 1) 4 == 0) = true := by simp [m0]
        obtain ⟨pk, _, hp0⟩ := g_Pick (hG.step ((a + 1 + 1) + 1) 1 (by omega) (by omega)) (by omega) [20, 21] (by decide) (by decide)
        simp only [List.map] at hp0
        obtain ⟨e1, a1, x1, q1, r1, s1, t1⟩ := hS L cols ps 3 ((a + 1 + 1) + 1 + 1) _ hco hc hp (hG.step ((a + 1 + 1) + 1 + 1) (bT d) (by omega) (by omega)) (by omega)
        have gO := g_Oper pk [e1]
        simp only [exR] at gO
        refine ⟨.mk 4 pk 0 null [] [] false [e1], a1, ?_, by omega, by omega, by simp only [exN, exNs, bN]; omega, by simp only [exB, exBs]; exact ⟨Nat.zero_le _, Nat.zero_le _, t1, trivial⟩⟩
        rw [call_96]
        simp -implicitDefEqProofs only [go_sem, simprocAttr, Tryz.f96, d0, f0, x0, b0, b1, b2, z0, m0', hp0, x1, gO]
        all_goals rfl
      have mb0 : (nextS L (a + 1 + 1) 4 == 0) = false := by simpa using m0
      by_cases m1 : nextS L (a + 1 + 1) 4 = 1
      · have m1' : (nextS L (a + 1 + 1) 4 == 1) = true := by simp [m1]
        obtain ⟨e1, a1, x1, q1, r1, s1, t1⟩ := hS L cols ps 3 ((a + 1 + 1) + 1) _ hco hc hp (hG.step ((a + 1 + 1) + 1) (bT d) (by omega) (by omega)) (by omega)
        obtain ⟨e2, a2, x2, q2, r2, s2, t2⟩ := hS L cols ps 2 a1 _ hco hc hp (hG.step a1 (bT d) (by omega) (by omega)) (by omega)
        obtain ⟨e3, a3, x3, q3, r3, s3, t3⟩ := hS L cols ps 2 a2 _ hco hc hp (hG.step a2 (bT d) (by omega) (by omega)) (by omega)
        have gO := g_Oper 23 [e1, e2, e3]
        simp only [exR] at gO
        refine ⟨.mk 4 23 0 null [] [] false [e1, e2, e3], a3, ?_, by omega, by omega, by simp only [exN, exNs, bN]; omega, by simp only [exB, exBs]; exact ⟨Nat.zero_le _, Nat.zero_le _, t1, t2, t3, trivial⟩⟩
        rw [call_96]
        simp -implicitDefEqProofs only [go_sem, simprocAttr, Tryz.f96, d0, f0, x0, b0, b1, b2, z0, mb0, m1', x1, x2, x3, gO]
        all_goals rfl
      have mb1 : (nextS L (a + 1 + 1) 4 == 1) = false := by simpa using m1
      obtain ⟨e1, a1, x1, q1, r1, s1, t1⟩ := hS L cols ps 3 ((a + 1 + 1) + 1) _ hco hc hp (hG.step ((a + 1 + 1) + 1) (bT d) (by omega) (by omega)) (by omega)
      obtain ⟨e2, a2, x2, q2, r2, s2, t2⟩ := hS L cols ps 3 a1 _ hco hc hp (hG.step a1 (bT d) (by omega) (by omega)) (by omega)
      have gO := g_Oper 18 [e1, e2]
      simp only [exR] at gO
      refine ⟨.mk 4 18 0 null [] [] false [e1, e2], a2, ?_, by omega, by omega, by simp only [exN, exNs, bN]; omega, by simp only [exB, exBs]; exact ⟨Nat.zero_le _, Nat.zero_le _, t1, t2, trivial⟩⟩
      rw [call_96]
      simp -implicitDefEqProofs only [go_sem, simprocAttr, Tryz.f96, d0, f0, x0, b0, b1, b2, z0, mb0, mb1, x1, x2, gO]
      all_goals rfl
    have kb3 : (kind == 3) = false := by simpa using k3
    have z0 := g_Flip (hG.step (a + 1 + 1) 1 (by omega) (by omega)) (by omega) 2
    cases hz : nextS L (a + 1 + 1) 2 == 0 with
    | true =>
      rw [hz] at z0
      obtain ⟨pk, _, hp0⟩ := g_Pick (hG.step ((a + 1 + 1) + 1) 1 (by omega) (by omega)) (by omega) [12, 13] (by decide) (by decide)
      simp only [List.map] at hp0
      obtain ⟨e1, a1, x1, q1, r1, s1, t1⟩ := hS L cols ps 4 ((a + 1 + 1) + 1 + 1) _ hco hc hp (hG.step ((a + 1 + 1) + 1 + 1) (bT d) (by omega) (by omega)) (by omega)
      obtain ⟨e2, a2, x2, q2, r2, s2, t2⟩ := hS L cols ps 2 a1 _ hco hc hp (hG.step a1 (bT d) (by omega) (by omega)) (by omega)
      have gO := g_Oper pk [e1, e2]
      simp only [exR] at gO
      refine ⟨.mk 4 pk 0 null [] [] false [e1, e2], a2, ?_, by omega, by omega, by simp only [exN, exNs, bN]; omega, by simp only [exB, exBs]; exact ⟨Nat.zero_le _, Nat.zero_le _, t1, t2, trivial⟩⟩
      rw [call_96]
      simp -implicitDefEqProofs only [go_sem, simprocAttr, Tryz.f96, d0, f0, x0, b0, b1, b2, kb1, kb2, kb3, z0, hp0, x1, x2, gO]
      all_goals rfl
    | false =>
      rw [hz] at z0
      obtain ⟨e1, a1, x1, q1, r1, s1, t1⟩ := hS L cols ps 4 ((a + 1 + 1) + 1) _ hco hc hp (hG.step ((a + 1 + 1) + 1) (bT d) (by omega) (by omega)) (by omega)
      have gO := g_Oper 25 [e1]
      simp only [exR] at gO
      have w2 := g_Range (hG.step a1 1 (by omega) (by omega)) (by omega) 1 6 (by omega) (by omega) (by omega)
      refine ⟨.mk 4 25 (rngS L a1 1 6) null [] [] false [e1], (a1 + 1), ?_, by omega, by omega, by simp only [exN, exNs, bN]; omega, by simp only [exB, exBs]; exact ⟨Nat.zero_le _, Nat.zero_le _, t1, trivial⟩⟩
      rw [call_96]
      simp -implicitDefEqProofs only [go_sem, simprocAttr, Tryz.f96, d0, f0, x0, b0, b1, b2, kb1, kb2, kb3, z0, x1, gO, exC, w2]
      all_goals rfl
theorem g_Scalar : ∀ d : Nat, d ≤ 1000 → ScalarOk d
  | 0, _ => g_Scalar0
  | d + 1, h => g_Scalar1 (by omega) (sub_Scalar (by omega) (g_Scalar d (by omega))) (sub_truth (by omega) (g_Scalar d (by omega))) (sub_number (by omega) (g_Scalar d (by omega)))
theorem exR_allLen : ∀ l : List Ex, allLen 13 (exR l) = true
  | [] => rfl
  | e :: r => by simp only [exR, allLen, exR_allLen r, exC_len]; rfl
theorem exR_set : ∀ (l : List Ex) (i : Nat) (e : Ex), (exR l).set i (exC e) = exR (l.set i e)
  | [], _, _ => rfl
  | x :: r, 0, e => rfl
  | x :: r, i + 1, e => by simp only [exR, List.set_cons_succ, exR_set r i e]
theorem exNs_set {e x : Ex} {K : Nat} : ∀ (l : List Ex) (i : Nat), l[i]? = some x → exN e ≤ exN x + K → exNs (l.set i e) ≤ exNs l + K
  | [], _, h, _ => by simp at h
  | y :: r, 0, h, hk => by
    simp only [List.getElem?_cons_zero, Option.some.injEq] at h
    subst h
    simp only [List.set_cons_zero, exNs]; omega
  | y :: r, i + 1, h, hk => by
    simp only [List.getElem?_cons_succ] at h
    have := exNs_set r i h hk
    simp only [List.set_cons_succ, exNs]; omega
theorem exNs_app : ∀ a b : List Ex, exNs (a ++ b) = exNs a + exNs b
  | [], b => by simp [exNs]
  | e :: r, b => by simp only [List.cons_append, exNs, exNs_app r b]; omega
theorem exNs_drop : ∀ (l : List Ex) (n : Nat), exNs (l.drop n) ≤ exNs l
  | [], n => by simp [exNs]
  | e :: r, 0 => by simp
  | e :: r, n + 1 => by have := exNs_drop r n; simp only [List.drop_succ_cons, exNs]; omega
theorem exR_drop : ∀ (l : List Ex) (n : Nat), (exR l).drop n = exR (l.drop n)
  | [], n => by simp [exR]
  | e :: r, 0 => rfl
  | e :: r, n + 1 => by simp only [exR, List.drop_succ_cons, exR_drop r n]
section
variable {L : List Int}
theorem l_neg (c : Nat) (hc : c ≤ 100) (ks : List It) (H0 : List AV) (hH : locsL H0 = []) : ∀ (m j : Nat) (i a : Int) (e : Ex) (Bo : Code), Loop Tryz.f97 1 Bo → i = (j : Int) → c = j + m → exB e →
   ∃ e', exN e' = exN e + m ∧ exB e' ∧
   RL K (.run 97 1 (.code Bo :: .lp Bo (some ([3, 4, 100, 101], [])) 3 :: .blk 1 3 :: ks) [(3, .ptr 1 0), (4, .ptr 2 0), (100, I (c : Int)), (101, I i)] [.cells [LR L, I a], .cells (exC e), .cells H0]) =
   R K (.run 97 1 ks [(3, .ptr 1 0), (4, .ptr 2 0)] [.cells [LR L, I a], .cells (exC e'), .cells H0])
  | 0, j, i, a, e, Bo, hB, hi, hj, he => by
    subst hi
    have h1 : decide ((j : Int) < (c : Int)) = false := decide_eq_false (by omega)
    refine ⟨e, by omega, he, ?_⟩
    unfold Loop at hB
    simp -implicitDefEqProofs only [go_sem, simprocAttr, Tryz.f97, loopOf] at hB
    subst hB
    rw [RL_eq]
    simp -implicitDefEqProofs only [go_sem, simprocAttr, h1, hH]
  | m + 1, j, i, a, e, Bo, hB, hi, hj, he => by
    subst hi
    have hB' := hB
    have h1 : decide ((j : Int) < (c : Int)) = true := decide_eq_true (by omega)
    have h7 := next_id (i := j) (n := c) (by omega) (by omega)
    have gO := g_Oper 17 [e]
    simp only [exR] at gO
    obtain ⟨e', q, qb, ih⟩ := l_neg c hc ks H0 hH m (j + 1) _ a (.mk 4 17 0 null [] [] false [e]) Bo hB' rfl (by omega) (by simp only [exB, exBs]; exact ⟨Nat.zero_le _, Nat.zero_le _, he, trivial⟩)
    refine ⟨e', by rw [q]; simp only [exN, exNs]; omega, qb, ?_⟩
    unfold Loop at hB
    simp -implicitDefEqProofs only [go_sem, simprocAttr, Tryz.f97, loopOf] at hB
    subst hB
    rw [RL_eq]
    simp -implicitDefEqProofs only [go_sem, simprocAttr, h1, hH, h7, gO, splice]
    rw [ih]
theorem g_Spoiled : ∀ e : Ex, exN e ≤ 100000 → exB e → ∀ (a B : Int), Gd L a B → 40 * (exN e : Int) ≤ B → ∃ e' a', R K (.call 97 [.ptr 0 0, .agg (exC e)] (St L a)) = some (.agg (exC e'), St L a') ∧ a ≤ a' ∧ a' ≤ a + 40 * (exN e : Int) ∧ exN e' ≤ exN e + 30 ∧ exB e' := by
  refine Ex.ind fun e ih => ?_
  obtain ⟨k, op, n, v, src, nm, dd, args⟩ := e
  intro hN hbb a B hG hB
  simp only [Ex.args] at ih
  simp only [exN] at hN hB ⊢
  simp only [exB] at hbb
  obtain ⟨hb1, hb2, hb3⟩ := hbb
  have hlen := exNs_len args
  by_cases h0 : 0 < args.length
  · have d0 : decide ((0 : Int) < (args.length : Int)) = true := decide_eq_true (by omega)
    have f0 := g_Flip (hG.step a 1 (by omega) (by omega)) (by omega) 2
    cases hf : nextS L a 2 == 0 with
    | true =>
      rw [hf] at f0
      have x0 := g_Next (hG.step (a + 1) 1 (by omega) (by omega)) (by omega) (args.length : Int)
      have b0 := next_bounds L (a + 1) (args.length : Int) (by omega) (by omega)
      obtain ⟨x, hx⟩ := some_at (l := args) (i := (nextS L (a + 1) (args.length : Int)).toNat) (by omega)
      have hx2 := ex_get' hx
      have hg : at? (exR args) (nextS L (a + 1) (args.length : Int)) = some (exC x) := by
        unfold at?
        rw [if_pos b0.1]
        exact hx2
      have hxm := List.mem_of_getElem? hx
      have hxn := exN_mem hxm
      obtain ⟨e', a', r, q1, q2, q3, q4⟩ := ih x hxm (by omega) (exB_mem hb3 hxm) (a + 1 + 1) (B - 2) (hG.step _ _ (by omega) (by omega)) (by omega)
      have hset := exNs_set (e := e') args _ hx q3
      have hs : splice (exC x) 0 (exC e') = exC e' := by unfold splice; rw [exC_eq x, exC_eq e']; rfl
      have hr1 := room_small args.length (by omega)
      refine ⟨.mk k op n v src nm dd (args.set (nextS L (a + 1) (args.length : Int)).toNat e'), a', ?_, by omega, by omega, by simp only [exN]; omega, by simp only [exB]; exact ⟨hb1, hb2, exBs_set q4 _ hb3⟩⟩
      rw [call_97]
      simp -implicitDefEqProofs only [go_sem, simprocAttr, Tryz.f97, exC, d0, f0, x0, hg, hx2, r, hs, hr1, exR_len, exR_allLen, exR_set, exC_len, exC_take]
      all_goals rfl
    | false =>
      rw [hf] at f0
      have x0 := g_Next (hG.step (a + 1) 1 (by omega) (by omega)) (by omega) 10
      by_cases c0 : nextS L (a + 1) 10 = 0
      · have c0' : (nextS L (a + 1) 10 == 0) = true := by simp [c0]
        have y1 := g_Range (hG.step ((a + 1) + 1) 1 (by omega) (by omega)) (by omega) 0 11 (by omega) (by omega) (by omega)
        refine ⟨.mk (rngS L ((a + 1) + 1) 0 11) op n v src nm dd args, ((a + 1) + 1 + 1), ?_, by omega, by omega, by simp only [exN, exNs]; omega, by simp only [exB]; exact ⟨hb1, hb2, hb3⟩⟩
        rw [call_97]
        simp -implicitDefEqProofs only [go_sem, simprocAttr, Tryz.f97, d0, f0, exR_len, exC, x0, y1, c0']
        all_goals rfl
      have b0 : (nextS L (a + 1) 10 == 0) = false := by simpa using c0
      by_cases c1 : nextS L (a + 1) 10 = 1
      · have c1' : (nextS L (a + 1) 10 == 1) = true := by simp [c1]
        have y1 := g_Range (hG.step ((a + 1) + 1) 1 (by omega) (by omega)) (by omega) 0 28 (by omega) (by omega) (by omega)
        refine ⟨.mk k (rngS L ((a + 1) + 1) 0 28) n v src nm dd args, ((a + 1) + 1 + 1), ?_, by omega, by omega, by simp only [exN, exNs]; omega, by simp only [exB]; exact ⟨hb1, hb2, hb3⟩⟩
        rw [call_97]
        simp -implicitDefEqProofs only [go_sem, simprocAttr, Tryz.f97, d0, f0, exR_len, exC, x0, y1, b0, c1']
        all_goals rfl
      have b1 : (nextS L (a + 1) 10 == 1) = false := by simpa using c1
      by_cases c2 : nextS L (a + 1) 10 = 2
      · have c2' : (nextS L (a + 1) 10 == 2) = true := by simp [c2]
        obtain ⟨z, _, y1⟩ := g_Pick (hG.step ((a + 1) + 1) 1 (by omega) (by omega)) (by omega) [-1, 0, 1, 4, 5, 6, 7, 59, 60, 1099511627776] (by decide) (by decide)
        simp only [List.map] at y1
        refine ⟨.mk k op z v src nm dd args, ((a + 1) + 1 + 1), ?_, by omega, by omega, by simp only [exN, exNs]; omega, by simp only [exB]; exact ⟨hb1, hb2, hb3⟩⟩
        rw [call_97]
        simp -implicitDefEqProofs only [go_sem, simprocAttr, Tryz.f97, d0, f0, exR_len, exC, x0, y1, b0, b1, c2']
        all_goals rfl
      have b2 : (nextS L (a + 1) 10 == 2) = false := by simpa using c2
      by_cases c3 : nextS L (a + 1) 10 = 3
      · have c3' : (nextS L (a + 1) 10 == 3) = true := by simp [c3]
        obtain ⟨z, a1, y1, q1, q2, _⟩ := g_Any (hG.step ((a + 1) + 1) 30 (by omega) (by omega)) (by omega)
        refine ⟨.mk k op n z src nm dd args, a1, ?_, by omega, by omega, by simp only [exN, exNs]; omega, by simp only [exB]; exact ⟨hb1, hb2, hb3⟩⟩
        rw [call_97]
        simp -implicitDefEqProofs only [go_sem, simprocAttr, Tryz.f97, d0, f0, exR_len, exC, x0, y1, b0, b1, b2, c3']
        all_goals rfl
      have b3 : (nextS L (a + 1) 10 == 3) = false := by simpa using c3
      by_cases c4 : nextS L (a + 1) 10 = 4
      · have c4' : (nextS L (a + 1) 10 == 4) = true := by simp [c4]
        have y1 := g_Next (hG.step ((a + 1) + 1) 1 (by omega) (by omega)) (by omega) 6
        obtain ⟨z, hzm, hz⟩ := str_at (l := [[], [97], [98], [65], [97, 46, 98], [122, 122]]) (next_bounds L ((a + 1) + 1) 6 (by omega) (by omega))
        have hzl := (by decide : ∀ x ∈ ([[], [97], [98], [65], [97, 46, 98], [122, 122]] : List (List UInt8)), x.length ≤ 4) z hzm
        simp only [List.map] at hz
        refine ⟨.mk k op n v src z dd args, ((a + 1) + 1 + 1), ?_, by omega, by omega, by simp only [exN, exNs]; omega, by simp only [exB]; exact ⟨hb1, by omega, hb3⟩⟩
        rw [call_97]
        simp -implicitDefEqProofs only [go_sem, simprocAttr, Tryz.f97, d0, f0, exR_len, exC, x0, y1, hz, b0, b1, b2, b3, c4']
        all_goals rfl
      have b4 : (nextS L (a + 1) 10 == 4) = false := by simpa using c4
      by_cases c5 : nextS L (a + 1) 10 = 5
      · have c5' : (nextS L (a + 1) 10 == 5) = true := by simp [c5]
        have y1 := g_Next (hG.step ((a + 1) + 1) 1 (by omega) (by omega)) (by omega) 4
        obtain ⟨z, hzm, hz⟩ := str_at (l := [[], [116], [120], [84]]) (next_bounds L ((a + 1) + 1) 4 (by omega) (by omega))
        have hzl := (by decide : ∀ x ∈ ([[], [116], [120], [84]] : List (List UInt8)), x.length ≤ 4) z hzm
        simp only [List.map] at hz
        refine ⟨.mk k op n v z nm dd args, ((a + 1) + 1 + 1), ?_, by omega, by omega, by simp only [exN, exNs]; omega, by simp only [exB]; exact ⟨by omega, hb2, hb3⟩⟩
        rw [call_97]
        simp -implicitDefEqProofs only [go_sem, simprocAttr, Tryz.f97, d0, f0, exR_len, exC, x0, y1, hz, b0, b1, b2, b3, b4, c5']
        all_goals rfl
      have b5 : (nextS L (a + 1) 10 == 5) = false := by simpa using c5
      by_cases c6 : nextS L (a + 1) 10 = 6
      · have c6' : (nextS L (a + 1) 10 == 6) = true := by simp [c6]
        obtain ⟨z, a1, y1, q1, q2, _⟩ := g_Any (hG.step ((a + 1) + 1) 30 (by omega) (by omega)) (by omega)
        have hr1 := room_small args.length (by omega)
        have hr2 := room_small (args.length + 1) (by omega)
        have gC := g_Constant z
        refine ⟨.mk k op n v src nm dd (args ++ [.mk 1 0 0 z [] [] false []]), a1, ?_, by omega, by omega, by simp only [exN, exNs_app, exNs]; omega, by simp only [exB]; exact ⟨hb1, hb2, exBs_app hb3 (by simp only [exBs, exB]; exact ⟨⟨Nat.zero_le _, Nat.zero_le _, trivial⟩, trivial⟩)⟩⟩
        rw [call_97]
        simp -implicitDefEqProofs only [go_sem, simprocAttr, Tryz.f97, d0, f0, exR_len, exC, x0, y1, gC, hr1, hr2, exR_len, exR_allLen, b0, b1, b2, b3, b4, b5, c6']
        all_goals (rw [← exR_snoc]; rfl)
      have b6 : (nextS L (a + 1) 10 == 6) = false := by simpa using c6
      by_cases c7 : nextS L (a + 1) 10 = 7
      · have c7' : (nextS L (a + 1) 10 == 7) = true := by simp [c7]
        by_cases hl : 0 < args.length
        · have dl : decide ((0 : Int) < (args.length : Int)) = true := decide_eq_true (by omega)
          have g1 : ((1 : Int) ≤ (args.length : Int)) = True := eq_true (by omega)
          have g2 : (1 : Int).toNat = 1 := rfl
          have hdn := exNs_drop args 1
          refine ⟨.mk k op n v src nm dd (args.drop 1), ((a + 1) + 1), ?_, by omega, by omega, by simp only [exN]; omega, by simp only [exB]; exact ⟨hb1, hb2, exBs_drop 1 hb3⟩⟩
          have htk : (exR (args.drop 1)).take (args.length - 1) = exR (args.drop 1) := List.take_of_length_le (by rw [exR_len, List.length_drop]; omega)
          rw [call_97]
          simp -implicitDefEqProofs only [go_sem, simprocAttr, Tryz.f97, d0, f0, exR_len, exC, x0, b0, b1, b2, b3, b4, b5, b6, c7', dl, g1, g2, exR_len, exR_allLen, exR_drop, htk]
          all_goals rfl
        · exact absurd h0 hl
      have b7 : (nextS L (a + 1) 10 == 7) = false := by simpa using c7
      by_cases c8 : nextS L (a + 1) 10 = 8
      · have c8' : (nextS L (a + 1) 10 == 8) = true := by simp [c8]
        obtain ⟨z, hzm, y1⟩ := g_Pick (hG.step ((a + 1) + 1) 1 (by omega) (by omega)) (by omega) [3, 22, 23, 24, 25] (by decide) (by decide)
        have hzb : 0 ≤ z ∧ z ≤ 25 := (by decide : ∀ x ∈ ([3, 22, 23, 24, 25] : List Int), 0 ≤ x ∧ x ≤ 25) z hzm
        simp only [List.map] at y1
        obtain ⟨e', qn, qb, lk⟩ := l_neg (L := L) z.toNat (by omega) _ [I 0, I 0, I 0, I 0, I 0, .str [], .str [], .str [], .bool false, .nils, .nils, .nils, .nils] rfl z.toNat 0 0 ((a + 1) + 1 + 1) (.mk k op n v src nm dd args) _ rfl rfl (by omega) (by simp only [exB]; exact ⟨hb1, hb2, hb3⟩)
        rw [Int.toNat_of_nonneg hzb.1] at lk
        simp only [exC] at lk
        refine ⟨e', ((a + 1) + 1 + 1), ?_, by omega, by omega, by rw [qn]; simp only [exN]; omega, qb⟩
        rw [call_97]
        simp -implicitDefEqProofs only [go_sem, simprocAttr, Tryz.f97, d0, f0, exR_len, exC, x0, y1, b0, b1, b2, b3, b4, b5, b6, b7, c8']
        rw [lk]
        simp -implicitDefEqProofs only [go_sem, simprocAttr, exC_len, exC_take]
      have b8 : (nextS L (a + 1) 10 == 8) = false := by simpa using c8
      refine ⟨.mk k op n v src nm true args, ((a + 1) + 1), ?_, by omega, by omega, by simp only [exN]; omega, by simp only [exB]; exact ⟨hb1, hb2, hb3⟩⟩
      rw [call_97]
      simp -implicitDefEqProofs only [go_sem, simprocAttr, Tryz.f97, d0, f0, exR_len, exC, x0, b0, b1, b2, b3, b4, b5, b6, b7, b8]
      all_goals rfl
  · have d0 : decide ((0 : Int) < (args.length : Int)) = false := decide_eq_false (by omega)
    have x0 := g_Next (hG.step a 1 (by omega) (by omega)) (by omega) 10
    by_cases c0 : nextS L a 10 = 0
    · have c0' : (nextS L a 10 == 0) = true := by simp [c0]
      have y1 := g_Range (hG.step (a + 1) 1 (by omega) (by omega)) (by omega) 0 11 (by omega) (by omega) (by omega)
      refine ⟨.mk (rngS L (a + 1) 0 11) op n v src nm dd args, (a + 1 + 1), ?_, by omega, by omega, by simp only [exN, exNs]; omega, by simp only [exB]; exact ⟨hb1, hb2, hb3⟩⟩
      rw [call_97]
      simp -implicitDefEqProofs only [go_sem, simprocAttr, Tryz.f97, d0, exR_len, exC, x0, y1, c0']
      all_goals rfl
    have b0 : (nextS L a 10 == 0) = false := by simpa using c0
    by_cases c1 : nextS L a 10 = 1
    · have c1' : (nextS L a 10 == 1) = true := by simp [c1]
      have y1 := g_Range (hG.step (a + 1) 1 (by omega) (by omega)) (by omega) 0 28 (by omega) (by omega) (by omega)
      refine ⟨.mk k (rngS L (a + 1) 0 28) n v src nm dd args, (a + 1 + 1), ?_, by omega, by omega, by simp only [exN, exNs]; omega, by simp only [exB]; exact ⟨hb1, hb2, hb3⟩⟩
      rw [call_97]
      simp -implicitDefEqProofs only [go_sem, simprocAttr, Tryz.f97, d0, exR_len, exC, x0, y1, b0, c1']
      all_goals rfl
    have b1 : (nextS L a 10 == 1) = false := by simpa using c1
    by_cases c2 : nextS L a 10 = 2
    · have c2' : (nextS L a 10 == 2) = true := by simp [c2]
      obtain ⟨z, _, y1⟩ := g_Pick (hG.step (a + 1) 1 (by omega) (by omega)) (by omega) [-1, 0, 1, 4, 5, 6, 7, 59, 60, 1099511627776] (by decide) (by decide)
      simp only [List.map] at y1
      refine ⟨.mk k op z v src nm dd args, (a + 1 + 1), ?_, by omega, by omega, by simp only [exN, exNs]; omega, by simp only [exB]; exact ⟨hb1, hb2, hb3⟩⟩
      rw [call_97]
      simp -implicitDefEqProofs only [go_sem, simprocAttr, Tryz.f97, d0, exR_len, exC, x0, y1, b0, b1, c2']
      all_goals rfl
    have b2 : (nextS L a 10 == 2) = false := by simpa using c2
    by_cases c3 : nextS L a 10 = 3
    · have c3' : (nextS L a 10 == 3) = true := by simp [c3]
      obtain ⟨z, a1, y1, q1, q2, _⟩ := g_Any (hG.step (a + 1) 30 (by omega) (by omega)) (by omega)
      refine ⟨.mk k op n z src nm dd args, a1, ?_, by omega, by omega, by simp only [exN, exNs]; omega, by simp only [exB]; exact ⟨hb1, hb2, hb3⟩⟩
      rw [call_97]
      simp -implicitDefEqProofs only [go_sem, simprocAttr, Tryz.f97, d0, exR_len, exC, x0, y1, b0, b1, b2, c3']
      all_goals rfl
    have b3 : (nextS L a 10 == 3) = false := by simpa using c3
    by_cases c4 : nextS L a 10 = 4
    · have c4' : (nextS L a 10 == 4) = true := by simp [c4]
      have y1 := g_Next (hG.step (a + 1) 1 (by omega) (by omega)) (by omega) 6
      obtain ⟨z, hzm, hz⟩ := str_at (l := [[], [97], [98], [65], [97, 46, 98], [122, 122]]) (next_bounds L (a + 1) 6 (by omega) (by omega))
      have hzl := (by decide : ∀ x ∈ ([[], [97], [98], [65], [97, 46, 98], [122, 122]] : List (List UInt8)), x.length ≤ 4) z hzm
      simp only [List.map] at hz
      refine ⟨.mk k op n v src z dd args, (a + 1 + 1), ?_, by omega, by omega, by simp only [exN, exNs]; omega, by simp only [exB]; exact ⟨hb1, by omega, hb3⟩⟩
      rw [call_97]
      simp -implicitDefEqProofs only [go_sem, simprocAttr, Tryz.f97, d0, exR_len, exC, x0, y1, hz, b0, b1, b2, b3, c4']
      all_goals rfl
    have b4 : (nextS L a 10 == 4) = false := by simpa using c4
    by_cases c5 : nextS L a 10 = 5
    · have c5' : (nextS L a 10 == 5) = true := by simp [c5]
      have y1 := g_Next (hG.step (a + 1) 1 (by omega) (by omega)) (by omega) 4
      obtain ⟨z, hzm, hz⟩ := str_at (l := [[], [116], [120], [84]]) (next_bounds L (a + 1) 4 (by omega) (by omega))
      have hzl := (by decide : ∀ x ∈ ([[], [116], [120], [84]] : List (List UInt8)), x.length ≤ 4) z hzm
      simp only [List.map] at hz
      refine ⟨.mk k op n v z nm dd args, (a + 1 + 1), ?_, by omega, by omega, by simp only [exN, exNs]; omega, by simp only [exB]; exact ⟨by omega, hb2, hb3⟩⟩
      rw [call_97]
      simp -implicitDefEqProofs only [go_sem, simprocAttr, Tryz.f97, d0, exR_len, exC, x0, y1, hz, b0, b1, b2, b3, b4, c5']
      all_goals rfl
    have b5 : (nextS L a 10 == 5) = false := by simpa using c5
    by_cases c6 : nextS L a 10 = 6
    · have c6' : (nextS L a 10 == 6) = true := by simp [c6]
      obtain ⟨z, a1, y1, q1, q2, _⟩ := g_Any (hG.step (a + 1) 30 (by omega) (by omega)) (by omega)
      have hr1 := room_small args.length (by omega)
      have hr2 := room_small (args.length + 1) (by omega)
      have gC := g_Constant z
      refine ⟨.mk k op n v src nm dd (args ++ [.mk 1 0 0 z [] [] false []]), a1, ?_, by omega, by omega, by simp only [exN, exNs_app, exNs]; omega, by simp only [exB]; exact ⟨hb1, hb2, exBs_app hb3 (by simp only [exBs, exB]; exact ⟨⟨Nat.zero_le _, Nat.zero_le _, trivial⟩, trivial⟩)⟩⟩
      rw [call_97]
      simp -implicitDefEqProofs only [go_sem, simprocAttr, Tryz.f97, d0, exR_len, exC, x0, y1, gC, hr1, hr2, exR_len, exR_allLen, b0, b1, b2, b3, b4, b5, c6']
      all_goals (rw [← exR_snoc]; rfl)
    have b6 : (nextS L a 10 == 6) = false := by simpa using c6
    by_cases c7 : nextS L a 10 = 7
    · have c7' : (nextS L a 10 == 7) = true := by simp [c7]
      refine ⟨.mk k op n v src nm dd args, (a + 1), ?_, by omega, by omega, by simp only [exN]; omega, by simp only [exB]; exact ⟨hb1, hb2, hb3⟩⟩
      rw [call_97]
      simp -implicitDefEqProofs only [go_sem, simprocAttr, Tryz.f97, d0, exR_len, exC, x0, b0, b1, b2, b3, b4, b5, b6, c7']
      all_goals rfl
    have b7 : (nextS L a 10 == 7) = false := by simpa using c7
    by_cases c8 : nextS L a 10 = 8
    · have c8' : (nextS L a 10 == 8) = true := by simp [c8]
      obtain ⟨z, hzm, y1⟩ := g_Pick (hG.step (a + 1) 1 (by omega) (by omega)) (by omega) [3, 22, 23, 24, 25] (by decide) (by decide)
      have hzb : 0 ≤ z ∧ z ≤ 25 := (by decide : ∀ x ∈ ([3, 22, 23, 24, 25] : List Int), 0 ≤ x ∧ x ≤ 25) z hzm
      simp only [List.map] at y1
      obtain ⟨e', qn, qb, lk⟩ := l_neg (L := L) z.toNat (by omega) _ [I 0, I 0, I 0, I 0, I 0, .str [], .str [], .str [], .bool false, .nils, .nils, .nils, .nils] rfl z.toNat 0 0 (a + 1 + 1) (.mk k op n v src nm dd args) _ rfl rfl (by omega) (by simp only [exB]; exact ⟨hb1, hb2, hb3⟩)
      rw [Int.toNat_of_nonneg hzb.1] at lk
      simp only [exC] at lk
      refine ⟨e', (a + 1 + 1), ?_, by omega, by omega, by rw [qn]; simp only [exN]; omega, qb⟩
      rw [call_97]
      simp -implicitDefEqProofs only [go_sem, simprocAttr, Tryz.f97, d0, exR_len, exC, x0, y1, b0, b1, b2, b3, b4, b5, b6, b7, c8']
      rw [lk]
      simp -implicitDefEqProofs only [go_sem, simprocAttr, exC_len, exC_take]
    have b8 : (nextS L a 10 == 8) = false := by simpa using c8
    refine ⟨.mk k op n v src nm true args, (a + 1), ?_, by omega, by omega, by simp only [exN]; omega, by simp only [exB]; exact ⟨hb1, hb2, hb3⟩⟩
    rw [call_97]
    simp -implicitDefEqProofs only [go_sem, simprocAttr, Tryz.f97, d0, exR_len, exC, x0, b0, b1, b2, b3, b4, b5, b6, b7, b8]
    all_goals rfl
theorem ints_snoc (l : List Int) (x : Int) : (l.map fun x => [I x]) ++ [[I x]] = (l ++ [x]).map fun x => [I x] := by rw [List.map_append]; rfl
theorem rows_snoc (l : List Val) (x : Val) : l.map rowV ++ [rowV x] = (l ++ [x]).map rowV := by rw [List.map_append]; rfl
theorem cels_snoc (l : List Cel) (x : Cel) : l.map celC ++ [celC x] = (l ++ [x]).map celC := by rw [List.map_append]; rfl
theorem l_Kinds (c : Nat) (hc : c ≤ 100) (ks : List It) : ∀ (m j : Nat) (i a B : Int) (l : List Int) (Bo : Code), Loop Tryz.f95 0 Bo → Gd L a B → m ≤ B → i = (j : Int) → c = j + m → l.length = j →
   ∃ (l' : List Int) (a' : Int), a ≤ a' ∧ a' ≤ a + m ∧ l'.length = c ∧
   RL K (.run 95 1 (.code Bo :: .lp Bo (some ([0, 3, 5, 6], [])) 2 :: .blk 0 2 :: ks) [(0, .ptr 0 0), (3, .own 1 l.length), (5, I (c : Int)), (6, I i)] [.cells [LR L, I a], .rows 1 (l.map fun x => [I x]) false]) =
   R K (.run 95 1 ks [(3, .own 1 l'.length)] [.cells [LR L, I a'], .rows 1 (l'.map fun x => [I x]) false])
  | 0, j, i, a, B, l, Bo, hB, hG, hm, hi, hj, hl => by
    subst hi
    have h1 : decide ((j : Int) < (c : Int)) = false := decide_eq_false (by omega)
    refine ⟨l, a, by omega, by omega, by omega, ?_⟩
    unfold Loop at hB
    simp -implicitDefEqProofs only [go_sem, simprocAttr, Tryz.f95, loopOf] at hB
    subst hB
    rw [RL_eq]
    simp -implicitDefEqProofs only [go_sem, simprocAttr, h1]
  | m + 1, j, i, a, B, l, Bo, hB, hG, hm, hi, hj, hl => by
    subst hi
    have hB' := hB
    have h1 : decide ((j : Int) < (c : Int)) = true := decide_eq_true (by omega)
    have h7 := next_id (i := j) (n := c) (by omega) (by omega)
    have x0 := g_Kind hG (by omega)
    have hr := room_small (l.length + 1) (by omega)
    obtain ⟨l', a', q1, q2, q3, ih⟩ := l_Kinds c hc ks m (j + 1) _ (a + 1) (B - 1) (l ++ [rngS L a 1 4]) Bo hB' (hG.step _ _ (by omega) (by omega)) (by omega) rfl (by omega) (by simp; omega)
    refine ⟨l', a', by omega, by omega, q3, ?_⟩
    unfold Loop at hB
    simp -implicitDefEqProofs only [go_sem, simprocAttr, Tryz.f95, loopOf] at hB
    subst hB
    rw [RL_eq]
    simp -implicitDefEqProofs only [go_sem, simprocAttr, h1, h7, x0, hr]
    rw [← ih]
    simp only [← ints_snoc, List.length_append, List.length_cons, List.length_nil]
theorem g_Kinds {a B : Int} (h : Gd L a B) (hB : 5 ≤ B) : ∃ (l : List Int) (a' : Int), R K (.call 95 [.ptr 0 0] (St L a)) = some (.own 1 l.length, [.cells [LR L, I a'], .rows 1 (l.map fun x => [I x]) false]) ∧ a ≤ a' ∧ a' ≤ a + 5 ∧ l.length ≤ 3 := by
  have x0 := g_Next h (by omega) 4
  have b0 := next_bounds L a 4 (by omega) (by omega)
  have e1 : ((nextS L a 4).toNat : Int) = nextS L a 4 := by omega
  obtain ⟨l', a', q1, q2, q3, lk⟩ := l_Kinds (L := L) (nextS L a 4).toNat (by omega) _ (nextS L a 4).toNat 0 0 (a + 1) (B - 1) [] _ rfl (h.step _ _ (by omega) (by omega)) (by omega) rfl (by omega) rfl
  rw [e1] at lk
  simp only [List.length_nil, List.map] at lk
  refine ⟨l', a', ?_, by omega, by omega, by omega⟩
  rw [call_95]
  simp -implicitDefEqProofs only [go_sem, simprocAttr, Tryz.f95, x0]
  rw [lk]
  simp -implicitDefEqProofs only [go_sem, simprocAttr]
theorem l_cols (c : Nat) (hc : c ≤ 5) (ks : List It) (H0 : List AV) (hH : locsL H0 = []) : ∀ (m j : Nat) (i a B : Int) (l : List Cel) (Bo : Code), Loop Tryz.f40 0 Bo → Gd L a B → 2 * m ≤ B → i = (j : Int) → c = j + m → l.length = j → (∀ c ∈ l, CelOk c) →
   ∃ (l' : List Cel) (a' : Int), a ≤ a' ∧ a' ≤ a + 2 * m ∧ l'.length = c ∧ (∀ c ∈ l', CelOk c) ∧
   RL K (.run 40 1 (.code Bo :: .lp Bo (some ([0, 4, 5, 10, 11], [])) 3 :: .blk 0 3 :: ks) [(0, .ptr 0 0), (4, .ptr 1 0), (5, .own 2 l.length), (10, I (c : Int)), (11, I i)] [.cells [LR L, I a], .cells H0, .rows 3 (l.map celC) false]) =
   R K (.run 40 1 ks [(0, .ptr 0 0), (4, .ptr 1 0), (5, .own 2 l'.length)] [.cells [LR L, I a'], .cells H0, .rows 3 (l'.map celC) false])
  | 0, j, i, a, B, l, Bo, hB, hG, hm, hi, hj, hl, hco => by
    subst hi
    have h1 : decide ((j : Int) < (c : Int)) = false := decide_eq_false (by omega)
    refine ⟨l, a, by omega, by omega, by omega, hco, ?_⟩
    unfold Loop at hB
    simp -implicitDefEqProofs only [go_sem, simprocAttr, Tryz.f40, loopOf] at hB
    subst hB
    rw [RL_eq]
    simp -implicitDefEqProofs only [go_sem, simprocAttr, h1, hH]
  | m + 1, j, i, a, B, l, Bo, hB, hG, hm, hi, hj, hl, hco => by
    subst hi
    have hB' := hB
    have h1 : decide ((j : Int) < (c : Int)) = true := decide_eq_true (by omega)
    have h7 := next_id (i := j) (n := c) (by omega) (by omega)
    have w1 : wrapI .i64 (97 + (j : Int)) = 97 + (j : Int) := wrap_id (by omega) (by omega)
    have x0 := g_Next hG (by omega) 2
    obtain ⟨z, hzm, hz⟩ := str_at (l := [[], [116]]) (next_bounds L a 2 (by omega) (by omega))
    have hzl := (by decide : ∀ x ∈ ([[], [116]] : List (List UInt8)), x.length ≤ 4) z hzm
    have hrb := range_bounds L (a + 1) 1 4 (by omega) (by omega)
    have hnl : (Utf8.encode (wrapI .i32 (97 + (j : Int)))).data.toList.length ≤ 4 := (by decide : ∀ j : Nat, j < 6 → (Utf8.encode (wrapI .i32 (97 + (j : Int)))).data.toList.length ≤ 4) j (by omega)
    simp only [List.map] at hz
    have x1 := g_Kind (hG.step (a + 1) 1 (by omega) (by omega)) (by omega)
    have hr := room_small (l.length + 1) (by omega)
    generalize hname : (Utf8.encode (wrapI .i32 (97 + (j : Int)))).data.toList = nm at hnl
    obtain ⟨l', a', q1, q2, q3, q4, ih⟩ := l_cols c hc ks H0 hH m (j + 1) _ (a + 1 + 1) (B - 2) (l ++ [⟨z, nm, rngS L (a + 1) 1 4⟩]) Bo hB' (hG.step _ _ (by omega) (by omega)) (by omega) rfl (by omega) (by simp; omega) (by
      intro c hcm
      rcases List.mem_append.1 hcm with hcm | hcm
      · exact hco c hcm
      · simp only [List.mem_cons, List.not_mem_nil, or_false] at hcm; subst hcm; exact ⟨by simp only; omega, by simp only; omega, by simp only; omega⟩)
    refine ⟨l', a', by omega, by omega, q3, q4, ?_⟩
    unfold Loop at hB
    simp -implicitDefEqProofs only [go_sem, simprocAttr, Tryz.f40, loopOf] at hB
    subst hB
    rw [RL_eq]
    simp -implicitDefEqProofs only [go_sem, simprocAttr, h1, hH, h7, w1, x0, hz, hname, x1, hr]
    rw [← ih]
    simp only [← cels_snoc, celC, List.length_append, List.length_cons, List.length_nil]
theorem l_spoil (cols : List Cel) (ps : List Int) (c : Nat) (hc : c ≤ 2) (ks : List It) (H0 : List AV) (hH : locsL H0 = []) : ∀ (m j : Nat) (i a B : Int) (e : Ex) (Bo : Code), Loop Tryz.f40 2 Bo → Gd L a B → 40000 * m ≤ B → i = (j : Int) → c = j + m → exN e ≤ 800 + 30 * j → exB e →
   ∃ (e' : Ex) (a' : Int), a ≤ a' ∧ a' ≤ a + 40000 * m ∧ exN e' ≤ 800 + 30 * c ∧ exB e' ∧
   RL K (.run 40 1 (.code Bo :: .lp Bo (some ([0, 4, 5, 7, 8, 42, 43], [])) 5 :: .blk 2 5 :: ks) [(0, .ptr 0 0), (4, .ptr 1 0), (5, .own 2 cols.length), (7, .own 3 ps.length), (8, .ptr 4 0), (42, I (c : Int)), (43, I i)] [.cells [LR L, I a], .cells H0, .rows 3 (cols.map celC) false, .rows 1 (ps.map fun x => [I x]) false, .cells (exC e)]) =
   R K (.run 40 1 ks [(0, .ptr 0 0), (4, .ptr 1 0), (5, .own 2 cols.length), (7, .own 3 ps.length), (8, .ptr 4 0)] [.cells [LR L, I a'], .cells H0, .rows 3 (cols.map celC) false, .rows 1 (ps.map fun x => [I x]) false, .cells (exC e')])
  | 0, j, i, a, B, e, Bo, hB, hG, hm, hi, hj, he, heb => by
    subst hi
    have h1 : decide ((j : Int) < (c : Int)) = false := decide_eq_false (by omega)
    refine ⟨e, a, by omega, by omega, by omega, heb, ?_⟩
    unfold Loop at hB
    simp -implicitDefEqProofs only [go_sem, simprocAttr, Tryz.f40, loopOf] at hB
    subst hB
    rw [RL_eq]
    simp -implicitDefEqProofs only [go_sem, simprocAttr, h1, hH]
  | m + 1, j, i, a, B, e, Bo, hB, hG, hm, hi, hj, he, heb => by
    subst hi
    have hB' := hB
    have h1 : decide ((j : Int) < (c : Int)) = true := decide_eq_true (by omega)
    have h7 := next_id (i := j) (n := c) (by omega) (by omega)
    obtain ⟨e1, a1, x0, r1, r2, r3, r4⟩ := g_Spoiled e (by omega) heb a B hG (by omega)
    obtain ⟨e', a', q1, q2, q3, q4, ih⟩ := l_spoil cols ps c hc ks H0 hH m (j + 1) _ a1 (B - 40000) e1 Bo hB' (hG.step _ _ (by omega) (by omega)) (by omega) rfl (by omega) (by omega) r4
    refine ⟨e', a', by omega, by omega, q3, q4, ?_⟩
    unfold Loop at hB
    simp -implicitDefEqProofs only [go_sem, simprocAttr, Tryz.f40, loopOf] at hB
    subst hB
    rw [RL_eq]
    simp -implicitDefEqProofs only [go_sem, simprocAttr, h1, hH, h7, x0, splice]
    rw [← ih]
theorem g_scalar {a B : Int} (h : Gd L a B) (hB : 200000 ≤ B) : ∃ (cols : List Cel) (ps : List Int) (e : Ex) (a' : Int), R K (.call 40 [.ptr 0 0] (St L a)) = some (.tup [colsC cols, LR ps, .agg (exC e)], St L a') ∧ a ≤ a' ∧ a' ≤ a + 200000 ∧ cols.length ≤ 5 ∧ ps.length ≤ 4 ∧ exN e ≤ 860 ∧ exB e ∧ (∀ c ∈ cols, CelOk c) := by
  have x0 := g_Next h (by omega) 5
  have b0 := next_bounds L a 5 (by omega) (by omega)
  have e0 : ((nextS L a 5).toNat : Int) = nextS L a 5 := by omega
  obtain ⟨cols, a1, q1, q2, q3, q4, lk⟩ := l_cols (L := L) (nextS L a 5).toNat (by omega) _ [I 0, I 0, I 0, I 0, I 0, .str [], .str [], .str [], .bool false, .nils, .nils, .nils, .nils] rfl (nextS L a 5).toNat 0 0 (a + 1) (B - 1) [] _ rfl (h.step _ _ (by omega) (by omega)) (by omega) rfl (by omega) rfl (by simp)
  rw [e0] at lk
  simp only [List.length_nil, List.map] at lk
  obtain ⟨ps, a2, x1, r1, r2, r3⟩ := g_Kinds (h.step a1 5 (by omega) (by omega)) (by omega)
  have x2 := g_Kind (h.step a2 1 (by omega) (by omega)) (by omega)
  have x3 := g_Next (h.step (a2 + 1) 1 (by omega) (by omega)) (by omega) 5
  have b3 := next_bounds L (a2 + 1) 5 (by omega) (by omega)
  have e3 : ((nextS L (a2 + 1) 5).toNat : Int) = nextS L (a2 + 1) 5 := by omega
  have hd : (nextS L (a2 + 1) 5).toNat ≤ 4 := by omega
  have hbt : ∀ d : Nat, d ≤ 4 → bT d ≤ 20000 ∧ bN d ≤ 800 := by decide
  have hb := hbt _ hd
  obtain ⟨e, a3, x4, s1, s2, s3, s4⟩ := g_Scalar (nextS L (a2 + 1) 5).toNat (by omega) L cols ps (rngS L a2 1 4) (a2 + 1 + 1) 20000 q4 (by omega) (by omega) (h.step _ _ (by omega) (by omega)) hb.1
  rw [e3] at x4
  obtain ⟨z, hzm, x5⟩ := g_Pick (h.step a3 1 (by omega) (by omega)) (by omega) [0, 0, 1, 2] (by decide) (by decide)
  have hzb : 0 ≤ z ∧ z ≤ 2 := (by decide : ∀ x ∈ ([0, 0, 1, 2] : List Int), 0 ≤ x ∧ x ≤ 2) z hzm
  simp only [List.map] at x5
  obtain ⟨e', a4, t1, t2, t3, t4, lk2⟩ := l_spoil (L := L) cols ps z.toNat (by omega) _ [I 0, I 0, I 0, I 0, I 0, .str [], .str [], .str [], .bool false, .nils, .nils, .nils, .nils] rfl z.toNat 0 0 (a3 + 1) 80000 e _ rfl (h.step _ _ (by omega) (by omega)) (by omega) rfl (by omega) (by omega) s4
  rw [Int.toNat_of_nonneg hzb.1] at lk2
  have x6 := g_Flip (h.step a4 1 (by omega) (by omega)) (by omega) 20
  cases hf : nextS L a4 20 == 0 with
  | false =>
    rw [hf] at x6
    refine ⟨cols, ps, e', a4 + 1, ?_, by omega, by omega, by omega, by omega, by omega, t4, q4⟩
    rw [call_40]
    simp -implicitDefEqProofs only [go_sem, simprocAttr, Tryz.f40, x0]
    rw [lk]
    simp -implicitDefEqProofs only [go_sem, simprocAttr, x1, x2, x3, x4, x5]
    rw [lk2]
    simp -implicitDefEqProofs only [go_sem, simprocAttr, x6]
  | true =>
    rw [hf] at x6
    obtain ⟨y, _, x7⟩ := g_Pick (h.step (a4 + 1) 1 (by omega) (by omega)) (by omega) [0, 5] (by decide) (by decide)
    simp only [List.map] at x7
    have hr := room_small (ps.length + 1) (by omega)
    refine ⟨cols, ps ++ [y], e', a4 + 1 + 1, ?_, by omega, by omega, by omega, by simp; omega, by omega, t4, q4⟩
    rw [call_40]
    simp -implicitDefEqProofs only [go_sem, simprocAttr, Tryz.f40, x0]
    rw [lk]
    simp -implicitDefEqProofs only [go_sem, simprocAttr, x1, x2, x3, x4, x5]
    rw [lk2]
    simp -implicitDefEqProofs only [go_sem, simprocAttr, x6, x7, hr]
    all_goals rw [ints_snoc]
theorem g_small {a B : Int} (h : Gd L a B) (hB : 12 ≤ B) (k : Int) : ∃ v a', R K (.call 99 [.ptr 0 0, I k] (St L a)) = some (enc v, St L a') ∧ a ≤ a' ∧ a' ≤ a + 12 ∧ v.s.length ≤ 2000 := by
  have x0 := g_Next h (by omega) 6
  by_cases k2 : k = 2
  · subst k2
    refine ⟨⟨2, nextS L a 6, []⟩, a + 1, ?_, by omega, by omega, by simp⟩
    rw [call_99]
    simp -implicitDefEqProofs only [go_sem, simprocAttr, Tryz.f99, x0]
  have b2 : (k == 2) = false := by simpa using k2
  by_cases k4 : k = 4
  · subst k4
    refine ⟨⟨4, nextS L a 6, []⟩, a + 1, ?_, by omega, by omega, by simp⟩
    rw [call_99]
    simp -implicitDefEqProofs only [go_sem, simprocAttr, Tryz.f99, x0]
  have b4 : (k == 4) = false := by simpa using k4
  by_cases k3 : k = 3
  · subst k3
    obtain ⟨z, hzm, hz⟩ := str_at (l := [[], [97], [98], [97, 98], [53], [116, 114, 117, 101]]) (next_bounds L a 6 (by omega) (by omega))
    have hzl := (by decide : ∀ x ∈ ([[], [97], [98], [97, 98], [53], [116, 114, 117, 101]] : List (List UInt8)), x.length ≤ 4) z hzm
    simp only [List.map] at hz
    refine ⟨⟨3, 0, z⟩, a + 1, ?_, by omega, by omega, by simp only; omega⟩
    rw [call_99]
    simp -implicitDefEqProofs only [go_sem, simprocAttr, Tryz.f99, x0, hz]
  have b3 : (k == 3) = false := by simpa using k3
  obtain ⟨v, a', x1, q1, q2, q3⟩ := g_Full h (by omega) k
  refine ⟨v, a', ?_, by omega, by omega, by omega⟩
  rw [call_99]
  simp -implicitDefEqProofs only [go_sem, simprocAttr, Tryz.f99, b2, b3, b4, x1]
theorem l_Params (kinds : List Int) (hc : kinds.length ≤ 1000) (ks : List It) : ∀ (m j : Nat) (i a B : Int) (l : List Val) (Bo : Code), Loop Tryz.f42 0 Bo → Gd L a B → 30 * m ≤ B → i = (j : Int) → kinds.length = j + m → l.length = j →
   ∃ (l' : List Val) (a' : Int), a ≤ a' ∧ a' ≤ a + 30 * m ∧ l'.length = kinds.length ∧
   RL K (.run 42 1 (.code Bo :: .lp Bo (some ([0, 5, 9, 10, 11], [])) 2 :: .blk 0 2 :: ks) [(0, .ptr 0 0), (5, .own 1 l.length), (9, LR kinds), (10, I (kinds.length : Int)), (11, I i)] [.cells [LR L, I a], .rows 3 (l.map rowV) true]) =
   R K (.run 42 1 ks [(0, .ptr 0 0), (5, .own 1 l'.length)] [.cells [LR L, I a'], .rows 3 (l'.map rowV) true])
  | 0, j, i, a, B, l, Bo, hB, hG, hm, hi, hj, hl => by
    subst hi
    have h1 : decide ((j : Int) < (kinds.length : Int)) = false := decide_eq_false (by omega)
    refine ⟨l, a, by omega, by omega, by omega, ?_⟩
    unfold Loop at hB
    simp -implicitDefEqProofs only [go_sem, simprocAttr, Tryz.f42, loopOf] at hB
    subst hB
    rw [RL_eq]
    simp -implicitDefEqProofs only [go_sem, simprocAttr, h1]
  | m + 1, j, i, a, B, l, Bo, hB, hG, hm, hi, hj, hl => by
    subst hi
    have hB' := hB
    have h1 : decide ((j : Int) < (kinds.length : Int)) = true := decide_eq_true (by omega)
    have h7 := next_id (i := j) (n := kinds.length) (by omega) (by omega)
    obtain ⟨k, hk⟩ := some_at (l := kinds) (i := j) (by omega)
    have hg := int_get hk
    obtain ⟨v, a1, x0, r1, r2, _⟩ := g_small hG (by omega) k
    have x1 := g_Flip (hG.step a1 1 (by omega) (by omega)) (by omega) 5
    have hr := room_small (l.length + 1) (by omega)
    cases hf : nextS L a1 5 == 0 with
    | false =>
      rw [hf] at x1
      obtain ⟨l', a', q1, q2, q3, ih⟩ := l_Params kinds hc ks m (j + 1) _ (a1 + 1) (B - 30) (l ++ [v]) Bo hB' (hG.step _ _ (by omega) (by omega)) (by omega) rfl (by omega) (by simp; omega)
      refine ⟨l', a', by omega, by omega, q3, ?_⟩
      unfold Loop at hB
      simp -implicitDefEqProofs only [go_sem, simprocAttr, Tryz.f42, loopOf] at hB
      subst hB
      rw [RL_eq]
      simp -implicitDefEqProofs only [go_sem, simprocAttr, h1, h7, hg, x0, x1, hr]
      rw [← ih]
      simp only [← rows_snoc, rowV, List.length_append, List.length_cons, List.length_nil]
    | true =>
      rw [hf] at x1
      obtain ⟨w, a2, x2, s1, s2, _⟩ := g_Value (hG.step (a1 + 1) 13 (by omega) (by omega)) (by omega) k
      obtain ⟨l', a', q1, q2, q3, ih⟩ := l_Params kinds hc ks m (j + 1) _ a2 (B - 30) (l ++ [w]) Bo hB' (hG.step _ _ (by omega) (by omega)) (by omega) rfl (by omega) (by simp; omega)
      refine ⟨l', a', by omega, by omega, q3, ?_⟩
      unfold Loop at hB
      simp -implicitDefEqProofs only [go_sem, simprocAttr, Tryz.f42, loopOf] at hB
      subst hB
      rw [RL_eq]
      simp -implicitDefEqProofs only [go_sem, simprocAttr, h1, h7, hg, x0, x1, x2, hr]
      rw [← ih]
      simp only [← rows_snoc, rowV, List.length_append, List.length_cons, List.length_nil]
theorem rows_at0 {l : List Val} (h : 0 < l.length) : ∃ v, at? (l.map rowV) 0 = some (rowV v) ∧ (l.map rowV)[0]? = some (rowV v) := by
  obtain ⟨v, hv⟩ := some_at (l := l) (i := 0) h
  exact ⟨v, row_get hv, by simp [hv]⟩
theorem g_Params {a B : Int} (h : Gd L a B) (kinds : List Int) (hk : kinds.length ≤ 1000) (hB : 30 * (kinds.length : Int) + 100 ≤ B) : ∃ (vs : List Val) (a' : Int), R K (.call 42 [.ptr 0 0, LR kinds] (St L a)) = some (.rows (vs.map rowV), St L a') ∧ a ≤ a' ∧ a' ≤ a + 30 * (kinds.length : Int) + 100 ∧ vs.length ≤ kinds.length + 1 := by
  obtain ⟨l, a1, q1, q2, q3, lk⟩ := l_Params (L := L) kinds hk _ kinds.length 0 0 a B [] _ rfl h (by omega) rfl (by omega) rfl
  simp only [List.length_nil, List.map_nil] at lk
  have x0 := g_Flip (h.step a1 1 (by omega) (by omega)) (by omega) 20
  have hset : ∀ (l : List Val) (w : Val), (l.map rowV).set 0 (rowV w) = (l.set 0 w).map rowV := fun l w => (List.map_set ..).symm
  cases hf : nextS L a1 20 == 0 with
  | false =>
    rw [hf] at x0
    by_cases hl : 0 < l.length
    · have d0 : decide ((0 : Int) < (l.length : Int)) = true := decide_eq_true (by omega)
      have x1 := g_Flip (h.step (a1 + 1) 1 (by omega) (by omega)) (by omega) 20
      cases hf2 : nextS L (a1 + 1) 20 == 0 with
      | false =>
        rw [hf2] at x1
        refine ⟨l, a1 + 1 + 1, ?_, by omega, by omega, by omega⟩
        rw [call_42]
        simp -implicitDefEqProofs only [go_sem, simprocAttr, Tryz.f42]
        rw [lk]
        simp -implicitDefEqProofs only [go_sem, simprocAttr, x0, d0, x1]
      | true =>
        rw [hf2] at x1
        obtain ⟨w, a2, x2, r1, r2, _⟩ := g_Any (h.step (a1 + 1 + 1) 30 (by omega) (by omega)) (by omega)
        obtain ⟨v, hv, hv2⟩ := rows_at0 hl
        refine ⟨l.set 0 w, a2, ?_, by omega, by omega, by simp; omega⟩
        rw [call_42]
        simp -implicitDefEqProofs only [go_sem, simprocAttr, Tryz.f42]
        rw [lk]
        simp -implicitDefEqProofs only [go_sem, simprocAttr, x0, d0, x1, x2, hv, hv2, rowV, splice, Int.toNat_zero, List.length_map]
        all_goals (rw [← hset]; rfl)
    · have d0 : decide ((0 : Int) < (l.length : Int)) = false := decide_eq_false (by omega)
      refine ⟨l, a1 + 1, ?_, by omega, by omega, by omega⟩
      rw [call_42]
      simp -implicitDefEqProofs only [go_sem, simprocAttr, Tryz.f42]
      rw [lk]
      simp -implicitDefEqProofs only [go_sem, simprocAttr, x0, d0]
  | true =>
    rw [hf] at x0
    obtain ⟨u, a3, x3, s1, s2, _⟩ := g_Any (h.step (a1 + 1) 30 (by omega) (by omega)) (by omega)
    have hr := room_small (l.length + 1) (by omega)
    have hl : 0 < (l ++ [u]).length := by simp
    have d0 : decide ((0 : Int) < ((l.length + 1 : Nat) : Int)) = true := decide_eq_true (by omega)
    have x1 := g_Flip (h.step a3 1 (by omega) (by omega)) (by omega) 20
    cases hf2 : nextS L a3 20 == 0 with
    | false =>
      rw [hf2] at x1
      refine ⟨l ++ [u], a3 + 1, ?_, by omega, by omega, by simp; omega⟩
      rw [call_42]
      simp -implicitDefEqProofs only [go_sem, simprocAttr, Tryz.f42]
      rw [lk]
      simp -implicitDefEqProofs only [go_sem, simprocAttr, x0, x3, hr, d0, x1]
      all_goals (rw [← rows_snoc]; rfl)
    | true =>
      rw [hf2] at x1
      obtain ⟨w, a2, x2, r1, r2, _⟩ := g_Any (h.step (a3 + 1) 30 (by omega) (by omega)) (by omega)
      obtain ⟨v, hv, hv2⟩ := rows_at0 hl
      rw [← rows_snoc] at hv hv2
      refine ⟨(l ++ [u]).set 0 w, a2, ?_, by omega, by omega, by simp; omega⟩
      simp only [rowV] at hv hv2
      rw [call_42]
      simp -implicitDefEqProofs only [go_sem, simprocAttr, Tryz.f42]
      rw [lk]
      simp -implicitDefEqProofs only [go_sem, simprocAttr, x0, x3, hr, d0, x1, x2, hv, hv2, splice, Int.toNat_zero, List.length_map]
      all_goals (rw [← hset, ← rows_snoc]; rfl)
end
theorem drop_ex {l : List Ex} {i : Nat} {x : Ex} (h : l[i]? = some x) : l.drop i = x :: l.drop (i + 1) := drop_get h
theorem l_sizeOf (args : List Ex) (hN : exNs args ≤ 1000000) (ih : ∀ a ∈ args, exN a ≤ 1000000 → R K (.call 112 [.agg (exC a)] []) = some (.tup [I (exN a : Int), I (exD a : Int)], [])) (H0 : List AV) (hH : locsL H0 = []) (ks : List It) : ∀ (m j : Nat) (i : Int) (c d : Nat) (Bo : Code), Loop Tryz.f112 0 Bo → i = (j : Int) → args.length = j + m → c + exNs (args.drop j) ≤ 2000000 → d ≤ 1000000 →
   RL K (.run 112 0 (.code Bo :: .lp Bo (some ([2, 3, 9, 10, 11], [])) 1 :: .blk 0 1 :: ks) [(2, I (c : Int)), (3, I (d : Int)), (9, .rows (exR args)), (10, I (args.length : Int)), (11, I i)] [.cells H0]) =
   R K (.run 112 0 ks [(2, I ((c + exNs (args.drop j) : Nat) : Int)), (3, I ((max d (exDs (args.drop j)) : Nat) : Int))] [.cells H0])
  | 0, j, i, c, d, Bo, hB, hi, hj, hc, hd => by
    subst hi
    have h1 : decide ((j : Int) < (args.length : Int)) = false := decide_eq_false (by omega)
    rw [List.drop_of_length_le (by omega)]
    simp only [exNs, exDs, Nat.add_zero, Nat.max_zero]
    unfold Loop at hB
    simp -implicitDefEqProofs only [go_sem, simprocAttr, Tryz.f112, loopOf] at hB
    subst hB
    rw [RL_eq]
    simp -implicitDefEqProofs only [go_sem, simprocAttr, h1, hH]
  | m + 1, j, i, c, d, Bo, hB, hi, hj, hc, hd => by
    subst hi
    have hB' := hB
    have h1 : decide ((j : Int) < (args.length : Int)) = true := decide_eq_true (by omega)
    have hl := exNs_len args
    have h7 := next_id (i := j) (n := args.length) (by omega) (by omega)
    obtain ⟨x, hx⟩ := some_at (l := args) (i := j) (by omega)
    have hg := ex_get hx
    have hxm := List.mem_of_getElem? hx
    have hxn := exN_mem hxm
    have hxd := exD_le x
    have r := ih x hxm (by omega)
    rw [drop_ex hx] at hc ⊢
    simp only [exNs, exDs] at hc ⊢
    have w1 : wrapI .i64 ((c : Int) + (exN x : Int)) = ((c + exN x : Nat) : Int) := by rw [wrap_id (by omega) (by omega)]; omega
    have w2 : (if (d : Int) < (exD x : Int) then (exD x : Int) else (d : Int)) = ((max d (exD x) : Nat) : Int) := by split <;> omega
    have ih2 := l_sizeOf args hN ih H0 hH ks m (j + 1) _ (c + exN x) (max d (exD x)) Bo hB' rfl (by omega) (by omega) (by omega)
    rw [Nat.add_assoc, Nat.max_assoc] at ih2
    unfold Loop at hB
    simp -implicitDefEqProofs only [go_sem, simprocAttr, Tryz.f112, loopOf] at hB
    subst hB
    rw [RL_eq]
    simp -implicitDefEqProofs only [go_sem, simprocAttr, h1, hH, h7, hg, exC_len, exC_take, r, w1, w2]
    rw [ih2]
theorem r_sizeOf : ∀ e : Ex, exN e ≤ 1000000 → R K (.call 112 [.agg (exC e)] []) = some (.tup [I (exN e : Int), I (exD e : Int)], []) := by
  refine Ex.ind fun e ih => ?_
  obtain ⟨k, op, n, v, src, nm, dd, args⟩ := e
  intro hN
  simp only [Ex.args] at ih
  simp only [exN] at hN
  have hl := exNs_len args
  have hd : exDs args ≤ exNs args := by
    have := exD_le (.mk 0 0 0 null [] [] false args)
    simp only [exD, exN] at this; omega
  have lk := fun ks B hB => l_sizeOf args (by omega) ih (exC (.mk k op n v src nm dd args)) (exC_locs _) ks args.length 0 0 1 0 B hB rfl (by omega) (by rw [List.drop_zero]; omega) (by omega)
  simp only [List.drop_zero, exC, Int.cast_ofNat_Int, Int.natCast_zero, Int.natCast_one] at lk
  have w : wrapI .i64 (((max 0 (exDs args) : Nat) : Int) + 1) = ((exD (.mk k op n v src nm dd args) : Nat) : Int) := by
    rw [wrap_id (by omega) (by omega)]; simp only [exD]; omega
  have e1 : exN (.mk k op n v src nm dd args) = 1 + exNs args := rfl
  rw [e1]
  rw [call_112]
  simp -implicitDefEqProofs only [go_sem, simprocAttr, Tryz.f112, exC, exR_len]
  rw [lk _ _ ?_]
  · simp -implicitDefEqProofs only [go_sem, simprocAttr, w]
  · rfl
def smallS (e : Ex) : Bool := decide (exN e ≤ 400) && decide (exD e ≤ 24)
theorem r_sized (e : Ex) (hN : exN e ≤ 1000000) : R K (.call 107 [.agg (exC e)] []) = some (I (if smallS e = true then 0 else 2), []) := by
  have r := r_sizeOf e hN
  have hd := exD_le e
  by_cases h1 : exN e ≤ 400
  · have d1 : decide ((400 : Int) < (exN e : Int)) = false := decide_eq_false (by omega)
    by_cases h2 : exD e ≤ 24
    · have d2 : decide ((24 : Int) < (exD e : Int)) = false := decide_eq_false (by omega)
      have e1 : smallS e = true := by simp [smallS, h1, h2]
      rw [if_pos e1]
      rw [call_107]
      simp -implicitDefEqProofs only [go_sem, simprocAttr, Tryz.f107, r, d1, d2]
    · have d2 : decide ((24 : Int) < (exD e : Int)) = true := decide_eq_true (by omega)
      have e1 : smallS e = false := by simp [smallS, h2]
      rw [if_neg (by rw [e1]; simp)]
      rw [call_107]
      simp -implicitDefEqProofs only [go_sem, simprocAttr, Tryz.f107, r, d1, d2]
  · have d1 : decide ((400 : Int) < (exN e : Int)) = true := decide_eq_true (by omega)
    have e1 : smallS e = false := by simp [smallS, h1]
    rw [if_neg (by rw [e1]; simp)]
    rw [call_107]
    simp -implicitDefEqProofs only [go_sem, simprocAttr, Tryz.f107, r, d1]
def Counts (f : Tk) (ok : Bool) (q : Nat) : Prop := ∃ p' : Nat, R K f = some (.bool ok, [.cells [I (p' : Int)]]) ∧ (ok = true → p' = q) ∧ p' ≤ 401
def okL (p t : Nat) (l : List Ex) : Bool := decide (p + exNs l ≤ 400) && decide (t + 1 + exDs l ≤ 25)
theorem l_sizes (args : List Ex) (ih : ∀ a ∈ args, ∀ p t : Nat, p ≤ 400 → t ≤ 30 → Counts (.call 155 [.agg (exC a), I (t : Int), .ptr 0 0] [.cells [I (p : Int)]]) (decide (p + exN a ≤ 400) && decide (t + exD a ≤ 25)) (p + exN a)) (t : Nat) (ht : t ≤ 24) (H0 : List AV) (hH : locsL H0 = []) (hlen : args.length ≤ 1000000) (ks : List It) : ∀ (m j : Nat) (i : Int) (p : Nat) (Bo : Code), Loop Tryz.f155 0 Bo → i = (j : Int) → args.length = j + m → p ≤ 400 →
   ∃ p' : Nat, p' ≤ 401 ∧
   RL K (.run 155 1 (.code Bo :: .lp Bo (some ([1, 2, 23, 24, 25], [])) 2 :: .blk 0 2 :: ks) [(1, I (t : Int)), (2, .ptr 0 0), (23, .rows (exR args)), (24, I (args.length : Int)), (25, I i)] [.cells [I (p : Int)], .cells H0]) =
   if okL p t (args.drop j) = true then R K (.run 155 1 ks [] [.cells [I ((p + exNs (args.drop j) : Nat) : Int)], .cells H0]) else some (.bool false, [.cells [I (p' : Int)]])
  | 0, j, i, p, Bo, hB, hi, hj, hp => by
    subst hi
    have h1 : decide ((j : Int) < (args.length : Int)) = false := decide_eq_false (by omega)
    rw [List.drop_of_length_le (by omega)]
    have hk : okL p t [] = true := by
      unfold okL exNs exDs
      rw [Bool.and_eq_true]
      exact ⟨decide_eq_true (by omega), decide_eq_true (by omega)⟩
    refine ⟨0, by omega, ?_⟩
    rw [if_pos hk]
    simp only [exNs, Nat.add_zero]
    unfold Loop at hB
    simp -implicitDefEqProofs only [go_sem, simprocAttr, Tryz.f155, loopOf] at hB
    subst hB
    rw [RL_eq]
    simp -implicitDefEqProofs only [go_sem, simprocAttr, h1, hH]
  | m + 1, j, i, p, Bo, hB, hi, hj, hp => by
    subst hi
    have hB' := hB
    have h1 : decide ((j : Int) < (args.length : Int)) = true := decide_eq_true (by omega)
    have h7 := next_id (i := j) (n := args.length) (by omega) (by omega)
    obtain ⟨x, hx⟩ := some_at (l := args) (i := j) (by omega)
    have hg := ex_get hx
    have w1 : wrapI .i64 ((t : Int) + 1) = ((t + 1 : Nat) : Int) := by rw [wrap_id (by omega) (by omega)]; omega
    obtain ⟨p1, r, q1, q2⟩ := ih x (List.mem_of_getElem? hx) p (t + 1) hp (by omega)
    rw [drop_ex hx]
    cases hok : (decide (p + exN x ≤ 400) && decide (t + 1 + exD x ≤ 25)) with
    | false =>
      rw [hok] at r
      have hk : okL p t (x :: args.drop (j + 1)) = false := by
        rw [Bool.and_eq_false_iff, decide_eq_false_iff_not, decide_eq_false_iff_not] at hok
        unfold okL exNs exDs
        rw [Bool.and_eq_false_iff, decide_eq_false_iff_not, decide_eq_false_iff_not]
        omega
      refine ⟨p1, q2, ?_⟩
      rw [if_neg (by rw [hk]; simp)]
      unfold Loop at hB
      simp -implicitDefEqProofs only [go_sem, simprocAttr, Tryz.f155, loopOf] at hB
      subst hB
      rw [RL_eq]
      simp -implicitDefEqProofs only [go_sem, simprocAttr, h1, hH, h7, hg, exC_len, exC_take, w1, r]
    | true =>
      rw [hok] at r
      have hp1 := q1 hok
      simp only [Bool.and_eq_true, decide_eq_true_eq] at hok
      obtain ⟨p2, s1, ih2⟩ := l_sizes args ih t ht H0 hH hlen ks m (j + 1) _ p1 Bo hB' rfl (by omega) (by omega)
      have hk : okL p t (x :: args.drop (j + 1)) = okL p1 t (args.drop (j + 1)) := by
        rw [Bool.eq_iff_iff]
        simp only [okL, Bool.and_eq_true, decide_eq_true_eq]
        simp only [exNs, exDs]
        omega
      rw [hk]
      refine ⟨p2, s1, ?_⟩
      have hn : p + exNs (x :: args.drop (j + 1)) = p1 + exNs (args.drop (j + 1)) := by simp only [exNs]; omega
      rw [hn]
      unfold Loop at hB
      simp -implicitDefEqProofs only [go_sem, simprocAttr, Tryz.f155, loopOf] at hB
      subst hB
      rw [RL_eq]
      simp -implicitDefEqProofs only [go_sem, simprocAttr, h1, hH, h7, hg, exC_len, exC_take, w1, r]
      rw [ih2]
theorem c_sizes : ∀ e : Ex, exN e ≤ 1000000 → ∀ p t : Nat, p ≤ 400 → t ≤ 30 → Counts (.call 155 [.agg (exC e), I (t : Int), .ptr 0 0] [.cells [I (p : Int)]]) (decide (p + exN e ≤ 400) && decide (t + exD e ≤ 25)) (p + exN e) := by
  refine Ex.ind fun e ih => ?_
  obtain ⟨k, op, n, v, src, nm, dd, args⟩ := e
  intro hN p t hp ht
  simp only [Ex.args] at ih
  simp only [exN] at hN
  have hl := exNs_len args
  have ih : ∀ a ∈ args, ∀ p t : Nat, p ≤ 400 → t ≤ 30 → Counts (.call 155 [.agg (exC a), I (t : Int), .ptr 0 0] [.cells [I (p : Int)]]) (decide (p + exN a ≤ 400) && decide (t + exD a ≤ 25)) (p + exN a) := fun a ha => ih a ha (by have := exN_mem ha; omega)
  have w1 : wrapI .i64 ((p : Int) + 1) = ((p + 1 : Nat) : Int) := by rw [wrap_id (by omega) (by omega)]; omega
  have ep := exD_le (.mk k op n v src nm dd args)
  by_cases h1 : p + 1 ≤ 400
  · have d1 : decide ((400 : Int) < ((p + 1 : Nat) : Int)) = false := decide_eq_false (by omega)
    by_cases h2 : t ≤ 24
    · have d2 : decide ((24 : Int) < (t : Int)) = false := decide_eq_false (by omega)
      obtain ⟨p', s1, lk⟩ := l_sizes args ih t h2 (exC (.mk k op n v src nm dd args)) (exC_locs _) (by omega) [.code _] args.length 0 0 (p + 1) _ rfl rfl (by omega) h1
      simp only [List.drop_zero, exC] at lk
      have hk : (decide (p + exN (.mk k op n v src nm dd args) ≤ 400) && decide (t + exD (.mk k op n v src nm dd args) ≤ 25)) = okL (p + 1) t args := by
        rw [Bool.eq_iff_iff]
        simp only [okL, Bool.and_eq_true, decide_eq_true_eq]
        simp only [exN, exD]
        omega
      rw [hk]
      cases hok : okL (p + 1) t args with
      | true =>
        rw [if_pos hok] at lk
        refine ⟨p + 1 + exNs args, ?_, fun _ => by simp only [exN]; omega, ?_⟩
        · rw [call_155]
          simp -implicitDefEqProofs only [go_sem, simprocAttr, Tryz.f155, exC, exR_len, w1, d1, d2]
          rw [lk]
          simp -implicitDefEqProofs only [go_sem, simprocAttr]
        · simp only [okL, Bool.and_eq_true, decide_eq_true_eq] at hok; omega
      | false =>
        rw [if_neg (by rw [hok]; simp)] at lk
        refine ⟨p', ?_, fun h => by simp at h, s1⟩
        rw [call_155]
        simp -implicitDefEqProofs only [go_sem, simprocAttr, Tryz.f155, exC, exR_len, w1, d1, d2]
        rw [lk]
    · have d2 : decide ((24 : Int) < (t : Int)) = true := decide_eq_true (by omega)
      have hk : (decide (p + exN (.mk k op n v src nm dd args) ≤ 400) && decide (t + exD (.mk k op n v src nm dd args) ≤ 25)) = false := by
        simp only [Bool.and_eq_false_iff, decide_eq_false_iff_not]
        simp only [exN, exD]; omega
      rw [hk]
      refine ⟨p + 1, ?_, fun h => by simp at h, by omega⟩
      rw [call_155]
      simp -implicitDefEqProofs only [go_sem, simprocAttr, Tryz.f155, exC, exR_len, w1, d1, d2]
  · have d1 : decide ((400 : Int) < ((p + 1 : Nat) : Int)) = true := decide_eq_true (by omega)
    have hk : (decide (p + exN (.mk k op n v src nm dd args) ≤ 400) && decide (t + exD (.mk k op n v src nm dd args) ≤ 25)) = false := by
      simp only [Bool.and_eq_false_iff, decide_eq_false_iff_not]
      simp only [exN, exD]; omega
    rw [hk]
    refine ⟨p + 1, ?_, fun h => by simp at h, by omega⟩
    rw [call_155]
    simp -implicitDefEqProofs only [go_sem, simprocAttr, Tryz.f155, exC, exR_len, w1, d1]
theorem c_small (e : Ex) (hN : exN e ≤ 1000000) : R K (.call 104 [.agg (exC e)] []) = some (.bool (smallS e), []) := by
  obtain ⟨p', r, _, _⟩ := c_sizes e hN 0 1 (by omega) (by omega)
  have hk : (decide (0 + exN e ≤ 400) && decide (1 + exD e ≤ 25)) = smallS e := by
    rw [Bool.eq_iff_iff]
    simp only [smallS, Bool.and_eq_true, decide_eq_true_eq]
    omega
  rw [hk] at r
  simp only [Int.natCast_zero, Int.natCast_one] at r
  rw [call_104]
  simp -implicitDefEqProofs only [go_sem, simprocAttr, Tryz.f104, r]
def fitsS : List Int → Int → Option Int
  | [], o => some o
  | k :: r, o => if k = 0 ∨ k = o then fitsS r o else if o = 0 then fitsS r k else none
def okI (x : Option Int) : AV := match x with
  | some k => .tup [I k, .bool true]
  | none => .tup [I 0, .bool false]
theorem l_Fits (l : List Int) (hl : l.length ≤ 1000000) (ks : List It) : ∀ (m j : Nat) (i o : Int) (Bo : Code), Loop Tryz.f223 0 Bo → i = (j : Int) → l.length = j + m →
   RL K (.run 223 0 (.code Bo :: .lp Bo (some ([4, 7, 8, 9], [])) 0 :: .blk 0 0 :: ks) [(4, I o), (7, LR l), (8, I (l.length : Int)), (9, I i)] []) =
   match fitsS (l.drop j) o with
   | some o' => R K (.run 223 0 ks [(4, I o')] [])
   | none => some (.tup [I 0, .bool false], [])
  | 0, j, i, o, Bo, hB, hi, hj => by
    subst hi
    have h1 : decide ((j : Int) < (l.length : Int)) = false := decide_eq_false (by omega)
    rw [List.drop_of_length_le (by omega)]
    simp only [fitsS]
    unfold Loop at hB
    simp -implicitDefEqProofs only [go_sem, simprocAttr, Tryz.f223, loopOf] at hB
    subst hB
    rw [RL_eq]
    simp -implicitDefEqProofs only [go_sem, simprocAttr, h1]
  | m + 1, j, i, o, Bo, hB, hi, hj => by
    subst hi
    have hB' := hB
    have h1 : decide ((j : Int) < (l.length : Int)) = true := decide_eq_true (by omega)
    have h7 := next_id (i := j) (n := l.length) (by omega) (by omega)
    obtain ⟨x, hx⟩ := some_at (l := l) (i := j) (by omega)
    have hg := int_get hx
    rw [drop_get hx]
    simp only [fitsS]
    have ih := fun o => l_Fits l hl ks m (j + 1) _ o Bo hB' rfl (by omega)
    by_cases c0 : x = 0
    · have b0 : (x == 0) = true := by simp [c0]
      rw [if_pos (.inl c0)]
      unfold Loop at hB
      simp -implicitDefEqProofs only [go_sem, simprocAttr, Tryz.f223, loopOf] at hB
      subst hB
      rw [RL_eq]
      simp -implicitDefEqProofs only [go_sem, simprocAttr, h1, h7, hg, b0]
      rw [ih]
    have b0 : (x == 0) = false := by simpa using c0
    by_cases c1 : x = o
    · have b1 : (x == o) = true := by simp [c1]
      rw [if_pos (.inr c1)]
      unfold Loop at hB
      simp -implicitDefEqProofs only [go_sem, simprocAttr, Tryz.f223, loopOf] at hB
      subst hB
      rw [RL_eq]
      simp -implicitDefEqProofs only [go_sem, simprocAttr, h1, h7, hg, b0, b1]
      rw [ih]
    have b1 : (x == o) = false := by simpa using c1
    rw [if_neg (by simp [c0, c1])]
    by_cases c2 : o = 0
    · have b2 : (o == 0) = true := by simp [c2]
      rw [if_pos c2]
      unfold Loop at hB
      simp -implicitDefEqProofs only [go_sem, simprocAttr, Tryz.f223, loopOf] at hB
      subst hB
      rw [RL_eq]
      simp -implicitDefEqProofs only [go_sem, simprocAttr, h1, h7, hg, b0, b1, b2]
      rw [ih]
    · have b2 : (o == 0) = false := by simpa using c2
      rw [if_neg c2]
      unfold Loop at hB
      simp -implicitDefEqProofs only [go_sem, simprocAttr, Tryz.f223, loopOf] at hB
      subst hB
      rw [RL_eq]
      simp -implicitDefEqProofs only [go_sem, simprocAttr, h1, h7, hg, b0, b1, b2]
theorem r_Fits (l : List Int) (hl : l.length ≤ 1000000) : R K (.call 223 [LR l] []) = some (okI (fitsS l 0), []) := by
  have lk := fun ks B hB => l_Fits l hl ks l.length 0 0 0 B hB rfl (by omega)
  simp only [List.drop_zero] at lk
  rw [call_223]
  simp -implicitDefEqProofs only [go_sem, simprocAttr, Tryz.f223]
  rw [lk _ _ ?_]
  · cases fitsS l 0 with
    | some o =>
      simp -implicitDefEqProofs only [go_sem, simprocAttr]
      rfl
    | none => rfl
  · rfl
theorem l_common (l : List Int) (hl : l.length ≤ 1000000) (hk : ∀ x ∈ l, 0 ≤ x) (ks : List It) : ∀ (m j : Nat) (i o : Int) (Bo : Code), Loop Tryz.f161 0 Bo → i = (j : Int) → l.length = j + m → 0 ≤ o →
   RL K (.run 161 0 (.code Bo :: .lp Bo (some ([4, 7, 8, 9], [])) 0 :: .blk 0 0 :: ks) [(4, I o), (7, LR l), (8, I (l.length : Int)), (9, I i)] []) =
   match fitsS (l.drop j) o with
   | some o' => R K (.run 161 0 ks [(4, I o')] [])
   | none => some (.tup [I 0, .bool false], [])
  | 0, j, i, o, Bo, hB, hi, hj, ho => by
    subst hi
    have h1 : decide ((j : Int) < (l.length : Int)) = false := decide_eq_false (by omega)
    rw [List.drop_of_length_le (by omega)]
    simp only [fitsS]
    unfold Loop at hB
    simp -implicitDefEqProofs only [go_sem, simprocAttr, Tryz.f161, loopOf] at hB
    subst hB
    rw [RL_eq]
    simp -implicitDefEqProofs only [go_sem, simprocAttr, h1]
  | m + 1, j, i, o, Bo, hB, hi, hj, ho => by
    subst hi
    have hB' := hB
    have h1 : decide ((j : Int) < (l.length : Int)) = true := decide_eq_true (by omega)
    have h7 := next_id (i := j) (n := l.length) (by omega) (by omega)
    obtain ⟨x, hx⟩ := some_at (l := l) (i := j) (by omega)
    have hx0 := hk x (List.mem_of_getElem? hx)
    have hg := int_get hx
    rw [drop_get hx]
    simp only [fitsS]
    have ih := fun o ho => l_common l hl hk ks m (j + 1) _ o Bo hB' rfl (by omega) ho
    have bn : ∀ a b : Int, (a != b) = !(a == b) := fun _ _ => rfl
    by_cases c2 : o = 0
    · subst c2
      by_cases c0 : x = 0
      · subst c0
        rw [if_pos (.inl rfl)]
        unfold Loop at hB
        simp -implicitDefEqProofs only [go_sem, simprocAttr, Tryz.f161, loopOf] at hB
        subst hB
        rw [RL_eq]
        simp -implicitDefEqProofs only [go_sem, simprocAttr, h1, h7, hg, bn, beq_self_eq_true]
        rw [ih 0 (by omega)]
      · have b0 : (x == 0) = false := by simpa using c0
        have m1 : (if (0 : Int) < x then x else 0) = x := if_pos (by omega)
        rw [if_neg (by simp [c0]), if_pos rfl]
        unfold Loop at hB
        simp -implicitDefEqProofs only [go_sem, simprocAttr, Tryz.f161, loopOf] at hB
        subst hB
        rw [RL_eq]
        simp -implicitDefEqProofs only [go_sem, simprocAttr, h1, h7, hg, bn, b0, m1, beq_self_eq_true]
        rw [ih x hx0]
    · have b2 : (o == 0) = false := by simpa using c2
      by_cases c0 : x = 0
      · subst c0
        have m1 : (if o < 0 then 0 else o) = o := if_neg (by omega)
        rw [if_pos (.inl rfl)]
        unfold Loop at hB
        simp -implicitDefEqProofs only [go_sem, simprocAttr, Tryz.f161, loopOf] at hB
        subst hB
        rw [RL_eq]
        simp -implicitDefEqProofs only [go_sem, simprocAttr, h1, h7, hg, bn, b2, m1, beq_self_eq_true]
        rw [ih o ho]
      · have b0 : (x == 0) = false := by simpa using c0
        by_cases c1 : x = o
        · subst c1
          have m1 : (if x < x then x else x) = x := by simp
          rw [if_pos (.inr rfl)]
          unfold Loop at hB
          simp -implicitDefEqProofs only [go_sem, simprocAttr, Tryz.f161, loopOf] at hB
          subst hB
          rw [RL_eq]
          simp -implicitDefEqProofs only [go_sem, simprocAttr, h1, h7, hg, bn, b2, m1, beq_self_eq_true]
          rw [ih x ho]
        · have b1 : (x == o) = false := by simpa using c1
          rw [if_neg (by simp [c0, c1]), if_neg c2]
          unfold Loop at hB
          simp -implicitDefEqProofs only [go_sem, simprocAttr, Tryz.f161, loopOf] at hB
          subst hB
          rw [RL_eq]
          simp -implicitDefEqProofs only [go_sem, simprocAttr, h1, h7, hg, bn, b0, b1, b2]
theorem c_common (l : List Int) (hl : l.length ≤ 1000000) (hk : ∀ x ∈ l, 0 ≤ x) : R K (.call 161 [LR l] []) = some (okI (fitsS l 0), []) := by
  have lk := fun ks B hB => l_common l hl hk ks l.length 0 0 0 B hB rfl (by omega) (by omega)
  simp only [List.drop_zero] at lk
  rw [call_161]
  simp -implicitDefEqProofs only [go_sem, simprocAttr, Tryz.f161]
  rw [lk _ _ ?_]
  · cases fitsS l 0 with
    | some o =>
      simp -implicitDefEqProofs only [go_sem, simprocAttr]
      rfl
    | none => rfl
  · rfl
def namesB : List UInt8 := (([110, 111, 116, 32, 97, 110, 100, 32, 111, 114, 32, 101, 113, 117, 97, 108, 32, 117, 110, 101, 113, 117, 97, 108, 32, 108, 101, 115, 115, 32, 97, 116, 109, 111, 115, 116] : List UInt8).append [32, 103, 114, 101, 97, 116, 101, 114, 32, 97, 116, 108, 101, 97, 115, 116, 32, 115, 97, 109, 101, 32, 110, 117, 108, 108, 32, 97, 100, 100, 32, 115, 117, 98, 32, 109, 117]).append (([108, 32, 100, 105, 118, 32, 109, 111, 100, 32, 110, 101, 103, 32, 99, 111, 110, 99, 97, 116, 32, 108, 105, 107, 101, 32, 108, 111, 119, 101, 114, 32, 117, 112, 112, 101, 114] : List UInt8).append [32, 108, 101, 110, 103, 116, 104, 32, 112, 97, 114, 116, 32, 99, 111, 97, 108, 101, 115, 99, 101, 32, 116, 114, 117, 110, 99, 32, 117, 110, 105, 116, 32, 99, 97, 115, 116])
def opNames : List (List UInt8) := [[110, 111, 116], [97, 110, 100], [111, 114], [101, 113, 117, 97, 108], [117, 110, 101, 113, 117, 97, 108], [108, 101, 115, 115], [97, 116, 109, 111, 115, 116], [103, 114, 101, 97, 116, 101, 114], [97, 116, 108, 101, 97, 115, 116], [115, 97, 109, 101], [110, 117, 108, 108], [97, 100, 100], [115, 117, 98], [109, 117, 108], [100, 105, 118], [109, 111, 100], [110, 101, 103], [99, 111, 110, 99, 97, 116], [108, 105, 107, 101], [108, 111, 119, 101, 114], [117, 112, 112, 101, 114], [108, 101, 110, 103, 116, 104], [112, 97, 114, 116], [99, 111, 97, 108, 101, 115, 99, 101], [116, 114, 117, 110, 99], [117, 110, 105, 116], [99, 97, 115, 116]]
theorem names_len : opNames.length = 27 := by decide
theorem names_ne : ∀ s ∈ opNames, s ≠ [] := by decide
theorem names_fields : Lib.fields namesB = opNames := by decide +kernel
def opNameS (op : Int) : List UInt8 := if within op 1 27 = true then (opNames[(op - 1).toNat]?).getD [] else []
theorem opName_at {op : Int} (h : within op 1 27 = true) : at? (opNames.map fun s => [AV.str s]) (op - 1) = some [.str (opNameS op)] := by
  have hb := (wit_iff op 1 27).1 h
  have hl := names_len
  obtain ⟨x, hx⟩ := some_at (l := opNames) (i := (op - 1).toNat) (by omega)
  unfold at? opNameS
  rw [if_pos (by omega), if_pos h, hx, List.getElem?_map, hx]
  rfl
theorem opName_ne {op : Int} (h : within op 1 27 = true) : opNameS op ≠ [] := by
  have hb := (wit_iff op 1 27).1 h
  have hl := names_len
  obtain ⟨x, hx⟩ := some_at (l := opNames) (i := (op - 1).toNat) (by omega)
  unfold opNameS
  rw [if_pos h, hx]
  exact names_ne x (List.mem_of_getElem? hx)
theorem p_names : R K (.call 267 [.str namesB] []) = some (.rows (opNames.map fun s => [.str s]), []) := R_prim (by
  show (if (decide (namesB.length < 4294967281) && namesB.all fun b => decide (b.toNat < 128)) = true then some (AV.rows ((Lib.fields namesB).map fun l => [.str l])) else none) = _
  rw [names_fields]
  exact if_pos (by decide +kernel))
theorem c_opName (op : Int) : R K (.call 212 [I op] []) = some (.str (opNameS op), []) := by
  have hn := p_names
  unfold namesB at hn
  cases h : within op 1 27 with
  | false =>
    have e : opNameS op = [] := by unfold opNameS; rw [if_neg (by rw [h]; simp)]
    rw [e]
    rw [call_212]
    simp -implicitDefEqProofs only [go_sem, simprocAttr, Tryz.f212, c_within, h]
  | true =>
    have hb := (wit_iff op 1 27).1 h
    have hg := opName_at h
    have w : wrapI .i64 (op - 1) = op - 1 := wrap_id (by omega) (by omega)
    rw [call_212]
    simp -implicitDefEqProofs only [go_sem, simprocAttr, Tryz.f212, c_within, h, hn, w, hg]
def hasNS (op : Int) : Bool := within op 25 27
theorem c_usesN (op : Int) : R K (.call 213 [I op] []) = some (.bool (hasNS op), []) := by
  rw [call_213]
  simp -implicitDefEqProofs only [go_sem, simprocAttr, Tryz.f213, c_within]
  all_goals rfl
def arityS (op : Int) : Int := if op = 1 ∨ op = 11 ∨ op = 17 ∨ op = 20 ∨ op = 21 ∨ op = 22 ∨ op = 25 ∨ op = 26 ∨ op = 27 then 1 else if op = 23 then 3 else if op = 24 then -1 else 2
theorem c_arity (op : Int) : R K (.call 268 [I op] []) = some (I (arityS op), []) := by
  rw [call_268]
  simp -implicitDefEqProofs only [go_sem, simprocAttr, Tryz.f268]
  repeat' ((first | apply split_cond | apply split_yes | apply split_no) <;> intro hc <;> simp -implicitDefEqProofs only [hc, go_sem, simprocAttr])
  all_goals (simp only [beq_iff_eq, beq_eq_false_iff_ne] at *; simp_all [arityS])
def argsOk (k op len : Int) : Bool := if k = 4 then (if 0 ≤ arityS op then len == arityS op else decide (2 ≤ len)) else if k = 5 then decide (3 ≤ len) && (len.tmod 2 == 1) else if k = 6 then decide (2 ≤ len) else len == 0
theorem c_rightArgs (e : Ex) : R K (.call 214 [.agg (exC e)] []) = some (.bool (argsOk e.k e.op (e.args.length : Int)), []) := by
  have ha := c_arity e.op
  by_cases h4 : e.k = 4
  · have e1 : argsOk e.k e.op (e.args.length : Int) = if 0 ≤ arityS e.op then (e.args.length : Int) == arityS e.op else decide (2 ≤ (e.args.length : Int)) := by unfold argsOk; rw [if_pos h4]
    rw [e1]
    by_cases h0 : 0 ≤ arityS e.op
    · have d0 : decide (0 ≤ arityS e.op) = true := decide_eq_true h0
      rw [if_pos h0]
      rw [call_214]
      simp -implicitDefEqProofs only [go_sem, simprocAttr, Tryz.f214, exC_eq, exR_len, h4, ha, d0]
    · have d0 : decide (0 ≤ arityS e.op) = false := decide_eq_false h0
      rw [if_neg h0]
      rw [call_214]
      simp -implicitDefEqProofs only [go_sem, simprocAttr, Tryz.f214, exC_eq, exR_len, h4, ha, d0]
  have b4 : (e.k == 4) = false := by simpa using h4
  by_cases h5 : e.k = 5
  · have e1 : argsOk e.k e.op (e.args.length : Int) = (decide (3 ≤ (e.args.length : Int)) && ((e.args.length : Int).tmod 2 == 1)) := by unfold argsOk; rw [if_neg h4, if_pos h5]
    rw [e1]
    by_cases h3 : (3 : Int) ≤ e.args.length
    · have d3 : decide ((3 : Int) ≤ e.args.length) = true := decide_eq_true h3
      rw [call_214]
      simp -implicitDefEqProofs only [go_sem, simprocAttr, Tryz.f214, exC_eq, exR_len, h5, d3]
    · have d3 : decide ((3 : Int) ≤ e.args.length) = false := decide_eq_false h3
      rw [call_214]
      simp -implicitDefEqProofs only [go_sem, simprocAttr, Tryz.f214, exC_eq, exR_len, h5, d3]
  have b5 : (e.k == 5) = false := by simpa using h5
  by_cases h6 : e.k = 6
  · have e1 : argsOk e.k e.op (e.args.length : Int) = decide (2 ≤ (e.args.length : Int)) := by unfold argsOk; rw [if_neg h4, if_neg h5, if_pos h6]
    rw [e1]
    rw [call_214]
    simp -implicitDefEqProofs only [go_sem, simprocAttr, Tryz.f214, exC_eq, exR_len, h6]
  have b6 : (e.k == 6) = false := by simpa using h6
  have e1 : argsOk e.k e.op (e.args.length : Int) = ((e.args.length : Int) == 0) := by unfold argsOk; rw [if_neg h4, if_neg h5, if_neg h6]
  rw [e1]
  rw [call_214]
  simp -implicitDefEqProofs only [go_sem, simprocAttr, Tryz.f214, exC_eq, exR_len, b4, b5, b6]
def rightNS (op n : Int) : Bool := if op = 25 ∨ op = 26 then within n 1 6 else if op = 27 then within n 1 4 else true
theorem c_rightN (op n : Int) : R K (.call 158 [I op, I n] []) = some (.bool (rightNS op n), []) := by
  rw [call_158]
  simp -implicitDefEqProofs only [go_sem, simprocAttr, Tryz.f158, c_within]
  repeat' ((first | apply split_cond | apply split_yes | apply split_no) <;> intro hc <;> simp -implicitDefEqProofs only [hc, go_sem, simprocAttr, c_within])
  all_goals (simp only [beq_iff_eq, beq_eq_false_iff_ne] at *; simp_all [rightNS])
theorem fault_eq (v : Val) (hk : within v.k 1 4 = true) : faultS v = if formS v = false then 3 else if 100 < v.s.length then 2 else if rangeS v = false then 1 else 0 := by
  obtain ⟨k, n, s⟩ := v
  have hb := (wit_iff k 1 4).1 hk
  have : k = 1 ∨ k = 2 ∨ k = 3 ∨ k = 4 := by omega
  by_cases hs : s = []
  · subst hs
    rcases this with rfl | rfl | rfl | rfl <;> simp [faultS, formS, rangeS, within, ok7]
    all_goals (congr 1; exact propext (by omega))
  · rcases this with rfl | rfl | rfl | rfl <;> simp [faultS, formS, rangeS, within, hs]
theorem c_Check (k n : Int) (s : List UInt8) (hk : within k 1 4 = true) : R K (.call 64 [I k, V k n s] []) = some (I (faultS ⟨k, n, s⟩), []) := by
  have hf := c_form k n s
  have hb := (wit_iff k 1 4).1 hk
  have k0 : (k == 0) = false := by simp; omega
  rw [fault_eq _ hk]
  cases h1 : formS ⟨k, n, s⟩ with
  | false =>
    rw [h1] at hf
    rw [if_pos rfl]
    rw [call_64]
    simp -implicitDefEqProofs only [go_sem, simprocAttr, Tryz.f64, c_within, hk, hf]
  | true =>
    rw [h1] at hf
    rw [if_neg (by simp)]
    by_cases h2 : 100 < s.length
    · have d2 : decide ((100 : Int) < (s.length : Int)) = true := decide_eq_true (by omega)
      rw [if_pos h2]
      rw [call_64]
      simp -implicitDefEqProofs only [go_sem, simprocAttr, Tryz.f64, c_within, hk, hf, bne, k0, beq_self_eq_true, d2]
    · have d2 : decide ((100 : Int) < (s.length : Int)) = false := decide_eq_false (by omega)
      have hr := c_range k n s (by omega)
      rw [if_neg h2]
      cases h3 : rangeS ⟨k, n, s⟩ with
      | false =>
        rw [h3] at hr
        rw [if_pos rfl]
        rw [call_64]
        simp -implicitDefEqProofs only [go_sem, simprocAttr, Tryz.f64, c_within, hk, hf, bne, k0, beq_self_eq_true, d2, hr]
      | true =>
        rw [h3] at hr
        rw [if_neg (by simp)]
        rw [call_64]
        simp -implicitDefEqProofs only [go_sem, simprocAttr, Tryz.f64, c_within, hk, hf, bne, k0, beq_self_eq_true, d2, hr]
def nullB (v : Val) : Bool := v.k == 0 && (v.n == 0 && v.s == [])
def partBad (e : Ex) : Bool := (e.k != 4 && e.op != 0) || ((!(e.k == 2 || (e.k == 4 && hasNS e.op)) && e.n != 0) || ((e.k != 1 && !nullB e.v) || ((e.k != 3 && !(e.src ++ e.nm == [])) || (e.d || !argsOk e.k e.op (e.args.length : Int)))))
def exF (e : Ex) : Int := if within e.k 1 6 = false ∨ (e.k = 4 ∧ within e.op 1 27 = false) then 4 else if partBad e = true then 3 else 0
def formOfS (e : Ex) : Int := if exF e ≠ 0 then exF e else if e.k = 1 then faultS e.v else 0
theorem form_of0 (e : Ex) (h : e.v.k = 0) : faultS e.v = if formS e.v = false then 3 else 0 := by
  generalize e.v = v at h
  obtain ⟨k, n, s⟩ := v
  simp only at h
  subst h
  by_cases hs : s = []
  · subst hs; by_cases hn : n = 0 <;> simp [faultS, formS, within, ok7, hn]
  · simp [faultS, formS, within, hs]
theorem fault_out (v : Val) (h0 : v.k ≠ 0) (h : within v.k 1 4 = false) : faultS v = 3 := by
  have : within v.k 0 4 = false := by
    refine within_no fun hb => ?_
    have : within v.k 1 4 = true := (wit_iff _ _ _).2 (by omega)
    rw [this] at h; simp at h
  simp [faultS, this]
theorem c_formOf1 (e : Ex) (h1 : e.src.length ≤ 100) (h2 : e.nm.length ≤ 100) (q : e.k = 1) : R K (.call 156 [.agg (exC e)] []) = some (I (formOfS e), []) := by
  have hra := c_rightArgs e
  rw [exC_eq] at hra
  have ho := c_opName e.op
  have hu := c_usesN e.op
  have hs : (e.src.length + e.nm.length ≤ strMax) = True := eq_true (by unfold strMax; omega)
  have hk : within e.k 1 6 = true := by rw [q]; decide
  by_cases v0 : e.v.k = 0
  · have hf := c_form e.v.k e.v.n e.v.s
    have hq := form_of0 e v0
    have b0 : (e.v.k == 0) = true := by simp [v0]
    cases hff : formS e.v with
    | false =>
      rw [Val.eta, hff] at hf
      rw [hff] at hq
      cases hd : e.d with
      | true =>
        rw [call_156]
        simp -implicitDefEqProofs only [go_sem, simprocAttr, Tryz.f156, exC_eq, c_within, hk, q, bne, hs, hra, b0, hf, hd]
        repeat' ((first | apply split_cond | apply split_yes | apply split_no) <;> intro hc <;> simp -implicitDefEqProofs only [hc, go_sem, simprocAttr, exC_eq, c_within, hk, q, bne, hs, hra, b0, hf, hd])
        all_goals simp_all [formOfS, exF, partBad, nullB, within, bne]
      | false =>
        rw [hd, q] at hra
        rw [call_156]
        simp -implicitDefEqProofs only [go_sem, simprocAttr, Tryz.f156, exC_eq, c_within, hk, q, bne, hs, hra, b0, hf, hd]
        repeat' ((first | apply split_cond | apply split_yes | apply split_no) <;> intro hc <;> simp -implicitDefEqProofs only [hc, go_sem, simprocAttr, exC_eq, c_within, hk, q, bne, hs, hra, b0, hf, hd])
        all_goals simp_all [formOfS, exF, partBad, nullB, within, bne]
    | true =>
      rw [Val.eta, hff] at hf
      rw [hff] at hq
      cases hd : e.d with
      | true =>
        rw [call_156]
        simp -implicitDefEqProofs only [go_sem, simprocAttr, Tryz.f156, exC_eq, c_within, hk, q, bne, hs, hra, b0, hf, hd]
        repeat' ((first | apply split_cond | apply split_yes | apply split_no) <;> intro hc <;> simp -implicitDefEqProofs only [hc, go_sem, simprocAttr, exC_eq, c_within, hk, q, bne, hs, hra, b0, hf, hd])
        all_goals simp_all [formOfS, exF, partBad, nullB, within, bne]
      | false =>
        rw [hd, q] at hra
        rw [call_156]
        simp -implicitDefEqProofs only [go_sem, simprocAttr, Tryz.f156, exC_eq, c_within, hk, q, bne, hs, hra, b0, hf, hd]
        repeat' ((first | apply split_cond | apply split_yes | apply split_no) <;> intro hc <;> simp -implicitDefEqProofs only [hc, go_sem, simprocAttr, exC_eq, c_within, hk, q, bne, hs, hra, b0, hf, hd])
        all_goals simp_all [formOfS, exF, partBad, nullB, within, bne]
  · have b0 : (e.v.k == 0) = false := by simpa using v0
    cases hw : within e.v.k 1 4 with
    | false =>
      have hq := fault_out e.v v0 hw
      cases hd : e.d with
      | true =>
        rw [call_156]
        simp -implicitDefEqProofs only [go_sem, simprocAttr, Tryz.f156, exC_eq, c_within, hk, q, bne, hs, hra, b0, hw, hd]
        repeat' ((first | apply split_cond | apply split_yes | apply split_no) <;> intro hc <;> simp -implicitDefEqProofs only [hc, go_sem, simprocAttr, exC_eq, c_within, hk, q, bne, hs, hra, b0, hw, hd])
        all_goals simp_all [formOfS, exF, partBad, nullB, bne]
      | false =>
        rw [hd, q] at hra
        rw [call_156]
        simp -implicitDefEqProofs only [go_sem, simprocAttr, Tryz.f156, exC_eq, c_within, hk, q, bne, hs, hra, b0, hw, hd]
        repeat' ((first | apply split_cond | apply split_yes | apply split_no) <;> intro hc <;> simp -implicitDefEqProofs only [hc, go_sem, simprocAttr, exC_eq, c_within, hk, q, bne, hs, hra, b0, hw, hd])
        all_goals simp_all [formOfS, exF, partBad, nullB, bne]
    | true =>
      have hch := c_Check e.v.k e.v.n e.v.s hw
      rw [Val.eta] at hch
      cases hd : e.d with
      | true =>
        rw [call_156]
        simp -implicitDefEqProofs only [go_sem, simprocAttr, Tryz.f156, exC_eq, c_within, hk, q, bne, hs, hra, b0, hw, hch, hd]
        repeat' ((first | apply split_cond | apply split_yes | apply split_no) <;> intro hc <;> simp -implicitDefEqProofs only [hc, go_sem, simprocAttr, exC_eq, c_within, hk, q, bne, hs, hra, b0, hw, hch, hd])
        all_goals simp_all [formOfS, exF, partBad, nullB, bne]
      | false =>
        rw [hd, q] at hra
        rw [call_156]
        simp -implicitDefEqProofs only [go_sem, simprocAttr, Tryz.f156, exC_eq, c_within, hk, q, bne, hs, hra, b0, hw, hch, hd]
        repeat' ((first | apply split_cond | apply split_yes | apply split_no) <;> intro hc <;> simp -implicitDefEqProofs only [hc, go_sem, simprocAttr, exC_eq, c_within, hk, q, bne, hs, hra, b0, hw, hch, hd])
        all_goals simp_all [formOfS, exF, partBad, nullB, bne]
theorem c_formOf2 (e : Ex) (h1 : e.src.length ≤ 100) (h2 : e.nm.length ≤ 100) (q : e.k = 2) : R K (.call 156 [.agg (exC e)] []) = some (I (formOfS e), []) := by
  have hra := c_rightArgs e
  rw [exC_eq] at hra
  have ho := c_opName e.op
  have hu := c_usesN e.op
  have hs : (e.src.length + e.nm.length ≤ strMax) = True := eq_true (by unfold strMax; omega)
  have hk : within e.k 1 6 = true := by rw [q]; decide
  cases hd : e.d with
  | true =>
    rw [call_156]
    simp -implicitDefEqProofs only [go_sem, simprocAttr, Tryz.f156, exC_eq, c_within, hk, q, bne, hs, hu, hra, hd]
    repeat' ((first | apply split_cond | apply split_yes | apply split_no) <;> intro hc <;> simp -implicitDefEqProofs only [hc, go_sem, simprocAttr, exC_eq, c_within, hk, q, bne, hs, hu, hra, hd])
    all_goals simp_all [formOfS, exF, partBad, nullB, within, bne]
  | false =>
    rw [hd, q] at hra
    rw [call_156]
    simp -implicitDefEqProofs only [go_sem, simprocAttr, Tryz.f156, exC_eq, c_within, hk, q, bne, hs, hu, hra, hd]
    repeat' ((first | apply split_cond | apply split_yes | apply split_no) <;> intro hc <;> simp -implicitDefEqProofs only [hc, go_sem, simprocAttr, exC_eq, c_within, hk, q, bne, hs, hu, hra, hd])
    all_goals simp_all [formOfS, exF, partBad, nullB, within, bne]
theorem c_formOf3 (e : Ex) (h1 : e.src.length ≤ 100) (h2 : e.nm.length ≤ 100) (q : e.k = 3) : R K (.call 156 [.agg (exC e)] []) = some (I (formOfS e), []) := by
  have hra := c_rightArgs e
  rw [exC_eq] at hra
  have ho := c_opName e.op
  have hu := c_usesN e.op
  have hs : (e.src.length + e.nm.length ≤ strMax) = True := eq_true (by unfold strMax; omega)
  have hk : within e.k 1 6 = true := by rw [q]; decide
  cases hd : e.d with
  | true =>
    rw [call_156]
    simp -implicitDefEqProofs only [go_sem, simprocAttr, Tryz.f156, exC_eq, c_within, hk, q, bne, hs, hu, hra, hd]
    repeat' ((first | apply split_cond | apply split_yes | apply split_no) <;> intro hc <;> simp -implicitDefEqProofs only [hc, go_sem, simprocAttr, exC_eq, c_within, hk, q, bne, hs, hu, hra, hd])
    all_goals simp_all [formOfS, exF, partBad, nullB, within, bne]
  | false =>
    rw [hd, q] at hra
    rw [call_156]
    simp -implicitDefEqProofs only [go_sem, simprocAttr, Tryz.f156, exC_eq, c_within, hk, q, bne, hs, hu, hra, hd]
    repeat' ((first | apply split_cond | apply split_yes | apply split_no) <;> intro hc <;> simp -implicitDefEqProofs only [hc, go_sem, simprocAttr, exC_eq, c_within, hk, q, bne, hs, hu, hra, hd])
    all_goals simp_all [formOfS, exF, partBad, nullB, within, bne]
theorem c_formOf4 (e : Ex) (h1 : e.src.length ≤ 100) (h2 : e.nm.length ≤ 100) (q : e.k = 4) : R K (.call 156 [.agg (exC e)] []) = some (I (formOfS e), []) := by
  have hra := c_rightArgs e
  rw [exC_eq] at hra
  have ho := c_opName e.op
  have hu := c_usesN e.op
  have hs : (e.src.length + e.nm.length ≤ strMax) = True := eq_true (by unfold strMax; omega)
  have hk : within e.k 1 6 = true := by rw [q]; decide
  cases hw : within e.op 1 27 with
  | false =>
    have e1 : opNameS e.op = [] := by unfold opNameS; rw [if_neg (by rw [hw]; simp)]
    rw [e1] at ho
    cases hd : e.d with
    | true =>
      rw [call_156]
      simp -implicitDefEqProofs only [go_sem, simprocAttr, Tryz.f156, exC_eq, c_within, hk, q, bne, hs, hu, hra, ho, hd]
      repeat' ((first | apply split_cond | apply split_yes | apply split_no) <;> intro hc <;> simp -implicitDefEqProofs only [hc, go_sem, simprocAttr, exC_eq, c_within, hk, q, bne, hs, hu, hra, ho, hd])
      all_goals simp_all [formOfS, exF, partBad, nullB, bne]
    | false =>
      rw [hd, q] at hra
      rw [call_156]
      simp -implicitDefEqProofs only [go_sem, simprocAttr, Tryz.f156, exC_eq, c_within, hk, q, bne, hs, hu, hra, ho, hd]
      repeat' ((first | apply split_cond | apply split_yes | apply split_no) <;> intro hc <;> simp -implicitDefEqProofs only [hc, go_sem, simprocAttr, exC_eq, c_within, hk, q, bne, hs, hu, hra, ho, hd])
      all_goals simp_all [formOfS, exF, partBad, nullB, bne]
  | true =>
    have e1 : (opNameS e.op == []) = false := by simpa using opName_ne hw
    cases hd : e.d with
    | true =>
      rw [call_156]
      simp -implicitDefEqProofs only [go_sem, simprocAttr, Tryz.f156, exC_eq, c_within, hk, q, bne, hs, hu, hra, ho, e1, hd]
      repeat' ((first | apply split_cond | apply split_yes | apply split_no) <;> intro hc <;> simp -implicitDefEqProofs only [hc, go_sem, simprocAttr, exC_eq, c_within, hk, q, bne, hs, hu, hra, ho, e1, hd])
      all_goals simp_all [formOfS, exF, partBad, nullB, bne]
    | false =>
      rw [hd, q] at hra
      rw [call_156]
      simp -implicitDefEqProofs only [go_sem, simprocAttr, Tryz.f156, exC_eq, c_within, hk, q, bne, hs, hu, hra, ho, e1, hd]
      repeat' ((first | apply split_cond | apply split_yes | apply split_no) <;> intro hc <;> simp -implicitDefEqProofs only [hc, go_sem, simprocAttr, exC_eq, c_within, hk, q, bne, hs, hu, hra, ho, e1, hd])
      all_goals simp_all [formOfS, exF, partBad, nullB, bne]
theorem c_formOf5 (e : Ex) (h1 : e.src.length ≤ 100) (h2 : e.nm.length ≤ 100) (q : e.k = 5) : R K (.call 156 [.agg (exC e)] []) = some (I (formOfS e), []) := by
  have hra := c_rightArgs e
  rw [exC_eq] at hra
  have ho := c_opName e.op
  have hu := c_usesN e.op
  have hs : (e.src.length + e.nm.length ≤ strMax) = True := eq_true (by unfold strMax; omega)
  have hk : within e.k 1 6 = true := by rw [q]; decide
  cases hd : e.d with
  | true =>
    rw [call_156]
    simp -implicitDefEqProofs only [go_sem, simprocAttr, Tryz.f156, exC_eq, c_within, hk, q, bne, hs, hu, hra, hd]
    repeat' ((first | apply split_cond | apply split_yes | apply split_no) <;> intro hc <;> simp -implicitDefEqProofs only [hc, go_sem, simprocAttr, exC_eq, c_within, hk, q, bne, hs, hu, hra, hd])
    all_goals simp_all [formOfS, exF, partBad, nullB, within, bne]
  | false =>
    rw [hd, q] at hra
    rw [call_156]
    simp -implicitDefEqProofs only [go_sem, simprocAttr, Tryz.f156, exC_eq, c_within, hk, q, bne, hs, hu, hra, hd]
    repeat' ((first | apply split_cond | apply split_yes | apply split_no) <;> intro hc <;> simp -implicitDefEqProofs only [hc, go_sem, simprocAttr, exC_eq, c_within, hk, q, bne, hs, hu, hra, hd])
    all_goals simp_all [formOfS, exF, partBad, nullB, within, bne]
theorem c_formOf6 (e : Ex) (h1 : e.src.length ≤ 100) (h2 : e.nm.length ≤ 100) (q : e.k = 6) : R K (.call 156 [.agg (exC e)] []) = some (I (formOfS e), []) := by
  have hra := c_rightArgs e
  rw [exC_eq] at hra
  have ho := c_opName e.op
  have hu := c_usesN e.op
  have hs : (e.src.length + e.nm.length ≤ strMax) = True := eq_true (by unfold strMax; omega)
  have hk : within e.k 1 6 = true := by rw [q]; decide
  cases hd : e.d with
  | true =>
    rw [call_156]
    simp -implicitDefEqProofs only [go_sem, simprocAttr, Tryz.f156, exC_eq, c_within, hk, q, bne, hs, hu, hra, hd]
    repeat' ((first | apply split_cond | apply split_yes | apply split_no) <;> intro hc <;> simp -implicitDefEqProofs only [hc, go_sem, simprocAttr, exC_eq, c_within, hk, q, bne, hs, hu, hra, hd])
    all_goals simp_all [formOfS, exF, partBad, nullB, within, bne]
  | false =>
    rw [hd, q] at hra
    rw [call_156]
    simp -implicitDefEqProofs only [go_sem, simprocAttr, Tryz.f156, exC_eq, c_within, hk, q, bne, hs, hu, hra, hd]
    repeat' ((first | apply split_cond | apply split_yes | apply split_no) <;> intro hc <;> simp -implicitDefEqProofs only [hc, go_sem, simprocAttr, exC_eq, c_within, hk, q, bne, hs, hu, hra, hd])
    all_goals simp_all [formOfS, exF, partBad, nullB, within, bne]
theorem c_formOf (e : Ex) (h1 : e.src.length ≤ 100) (h2 : e.nm.length ≤ 100) : R K (.call 156 [.agg (exC e)] []) = some (I (formOfS e), []) := by
  by_cases hk : within e.k 1 6 = false
  · have e1 : formOfS e = 4 := by simp [formOfS, exF, hk]
    rw [e1]
    rw [call_156]
    simp -implicitDefEqProofs only [go_sem, simprocAttr, Tryz.f156, exC_eq, c_within, hk]
  have hk : within e.k 1 6 = true := by simpa using hk
  have hb := (wit_iff e.k 1 6).1 hk
  have hc6 : e.k = 1 ∨ e.k = 2 ∨ e.k = 3 ∨ e.k = 4 ∨ e.k = 5 ∨ e.k = 6 := by omega
  rcases hc6 with q | q | q | q | q | q
  · exact c_formOf1 e h1 h2 q
  · exact c_formOf2 e h1 h2 q
  · exact c_formOf3 e h1 h2 q
  · exact c_formOf4 e h1 h2 q
  · exact c_formOf5 e h1 h2 q
  · exact c_formOf6 e h1 h2 q
attribute [go_sem] List.append_eq
theorem r_has (fs c : List UInt8) (h : fs.length ≤ 100) : R K (.call 270 [.str c, .ptr 0 0] [.cells [.str fs]]) = some (.bool (Lib.contains fs c), [.cells [.str fs]]) := by
  have p : R K (.call 271 [.str fs, .str c] []) = some (.bool (Lib.contains fs c), []) := R_prim (by
    show (if decide (fs.length < 4294967281) = true then some (AV.bool (Lib.contains fs c)) else none) = _
    exact if_pos (decide_eq_true (by omega)))
  rw [call_270]
  simp -implicitDefEqProofs only [go_sem, simprocAttr, Tryz.f270, p]
def onlyB (o n v c a : Bool) (e : Ex) : Bool := (o || e.op == 0) && ((n || e.n == 0) && ((v || nullB e.v) && ((c || (e.src == [] && e.nm == [])) && (!e.d && (a || ((e.args.length : Int) == 0))))))
theorem r_only_v (e : Ex) : R K (.call 219 [.agg (exC e), .str [118]] []) = some (.bool (onlyB false false true false false e), []) := by
  have zo := r_has [118] [111] (by decide)
  rw [show Lib.contains [118] [111] = false from by decide] at zo
  have zn := r_has [118] [110] (by decide)
  rw [show Lib.contains [118] [110] = false from by decide] at zn
  have zv := r_has [118] [118] (by decide)
  rw [show Lib.contains [118] [118] = true from by decide] at zv
  have zc := r_has [118] [99] (by decide)
  rw [show Lib.contains [118] [99] = false from by decide] at zc
  have zd := r_has [118] [100] (by decide)
  rw [show Lib.contains [118] [100] = false from by decide] at zd
  have za := r_has [118] [97] (by decide)
  rw [show Lib.contains [118] [97] = false from by decide] at za
  have zs := r_has [118] [115] (by decide)
  rw [show Lib.contains [118] [115] = false from by decide] at zs
  have zg := r_has [118] [103] (by decide)
  rw [show Lib.contains [118] [103] = false from by decide] at zg
  have zr := r_has [118] [114] (by decide)
  rw [show Lib.contains [118] [114] = false from by decide] at zr
  cases hd2 : e.d with
  | true =>
    rw [call_219]
    simp -implicitDefEqProofs only [go_sem, simprocAttr, Tryz.f219, exC_eq, exR_len, hd2, zo, zn, zv, zc, zd, za, zs, zg, zr]
    repeat' ((first | apply split_cond | apply split_yes | apply split_no) <;> intro hc <;> simp -implicitDefEqProofs only [hc, go_sem, simprocAttr, exC_eq, exR_len, hd2, zo, zn, zv, zc, zd, za, zs, zg, zr])
    all_goals simp_all [onlyB, nullB]
  | false =>
    rw [call_219]
    simp -implicitDefEqProofs only [go_sem, simprocAttr, Tryz.f219, exC_eq, exR_len, hd2, zo, zn, zv, zc, zd, za, zs, zg, zr]
    repeat' ((first | apply split_cond | apply split_yes | apply split_no) <;> intro hc <;> simp -implicitDefEqProofs only [hc, go_sem, simprocAttr, exC_eq, exR_len, hd2, zo, zn, zv, zc, zd, za, zs, zg, zr])
    all_goals simp_all [onlyB, nullB]
theorem r_only_n (e : Ex) : R K (.call 219 [.agg (exC e), .str [110]] []) = some (.bool (onlyB false true false false false e), []) := by
  have zo := r_has [110] [111] (by decide)
  rw [show Lib.contains [110] [111] = false from by decide] at zo
  have zn := r_has [110] [110] (by decide)
  rw [show Lib.contains [110] [110] = true from by decide] at zn
  have zv := r_has [110] [118] (by decide)
  rw [show Lib.contains [110] [118] = false from by decide] at zv
  have zc := r_has [110] [99] (by decide)
  rw [show Lib.contains [110] [99] = false from by decide] at zc
  have zd := r_has [110] [100] (by decide)
  rw [show Lib.contains [110] [100] = false from by decide] at zd
  have za := r_has [110] [97] (by decide)
  rw [show Lib.contains [110] [97] = false from by decide] at za
  have zs := r_has [110] [115] (by decide)
  rw [show Lib.contains [110] [115] = false from by decide] at zs
  have zg := r_has [110] [103] (by decide)
  rw [show Lib.contains [110] [103] = false from by decide] at zg
  have zr := r_has [110] [114] (by decide)
  rw [show Lib.contains [110] [114] = false from by decide] at zr
  cases hd2 : e.d with
  | true =>
    rw [call_219]
    simp -implicitDefEqProofs only [go_sem, simprocAttr, Tryz.f219, exC_eq, exR_len, hd2, zo, zn, zv, zc, zd, za, zs, zg, zr]
    repeat' ((first | apply split_cond | apply split_yes | apply split_no) <;> intro hc <;> simp -implicitDefEqProofs only [hc, go_sem, simprocAttr, exC_eq, exR_len, hd2, zo, zn, zv, zc, zd, za, zs, zg, zr])
    all_goals simp_all [onlyB, nullB]
  | false =>
    rw [call_219]
    simp -implicitDefEqProofs only [go_sem, simprocAttr, Tryz.f219, exC_eq, exR_len, hd2, zo, zn, zv, zc, zd, za, zs, zg, zr]
    repeat' ((first | apply split_cond | apply split_yes | apply split_no) <;> intro hc <;> simp -implicitDefEqProofs only [hc, go_sem, simprocAttr, exC_eq, exR_len, hd2, zo, zn, zv, zc, zd, za, zs, zg, zr])
    all_goals simp_all [onlyB, nullB]
theorem r_only_c (e : Ex) : R K (.call 219 [.agg (exC e), .str [99]] []) = some (.bool (onlyB false false false true false e), []) := by
  have zo := r_has [99] [111] (by decide)
  rw [show Lib.contains [99] [111] = false from by decide] at zo
  have zn := r_has [99] [110] (by decide)
  rw [show Lib.contains [99] [110] = false from by decide] at zn
  have zv := r_has [99] [118] (by decide)
  rw [show Lib.contains [99] [118] = false from by decide] at zv
  have zc := r_has [99] [99] (by decide)
  rw [show Lib.contains [99] [99] = true from by decide] at zc
  have zd := r_has [99] [100] (by decide)
  rw [show Lib.contains [99] [100] = false from by decide] at zd
  have za := r_has [99] [97] (by decide)
  rw [show Lib.contains [99] [97] = false from by decide] at za
  have zs := r_has [99] [115] (by decide)
  rw [show Lib.contains [99] [115] = false from by decide] at zs
  have zg := r_has [99] [103] (by decide)
  rw [show Lib.contains [99] [103] = false from by decide] at zg
  have zr := r_has [99] [114] (by decide)
  rw [show Lib.contains [99] [114] = false from by decide] at zr
  cases hd2 : e.d with
  | true =>
    rw [call_219]
    simp -implicitDefEqProofs only [go_sem, simprocAttr, Tryz.f219, exC_eq, exR_len, hd2, zo, zn, zv, zc, zd, za, zs, zg, zr]
    repeat' ((first | apply split_cond | apply split_yes | apply split_no) <;> intro hc <;> simp -implicitDefEqProofs only [hc, go_sem, simprocAttr, exC_eq, exR_len, hd2, zo, zn, zv, zc, zd, za, zs, zg, zr])
    all_goals simp_all [onlyB, nullB]
  | false =>
    rw [call_219]
    simp -implicitDefEqProofs only [go_sem, simprocAttr, Tryz.f219, exC_eq, exR_len, hd2, zo, zn, zv, zc, zd, za, zs, zg, zr]
    repeat' ((first | apply split_cond | apply split_yes | apply split_no) <;> intro hc <;> simp -implicitDefEqProofs only [hc, go_sem, simprocAttr, exC_eq, exR_len, hd2, zo, zn, zv, zc, zd, za, zs, zg, zr])
    all_goals simp_all [onlyB, nullB]
theorem r_only_a (e : Ex) : R K (.call 219 [.agg (exC e), .str [97]] []) = some (.bool (onlyB false false false false true e), []) := by
  have zo := r_has [97] [111] (by decide)
  rw [show Lib.contains [97] [111] = false from by decide] at zo
  have zn := r_has [97] [110] (by decide)
  rw [show Lib.contains [97] [110] = false from by decide] at zn
  have zv := r_has [97] [118] (by decide)
  rw [show Lib.contains [97] [118] = false from by decide] at zv
  have zc := r_has [97] [99] (by decide)
  rw [show Lib.contains [97] [99] = false from by decide] at zc
  have zd := r_has [97] [100] (by decide)
  rw [show Lib.contains [97] [100] = false from by decide] at zd
  have za := r_has [97] [97] (by decide)
  rw [show Lib.contains [97] [97] = true from by decide] at za
  have zs := r_has [97] [115] (by decide)
  rw [show Lib.contains [97] [115] = false from by decide] at zs
  have zg := r_has [97] [103] (by decide)
  rw [show Lib.contains [97] [103] = false from by decide] at zg
  have zr := r_has [97] [114] (by decide)
  rw [show Lib.contains [97] [114] = false from by decide] at zr
  cases hd2 : e.d with
  | true =>
    rw [call_219]
    simp -implicitDefEqProofs only [go_sem, simprocAttr, Tryz.f219, exC_eq, exR_len, hd2, zo, zn, zv, zc, zd, za, zs, zg, zr]
    repeat' ((first | apply split_cond | apply split_yes | apply split_no) <;> intro hc <;> simp -implicitDefEqProofs only [hc, go_sem, simprocAttr, exC_eq, exR_len, hd2, zo, zn, zv, zc, zd, za, zs, zg, zr])
    all_goals simp_all [onlyB, nullB]
  | false =>
    rw [call_219]
    simp -implicitDefEqProofs only [go_sem, simprocAttr, Tryz.f219, exC_eq, exR_len, hd2, zo, zn, zv, zc, zd, za, zs, zg, zr]
    repeat' ((first | apply split_cond | apply split_yes | apply split_no) <;> intro hc <;> simp -implicitDefEqProofs only [hc, go_sem, simprocAttr, exC_eq, exR_len, hd2, zo, zn, zv, zc, zd, za, zs, zg, zr])
    all_goals simp_all [onlyB, nullB]
theorem r_only_oa (e : Ex) : R K (.call 219 [.agg (exC e), .str [111, 97]] []) = some (.bool (onlyB true false false false true e), []) := by
  have zo := r_has [111, 97] [111] (by decide)
  rw [show Lib.contains [111, 97] [111] = true from by decide] at zo
  have zn := r_has [111, 97] [110] (by decide)
  rw [show Lib.contains [111, 97] [110] = false from by decide] at zn
  have zv := r_has [111, 97] [118] (by decide)
  rw [show Lib.contains [111, 97] [118] = false from by decide] at zv
  have zc := r_has [111, 97] [99] (by decide)
  rw [show Lib.contains [111, 97] [99] = false from by decide] at zc
  have zd := r_has [111, 97] [100] (by decide)
  rw [show Lib.contains [111, 97] [100] = false from by decide] at zd
  have za := r_has [111, 97] [97] (by decide)
  rw [show Lib.contains [111, 97] [97] = true from by decide] at za
  have zs := r_has [111, 97] [115] (by decide)
  rw [show Lib.contains [111, 97] [115] = false from by decide] at zs
  have zg := r_has [111, 97] [103] (by decide)
  rw [show Lib.contains [111, 97] [103] = false from by decide] at zg
  have zr := r_has [111, 97] [114] (by decide)
  rw [show Lib.contains [111, 97] [114] = false from by decide] at zr
  cases hd2 : e.d with
  | true =>
    rw [call_219]
    simp -implicitDefEqProofs only [go_sem, simprocAttr, Tryz.f219, exC_eq, exR_len, hd2, zo, zn, zv, zc, zd, za, zs, zg, zr]
    repeat' ((first | apply split_cond | apply split_yes | apply split_no) <;> intro hc <;> simp -implicitDefEqProofs only [hc, go_sem, simprocAttr, exC_eq, exR_len, hd2, zo, zn, zv, zc, zd, za, zs, zg, zr])
    all_goals simp_all [onlyB, nullB]
  | false =>
    rw [call_219]
    simp -implicitDefEqProofs only [go_sem, simprocAttr, Tryz.f219, exC_eq, exR_len, hd2, zo, zn, zv, zc, zd, za, zs, zg, zr]
    repeat' ((first | apply split_cond | apply split_yes | apply split_no) <;> intro hc <;> simp -implicitDefEqProofs only [hc, go_sem, simprocAttr, exC_eq, exR_len, hd2, zo, zn, zv, zc, zd, za, zs, zg, zr])
    all_goals simp_all [onlyB, nullB]
theorem r_only_ona (e : Ex) : R K (.call 219 [.agg (exC e), .str [111, 110, 97]] []) = some (.bool (onlyB true true false false true e), []) := by
  have zo := r_has [111, 110, 97] [111] (by decide)
  rw [show Lib.contains [111, 110, 97] [111] = true from by decide] at zo
  have zn := r_has [111, 110, 97] [110] (by decide)
  rw [show Lib.contains [111, 110, 97] [110] = true from by decide] at zn
  have zv := r_has [111, 110, 97] [118] (by decide)
  rw [show Lib.contains [111, 110, 97] [118] = false from by decide] at zv
  have zc := r_has [111, 110, 97] [99] (by decide)
  rw [show Lib.contains [111, 110, 97] [99] = false from by decide] at zc
  have zd := r_has [111, 110, 97] [100] (by decide)
  rw [show Lib.contains [111, 110, 97] [100] = false from by decide] at zd
  have za := r_has [111, 110, 97] [97] (by decide)
  rw [show Lib.contains [111, 110, 97] [97] = true from by decide] at za
  have zs := r_has [111, 110, 97] [115] (by decide)
  rw [show Lib.contains [111, 110, 97] [115] = false from by decide] at zs
  have zg := r_has [111, 110, 97] [103] (by decide)
  rw [show Lib.contains [111, 110, 97] [103] = false from by decide] at zg
  have zr := r_has [111, 110, 97] [114] (by decide)
  rw [show Lib.contains [111, 110, 97] [114] = false from by decide] at zr
  cases hd2 : e.d with
  | true =>
    rw [call_219]
    simp -implicitDefEqProofs only [go_sem, simprocAttr, Tryz.f219, exC_eq, exR_len, hd2, zo, zn, zv, zc, zd, za, zs, zg, zr]
    repeat' ((first | apply split_cond | apply split_yes | apply split_no) <;> intro hc <;> simp -implicitDefEqProofs only [hc, go_sem, simprocAttr, exC_eq, exR_len, hd2, zo, zn, zv, zc, zd, za, zs, zg, zr])
    all_goals simp_all [onlyB, nullB]
  | false =>
    rw [call_219]
    simp -implicitDefEqProofs only [go_sem, simprocAttr, Tryz.f219, exC_eq, exR_len, hd2, zo, zn, zv, zc, zd, za, zs, zg, zr]
    repeat' ((first | apply split_cond | apply split_yes | apply split_no) <;> intro hc <;> simp -implicitDefEqProofs only [hc, go_sem, simprocAttr, exC_eq, exR_len, hd2, zo, zn, zv, zc, zd, za, zs, zg, zr])
    all_goals simp_all [onlyB, nullB]
def argsLo (op : Int) : Int := if op = 24 then 2 else if op = 23 then 3 else if op = 1 ∨ op = 11 ∨ op = 17 ∨ 20 ≤ op then 1 else 2
def argsHi (op : Int) : Int := if op = 24 then 1152921504606846976 else if op = 23 then 3 else if op = 1 ∨ op = 11 ∨ op = 17 ∨ 20 ≤ op then 1 else 2
theorem r_ArgsOf (op : Int) : R K (.call 220 [I op] []) = some (.tup [I (argsLo op), I (argsHi op)], []) := by
  rw [call_220]
  simp -implicitDefEqProofs only [go_sem, simprocAttr, Tryz.f220]
  repeat' ((first | apply split_cond | apply split_yes | apply split_no) <;> intro hc <;> simp -implicitDefEqProofs only [hc, go_sem, simprocAttr])
  all_goals (simp only [beq_iff_eq, beq_eq_false_iff_ne, decide_eq_true_eq, decide_eq_false_iff_not] at *; simp_all [argsLo, argsHi])
theorem r_numbered (op : Int) : R K (.call 175 [I op] []) = some (.bool (decide (25 ≤ op)), []) := by
  rw [call_175]
  simp -implicitDefEqProofs only [go_sem, simprocAttr, Tryz.f175]
theorem args_eq (op len : Int) (hw : within op 1 27 = true) (h : len ≤ 1000000) : within len (argsLo op) (argsHi op) = argsOk 4 op len := by
  have hb := (wit_iff op 1 27).1 hw
  have hc : op = 24 ∨ op = 23 ∨ (op = 1 ∨ op = 11 ∨ op = 17 ∨ 20 ≤ op ∧ op ≤ 22 ∨ 25 ≤ op) ∨ (op ≠ 24 ∧ op ≠ 23 ∧ ¬(op = 1 ∨ op = 11 ∨ op = 17 ∨ 20 ≤ op)) := by omega
  rw [Bool.eq_iff_iff, wit_iff]
  unfold argsOk
  rw [if_pos rfl]
  rcases hc with rfl | rfl | hc | hc
  · simp [argsLo, argsHi, arityS]; omega
  · simp [argsLo, argsHi, arityS]; omega
  · have e1 : arityS op = 1 := by unfold arityS; rw [if_pos (by omega)]
    have e2 : argsLo op = 1 := by unfold argsLo; rw [if_neg (by omega), if_neg (by omega), if_pos (by omega)]
    have e3 : argsHi op = 1 := by unfold argsHi; rw [if_neg (by omega), if_neg (by omega), if_pos (by omega)]
    rw [e1, e2, e3]; simp; omega
  · have e1 : arityS op = 2 := by unfold arityS; rw [if_neg (by omega), if_neg (by omega), if_neg (by omega)]
    have e2 : argsLo op = 2 := by unfold argsLo; rw [if_neg (by omega), if_neg (by omega), if_neg (by omega)]
    have e3 : argsHi op = 2 := by unfold argsHi; rw [if_neg (by omega), if_neg (by omega), if_neg (by omega)]
    rw [e1, e2, e3]; simp; omega
theorem app_nil (a b : List UInt8) : (a ++ b == []) = (a == [] && b == []) := by cases a <;> cases b <;> rfl
theorem r_form1 (e : Ex) (q : e.k = 1) : R K (.call 165 [.agg (exC e)] []) = some (I (exF e), []) := by
  have ho := r_only_v e
  rw [exC_eq, q] at ho
  have hk : within 1 1 6 = true := by decide
  have hw : within e.k 1 6 = true := by rw [q]; decide
  have hw' : within 1 1 6 = true := by decide
  cases hx : onlyB false false true false false e with
  | true =>
    rw [hx] at ho
    rw [call_165]
    simp -implicitDefEqProofs only [go_sem, simprocAttr, Tryz.f165, exC_eq, exR_len, r_within, q, hw', ho]
    all_goals simp_all [exF, partBad, argsOk, onlyB, app_nil, bne]
  | false =>
    rw [hx] at ho
    rw [call_165]
    simp -implicitDefEqProofs only [go_sem, simprocAttr, Tryz.f165, exC_eq, exR_len, r_within, q, hw', ho]
    all_goals simp_all [exF, partBad, argsOk, onlyB, app_nil, bne]
theorem r_form2 (e : Ex) (q : e.k = 2) : R K (.call 165 [.agg (exC e)] []) = some (I (exF e), []) := by
  have ho := r_only_n e
  rw [exC_eq, q] at ho
  have hk : within 1 1 6 = true := by decide
  have hw : within e.k 1 6 = true := by rw [q]; decide
  have hw' : within 2 1 6 = true := by decide
  cases hx : onlyB false true false false false e with
  | true =>
    rw [hx] at ho
    rw [call_165]
    simp -implicitDefEqProofs only [go_sem, simprocAttr, Tryz.f165, exC_eq, exR_len, r_within, q, hw', ho]
    all_goals simp_all [exF, partBad, argsOk, onlyB, app_nil, bne]
  | false =>
    rw [hx] at ho
    rw [call_165]
    simp -implicitDefEqProofs only [go_sem, simprocAttr, Tryz.f165, exC_eq, exR_len, r_within, q, hw', ho]
    all_goals simp_all [exF, partBad, argsOk, onlyB, app_nil, bne]
theorem r_form3 (e : Ex) (q : e.k = 3) : R K (.call 165 [.agg (exC e)] []) = some (I (exF e), []) := by
  have ho := r_only_c e
  rw [exC_eq, q] at ho
  have hk : within 1 1 6 = true := by decide
  have hw : within e.k 1 6 = true := by rw [q]; decide
  have hw' : within 3 1 6 = true := by decide
  cases hx : onlyB false false false true false e with
  | true =>
    rw [hx] at ho
    rw [call_165]
    simp -implicitDefEqProofs only [go_sem, simprocAttr, Tryz.f165, exC_eq, exR_len, r_within, q, hw', ho]
    all_goals simp_all [exF, partBad, argsOk, onlyB, app_nil, bne]
  | false =>
    rw [hx] at ho
    rw [call_165]
    simp -implicitDefEqProofs only [go_sem, simprocAttr, Tryz.f165, exC_eq, exR_len, r_within, q, hw', ho]
    all_goals simp_all [exF, partBad, argsOk, onlyB, app_nil, bne]
theorem r_form5 (e : Ex) (q : e.k = 5) : R K (.call 165 [.agg (exC e)] []) = some (I (exF e), []) := by
  have ho := r_only_a e
  rw [exC_eq, q] at ho
  have hk : within 1 1 6 = true := by decide
  have hw : within e.k 1 6 = true := by rw [q]; decide
  have hw' : within 5 1 6 = true := by decide
  have hne : (e.args.length : Int) = 0 → ¬ ((3 : Int) ≤ e.args.length) := by omega
  cases hx : onlyB false false false false true e with
  | true =>
    rw [hx] at ho
    rw [call_165]
    simp -implicitDefEqProofs only [go_sem, simprocAttr, Tryz.f165, exC_eq, exR_len, r_within, q, hw', ho]
    repeat' ((first | apply split_cond | apply split_yes | apply split_no) <;> intro hc <;> simp -implicitDefEqProofs only [hc, go_sem, simprocAttr, exC_eq, exR_len, r_within, q, hw', ho])
    all_goals simp_all [exF, partBad, argsOk, onlyB, app_nil, bne]
  | false =>
    rw [hx] at ho
    rw [call_165]
    simp -implicitDefEqProofs only [go_sem, simprocAttr, Tryz.f165, exC_eq, exR_len, r_within, q, hw', ho]
    all_goals simp_all [exF, partBad, argsOk, onlyB, app_nil, bne]
theorem r_form6 (e : Ex) (q : e.k = 6) : R K (.call 165 [.agg (exC e)] []) = some (I (exF e), []) := by
  have ho := r_only_a e
  rw [exC_eq, q] at ho
  have hk : within 1 1 6 = true := by decide
  have hw : within e.k 1 6 = true := by rw [q]; decide
  have hw' : within 6 1 6 = true := by decide
  have hne : (e.args.length : Int) = 0 → ¬ ((2 : Int) ≤ e.args.length) := by omega
  cases hx : onlyB false false false false true e with
  | true =>
    rw [hx] at ho
    rw [call_165]
    simp -implicitDefEqProofs only [go_sem, simprocAttr, Tryz.f165, exC_eq, exR_len, r_within, q, hw', ho]
    repeat' ((first | apply split_cond | apply split_yes | apply split_no) <;> intro hc <;> simp -implicitDefEqProofs only [hc, go_sem, simprocAttr, exC_eq, exR_len, r_within, q, hw', ho])
    all_goals simp_all [exF, partBad, argsOk, onlyB, app_nil, bne]
  | false =>
    rw [hx] at ho
    rw [call_165]
    simp -implicitDefEqProofs only [go_sem, simprocAttr, Tryz.f165, exC_eq, exR_len, r_within, q, hw', ho]
    all_goals simp_all [exF, partBad, argsOk, onlyB, app_nil, bne]
theorem r_form4 (e : Ex) (q : e.k = 4) (hl : (e.args.length : Int) ≤ 1000000) : R K (.call 165 [.agg (exC e)] []) = some (I (exF e), []) := by
  have ho := r_only_oa e
  have hn := r_only_ona e
  have ha := r_ArgsOf e.op
  have hu := r_numbered e.op
  rw [exC_eq, q] at ho hn
  have hw : within e.k 1 6 = true := by rw [q]; decide
  have hw' : within 4 1 6 = true := by decide
  cases hop : within e.op 1 27 with
  | false =>
    have e1 : exF e = 4 := by simp [exF, q, hop]
    rw [e1]
    rw [call_165]
    simp -implicitDefEqProofs only [go_sem, simprocAttr, Tryz.f165, exC_eq, exR_len, r_within, q, hw', hop]
  | true =>
    have hg := args_eq e.op (e.args.length : Int) hop hl
    have hb := (wit_iff e.op 1 27).1 hop
    have hnn : hasNS e.op = decide (25 ≤ e.op) := by
      rw [Bool.eq_iff_iff, decide_eq_true_eq]; unfold hasNS; rw [wit_iff]; omega
    have e1 : exF e = if partBad e = true then 3 else 0 := by unfold exF; rw [if_neg (by rw [hw, hop]; simp)]
    have e2 : partBad e = !((onlyB true false false false true e || (onlyB true true false false true e && decide (25 ≤ e.op))) && argsOk 4 e.op (e.args.length : Int)) := by
      unfold partBad onlyB
      rw [q, hnn, app_nil]
      simp only [bne]
      generalize decide (25 ≤ e.op) = b1
      generalize e.d = b2
      generalize nullB e.v = b3
      generalize (e.n == 0) = b4
      generalize (e.src == []) = b5
      generalize (e.nm == []) = b6
      generalize argsOk 4 e.op (e.args.length : Int) = b7
      generalize (e.op == 0) = b8
      generalize ((e.args.length : Int) == 0) = b9
      revert b1 b2 b3 b4 b5 b6 b7 b8 b9
      decide
    rw [e1, e2]
    cases hx : onlyB true false false false true e with
    | true =>
      rw [hx] at ho
      cases hz : argsOk 4 e.op (e.args.length : Int) with
      | true =>
        rw [hz] at hg
        rw [call_165]
        simp -implicitDefEqProofs only [go_sem, simprocAttr, Tryz.f165, exC_eq, exR_len, r_within, q, hw', hop, ho, hn, ha, hu, hg]
      | false =>
        rw [hz] at hg
        rw [call_165]
        simp -implicitDefEqProofs only [go_sem, simprocAttr, Tryz.f165, exC_eq, exR_len, r_within, q, hw', hop, ho, hn, ha, hu, hg]
    | false =>
      rw [hx] at ho
      cases hy : onlyB true true false false true e with
      | false =>
        rw [hy] at hn
        rw [call_165]
        simp -implicitDefEqProofs only [go_sem, simprocAttr, Tryz.f165, exC_eq, exR_len, r_within, q, hw', hop, ho, hn, ha, hu, hg]
      | true =>
        rw [hy] at hn
        cases h25 : decide (25 ≤ e.op) with
        | false => 
          rw [h25] at hu
          rw [call_165]
          simp -implicitDefEqProofs only [go_sem, simprocAttr, Tryz.f165, exC_eq, exR_len, r_within, q, hw', hop, ho, hn, ha, hu, hg]
        | true =>
          rw [h25] at hu
          cases hz : argsOk 4 e.op (e.args.length : Int) with
          | true =>
            rw [hz] at hg
            rw [call_165]
            simp -implicitDefEqProofs only [go_sem, simprocAttr, Tryz.f165, exC_eq, exR_len, r_within, q, hw', hop, ho, hn, ha, hu, hg]
          | false =>
            rw [hz] at hg
            rw [call_165]
            simp -implicitDefEqProofs only [go_sem, simprocAttr, Tryz.f165, exC_eq, exR_len, r_within, q, hw', hop, ho, hn, ha, hu, hg]
theorem r_scalarForm (e : Ex) (hl : (e.args.length : Int) ≤ 1000000) : R K (.call 165 [.agg (exC e)] []) = some (I (exF e), []) := by
  by_cases hk : within e.k 1 6 = false
  · have e1 : exF e = 4 := by simp [exF, hk]
    rw [e1]
    rw [call_165]
    simp -implicitDefEqProofs only [go_sem, simprocAttr, Tryz.f165, exC_eq, exR_len, r_within, hk]
  have hk : within e.k 1 6 = true := by simpa using hk
  have hb := (wit_iff e.k 1 6).1 hk
  have hc6 : e.k = 1 ∨ e.k = 2 ∨ e.k = 3 ∨ e.k = 4 ∨ e.k = 5 ∨ e.k = 6 := by omega
  rcases hc6 with q | q | q | q | q | q
  · exact r_form1 e q
  · exact r_form2 e q
  · exact r_form3 e q
  · exact r_form4 e q hl
  · exact r_form5 e q
  · exact r_form6 e q
def findC (s m : List UInt8) : List Cel → Nat → Int
  | [], _ => -1
  | c :: r, i => if c.src = s ∧ c.nm = m then (i : Int) else findC s m r (i + 1)
theorem findC_bound (s m : List UInt8) : ∀ (l : List Cel) (i : Nat), 0 ≤ findC s m l i → (findC s m l i).toNat < i + l.length
  | [], i, h => by simp only [findC] at h; omega
  | c :: r, i, h => by
    unfold findC at h ⊢
    split
    · simp
    · rename_i hc
      rw [if_neg hc] at h
      have := findC_bound s m r (i + 1) h
      simp only [List.length_cons]; omega
theorem r_found1 (s m : List UInt8) (c : Cel) : R K (.call 226 [.agg (celC c), .ptr 0 0, .ptr 1 0] [.cells [.str s], .cells [.str m]]) = some (.bool ((c.src == s) && (c.nm == m)), [.cells [.str s], .cells [.str m]]) := by
  cases h : c.src == s with
  | true =>
    rw [call_226]
    simp -implicitDefEqProofs only [go_sem, simprocAttr, Tryz.f226, celC, h]
  | false =>
    rw [call_226]
    simp -implicitDefEqProofs only [go_sem, simprocAttr, Tryz.f226, celC, h]
theorem l_found (s m : List UInt8) (cols : List Cel) (hc : cols.length ≤ 1000000) (ks : List It) : ∀ (q j : Nat) (i : Int) (Bo : Code), Loop Tryz.f225 0 Bo → i = (j : Int) → cols.length = j + q →
   RL K (.run 225 2 (.code Bo :: .lp Bo (some ([0, 1, 7, 8], [])) 2 :: .blk 0 2 :: ks) [(0, colsC cols), (1, .fn 226 [.ptr 0 0, .ptr 1 0]), (7, I (cols.length : Int)), (8, I i)] [.cells [.str s], .cells [.str m]]) =
   if findC s m (cols.drop j) j = -1 then R K (.run 225 2 ks [] [.cells [.str s], .cells [.str m]]) else some (I (findC s m (cols.drop j) j), [.cells [.str s], .cells [.str m]])
  | 0, j, i, Bo, hB, hi, hj => by
    subst hi
    have h1 : decide ((j : Int) < (cols.length : Int)) = false := decide_eq_false (by omega)
    rw [List.drop_of_length_le (by omega)]
    rw [if_pos (show findC s m [] j = -1 from rfl)]
    unfold Loop at hB
    simp -implicitDefEqProofs only [go_sem, simprocAttr, Tryz.f225, loopOf] at hB
    subst hB
    rw [RL_eq]
    simp -implicitDefEqProofs only [go_sem, simprocAttr, h1]
  | q + 1, j, i, Bo, hB, hi, hj => by
    subst hi
    have hB' := hB
    have h1 : decide ((j : Int) < (cols.length : Int)) = true := decide_eq_true (by omega)
    have h7 := next_id (i := j) (n := cols.length) (by omega) (by omega)
    obtain ⟨c, hc'⟩ := some_at (l := cols) (i := j) (by omega)
    have hg := cel_get hc'
    have hx := r_found1 s m c
    rw [drop_get hc']
    have ih := l_found s m cols hc ks q (j + 1) _ Bo hB' rfl (by omega)
    cases hk : ((c.src == s) && (c.nm == m)) with
    | true =>
      rw [hk] at hx
      simp only [Bool.and_eq_true, beq_iff_eq] at hk
      have e1 : findC s m (c :: cols.drop (j + 1)) j = (j : Int) := by unfold findC; rw [if_pos hk]
      rw [e1, if_neg (by omega)]
      unfold Loop at hB
      simp -implicitDefEqProofs only [go_sem, simprocAttr, Tryz.f225, loopOf] at hB
      subst hB
      rw [RL_eq]
      simp only [celC] at hx hg
      simp -implicitDefEqProofs only [go_sem, simprocAttr, h1, h7, hg, hx]
    | false =>
      rw [hk] at hx
      have hk : ¬ (c.src = s ∧ c.nm = m) := by
        intro h; rw [beq_iff_eq.2 h.1, beq_iff_eq.2 h.2] at hk; simp at hk
      have e1 : findC s m (c :: cols.drop (j + 1)) j = findC s m (cols.drop (j + 1)) (j + 1) := by conv => lhs; unfold findC; rw [if_neg hk]
      rw [e1]
      unfold Loop at hB
      simp -implicitDefEqProofs only [go_sem, simprocAttr, Tryz.f225, loopOf] at hB
      subst hB
      rw [RL_eq]
      simp only [celC] at hx hg
      simp -implicitDefEqProofs only [go_sem, simprocAttr, h1, h7, hg, hx]
      rw [ih]
theorem r_found (cols : List Cel) (hc : cols.length ≤ 1000000) (s m : List UInt8) : R K (.call 169 [colsC cols, .str s, .str m] []) = some (I (findC s m cols 0), []) := by
  have hi : R K (.call 225 [colsC cols, .fn 226 [.ptr 0 0, .ptr 1 0]] [.cells [.str s], .cells [.str m]]) = some (I (findC s m cols 0), [.cells [.str s], .cells [.str m]]) := by
    have lk := fun ks B hB => l_found s m cols hc ks cols.length 0 0 B hB rfl (by omega)
    simp only [List.drop_zero] at lk
    rw [call_225]
    simp -implicitDefEqProofs only [go_sem, simprocAttr, Tryz.f225]
    rw [lk _ _ ?_]
    · split
      · rename_i h
        rw [h]
        simp -implicitDefEqProofs only [go_sem, simprocAttr]
      · rfl
    · rfl
  rw [call_169]
  simp -implicitDefEqProofs only [go_sem, simprocAttr, Tryz.f169, hi]
theorem l_column (e : Ex) (cols : List Cel) (hc : cols.length ≤ 1000000) (ks : List It) : ∀ (q j : Nat) (i : Int) (Bo : Code), Loop Tryz.f157 0 Bo → i = (j : Int) → cols.length = j + q →
   RL K (.run 157 0 (.code Bo :: .lp Bo (some ([3, 7, 8, 9], [])) 1 :: .blk 0 1 :: ks) [(3, .ptr 0 0), (7, colsC cols), (8, I (cols.length : Int)), (9, I i)] [.cells (exC e)]) =
   if findC e.src e.nm (cols.drop j) j = -1 then R K (.run 157 0 ks [] [.cells (exC e)]) else some (I (findC e.src e.nm (cols.drop j) j), [])
  | 0, j, i, Bo, hB, hi, hj => by
    subst hi
    have h1 : decide ((j : Int) < (cols.length : Int)) = false := decide_eq_false (by omega)
    rw [List.drop_of_length_le (by omega)]
    rw [if_pos (show findC e.src e.nm [] j = -1 from rfl)]
    unfold Loop at hB
    simp -implicitDefEqProofs only [go_sem, simprocAttr, Tryz.f157, loopOf] at hB
    subst hB
    rw [RL_eq]
    simp -implicitDefEqProofs only [go_sem, simprocAttr, h1]
  | q + 1, j, i, Bo, hB, hi, hj => by
    subst hi
    have hB' := hB
    have h1 : decide ((j : Int) < (cols.length : Int)) = true := decide_eq_true (by omega)
    have h7 := next_id (i := j) (n := cols.length) (by omega) (by omega)
    obtain ⟨c, hc'⟩ := some_at (l := cols) (i := j) (by omega)
    have hg := cel_get hc'
    simp only [celC] at hg
    rw [drop_get hc']
    have ih := l_column e cols hc ks q (j + 1) _ Bo hB' rfl (by omega)
    simp only [exC_eq] at ih ⊢
    by_cases h2 : c.src = e.src
    · have b2 : (c.src == e.src) = true := by simp [h2]
      by_cases h3 : c.nm = e.nm
      · have b3 : (c.nm == e.nm) = true := by simp [h3]
        have e1 : findC e.src e.nm (c :: cols.drop (j + 1)) j = (j : Int) := by unfold findC; rw [if_pos ⟨h2, h3⟩]
        rw [e1, if_neg (by omega)]
        unfold Loop at hB
        simp -implicitDefEqProofs only [go_sem, simprocAttr, Tryz.f157, loopOf] at hB
        subst hB
        rw [RL_eq]
        simp -implicitDefEqProofs only [go_sem, simprocAttr, h1, h7, hg, b2, b3]
      · have b3 : (c.nm == e.nm) = false := by simpa using h3
        have e1 : findC e.src e.nm (c :: cols.drop (j + 1)) j = findC e.src e.nm (cols.drop (j + 1)) (j + 1) := by conv => lhs; unfold findC; rw [if_neg (fun h => h3 h.2)]
        rw [e1]
        unfold Loop at hB
        simp -implicitDefEqProofs only [go_sem, simprocAttr, Tryz.f157, loopOf] at hB
        subst hB
        rw [RL_eq]
        simp -implicitDefEqProofs only [go_sem, simprocAttr, h1, h7, hg, b2, b3]
        rw [ih]
    · have b2 : (c.src == e.src) = false := by simpa using h2
      have e1 : findC e.src e.nm (c :: cols.drop (j + 1)) j = findC e.src e.nm (cols.drop (j + 1)) (j + 1) := by conv => lhs; unfold findC; rw [if_neg (fun h => h2 h.1)]
      rw [e1]
      unfold Loop at hB
      simp -implicitDefEqProofs only [go_sem, simprocAttr, Tryz.f157, loopOf] at hB
      subst hB
      rw [RL_eq]
      simp -implicitDefEqProofs only [go_sem, simprocAttr, h1, h7, hg, b2]
      rw [ih]
theorem c_column (cols : List Cel) (hc : cols.length ≤ 1000000) (e : Ex) : R K (.call 157 [colsC cols, .agg (exC e)] []) = some (I (findC e.src e.nm cols 0), []) := by
  have lk := fun ks B hB => l_column e cols hc ks cols.length 0 0 B hB rfl (by omega)
  simp only [List.drop_zero] at lk
  rw [call_157]
  simp -implicitDefEqProofs only [go_sem, simprocAttr, Tryz.f157]
  rw [lk _ _ ?_]
  · split
    · rename_i h
      rw [h]
      simp -implicitDefEqProofs only [go_sem, simprocAttr]
    · rfl
  · rfl
def leafK (cols : List Cel) (ps : List Int) (e : Ex) : Int × Int :=
  if e.k = 1 then (if faultS e.v = 0 then (e.v.k, 0) else (0, faultS e.v))
  else if e.k = 2 then (if within e.n 0 ((ps.length : Int) - 1) = true then ((ps[e.n.toNat]?).getD 0, 0) else (0, 1))
  else if e.k = 3 then (if 0 ≤ findC e.src e.nm cols 0 then (((cols[(findC e.src e.nm cols 0).toNat]?).map (·.k)).getD 0, 0) else (0, 5))
  else if e.k = 4 then (if rightNS e.op e.n = true then (0, 0) else (0, 1))
  else (0, 0)
theorem r_leaf (cols : List Cel) (ps : List Int) (e : Ex) (hc : cols.length ≤ 1000000) (hp : ps.length ≤ 1000000) : R K (.call 166 [.agg (exC e), colsC cols, LR ps, .bool true] []) = some (.tup [I (leafK cols ps e).1, I (leafK cols ps e).2], []) := by
  by_cases q : e.k = 1
  · have hf := r_AnyFault e.v.k e.v.n e.v.s
    rw [Val.eta] at hf
    by_cases h0 : faultS e.v = 0
    · have e1 : leafK cols ps e = (e.v.k, 0) := by unfold leafK; rw [if_pos q, if_pos h0]
      rw [h0] at hf
      rw [e1]
      rw [call_166]
      simp -implicitDefEqProofs only [go_sem, simprocAttr, Tryz.f166, exC_eq, q, hf, bne]
    · have e1 : leafK cols ps e = (0, faultS e.v) := by unfold leafK; rw [if_pos q, if_neg h0]
      have b0 : (faultS e.v == 0) = false := by simpa using h0
      rw [e1]
      rw [call_166]
      simp -implicitDefEqProofs only [go_sem, simprocAttr, Tryz.f166, exC_eq, q, hf, bne, b0]
  have b1 : (e.k == 1) = false := by simpa using q
  by_cases q2 : e.k = 2
  · have w : wrapI .i64 ((ps.length : Int) - 1) = (ps.length : Int) - 1 := wrap_id (by omega) (by omega)
    cases h : within e.n 0 ((ps.length : Int) - 1) with
    | true =>
      have hb := (wit_iff _ _ _).1 h
      obtain ⟨x, hx⟩ := some_at (l := ps) (i := e.n.toNat) (by omega)
      have hg : at? (ps.map fun x => [I x]) e.n = some [I x] := by unfold at?; rw [if_pos hb.1]; simp [hx]
      have e1 : leafK cols ps e = (x, 0) := by unfold leafK; rw [if_neg q, if_pos q2, if_pos h, hx]; rfl
      rw [e1]
      rw [call_166]
      simp -implicitDefEqProofs only [go_sem, simprocAttr, Tryz.f166, exC_eq, q2, r_within, w, h, hg]
    | false =>
      have e1 : leafK cols ps e = (0, 1) := by unfold leafK; rw [if_neg q, if_pos q2, if_neg (by rw [h]; simp)]
      rw [e1]
      rw [call_166]
      simp -implicitDefEqProofs only [go_sem, simprocAttr, Tryz.f166, exC_eq, q2, r_within, w, h]
  have b2 : (e.k == 2) = false := by simpa using q2
  by_cases q3 : e.k = 3
  · have hf := r_found cols hc e.src e.nm
    by_cases h : 0 ≤ findC e.src e.nm cols 0
    · have d0 : decide (0 ≤ findC e.src e.nm cols 0) = true := decide_eq_true h
      have hb := findC_bound e.src e.nm cols 0 h
      obtain ⟨c, hc'⟩ := some_at (l := cols) (i := (findC e.src e.nm cols 0).toNat) (by omega)
      have hg : at? (cols.map celC) (findC e.src e.nm cols 0) = some (celC c) := by unfold at?; rw [if_pos h]; simp [hc']
      have e1 : leafK cols ps e = (c.k, 0) := by unfold leafK; rw [if_neg q, if_neg q2, if_pos q3, if_pos h, hc']; rfl
      rw [e1]
      rw [call_166]
      simp -implicitDefEqProofs only [go_sem, simprocAttr, Tryz.f166, exC_eq, q3, hf, d0, hg, celC]
    · have d0 : decide (0 ≤ findC e.src e.nm cols 0) = false := decide_eq_false h
      have e1 : leafK cols ps e = (0, 5) := by unfold leafK; rw [if_neg q, if_neg q2, if_pos q3, if_neg h]
      rw [e1]
      rw [call_166]
      simp -implicitDefEqProofs only [go_sem, simprocAttr, Tryz.f166, exC_eq, q3, hf, d0]
  have b3 : (e.k == 3) = false := by simpa using q3
  by_cases q4 : e.k = 4
  · have e1 : leafK cols ps e = if rightNS e.op e.n = true then (0, 0) else (0, 1) := by unfold leafK; rw [if_neg q, if_neg q2, if_neg q3, if_pos q4]
    rw [e1]
    rw [call_166]
    simp -implicitDefEqProofs only [go_sem, simprocAttr, Tryz.f166, exC_eq, q4, r_within]
    repeat' ((first | apply split_cond | apply split_yes | apply split_no) <;> intro hc <;> simp -implicitDefEqProofs only [hc, go_sem, simprocAttr, exC_eq, q4, r_within])
    all_goals (simp only [beq_iff_eq, beq_eq_false_iff_ne, Bool.not_eq_true', Bool.not_eq_false'] at *; simp_all [rightNS])
  have b4 : (e.k == 4) = false := by simpa using q4
  have e1 : leafK cols ps e = (0, 0) := by unfold leafK; rw [if_neg q, if_neg q2, if_neg q3, if_neg q4]
  rw [e1]
  rw [call_166]
  simp -implicitDefEqProofs only [go_sem, simprocAttr, Tryz.f166, exC_eq, b1, b2, b3, b4]
def fitP : List Int → List Int → Bool
  | _, [] => true
  | a :: r, w :: ws => (a == 0 || a == w) && fitP r ws
  | [], _ :: _ => false
theorem l_fits (l ws : List Int) (hl : ws.length ≤ l.length) (hl2 : l.length ≤ 1000000) (ks : List It) : ∀ (m j : Nat) (i : Int) (Bo : Code), Loop Tryz.f215 0 Bo → i = (j : Int) → ws.length = j + m →
   RL K (.run 215 0 (.code Bo :: .lp Bo (some ([0, 7, 8, 9], [])) 0 :: .blk 0 0 :: ks) [(0, LR l), (7, LR ws), (8, I (ws.length : Int)), (9, I i)] []) =
   if fitP (l.drop j) (ws.drop j) = true then R K (.run 215 0 ks [] []) else some (.bool false, [])
  | 0, j, i, Bo, hB, hi, hj => by
    subst hi
    have h1 : decide ((j : Int) < (ws.length : Int)) = false := decide_eq_false (by omega)
    rw [List.drop_of_length_le (l := ws) (by omega), if_pos (by cases l.drop j <;> rfl)]
    unfold Loop at hB
    simp -implicitDefEqProofs only [go_sem, simprocAttr, Tryz.f215, loopOf] at hB
    subst hB
    rw [RL_eq]
    simp -implicitDefEqProofs only [go_sem, simprocAttr, h1]
  | m + 1, j, i, Bo, hB, hi, hj => by
    subst hi
    have hB' := hB
    have h1 : decide ((j : Int) < (ws.length : Int)) = true := decide_eq_true (by omega)
    have h7 := next_id (i := j) (n := ws.length) (by omega) (by omega)
    obtain ⟨w, hw⟩ := some_at (l := ws) (i := j) (by omega)
    obtain ⟨a, ha⟩ := some_at (l := l) (i := j) (by omega)
    have hg := int_get hw
    have hg2 := int_get ha
    rw [drop_get hw, drop_get ha]
    simp only [fitP]
    have ih := l_fits l ws hl hl2 ks m (j + 1) _ Bo hB' rfl (by omega)
    rcases Bool.eq_false_or_eq_true (a == 0) with h0 | h0
    · simp only [h0, Bool.true_or, Bool.true_and]
      unfold Loop at hB
      simp -implicitDefEqProofs only [go_sem, simprocAttr, Tryz.f215, loopOf] at hB
      subst hB
      rw [RL_eq]
      simp -implicitDefEqProofs only [go_sem, simprocAttr, h1, h7, hg, hg2, bne, h0]
      rw [ih]
    · rcases Bool.eq_false_or_eq_true (a == w) with h2 | h2
      · simp only [h0, h2, Bool.or_true, Bool.true_and]
        unfold Loop at hB
        simp -implicitDefEqProofs only [go_sem, simprocAttr, Tryz.f215, loopOf] at hB
        subst hB
        rw [RL_eq]
        simp -implicitDefEqProofs only [go_sem, simprocAttr, h1, h7, hg, hg2, bne, h0, h2]
        rw [ih]
      · simp only [h0, h2, Bool.or_false, Bool.false_and]
        unfold Loop at hB
        simp -implicitDefEqProofs only [go_sem, simprocAttr, Tryz.f215, loopOf] at hB
        subst hB
        rw [RL_eq]
        simp -implicitDefEqProofs only [go_sem, simprocAttr, h1, h7, hg, hg2, bne, h0, h2]
        all_goals rfl
theorem c_fits (l ws : List Int) (hl : ws.length ≤ l.length) (hl2 : l.length ≤ 1000000) : R K (.call 215 [LR l, LR ws] []) = some (.bool (fitP l ws), []) := by
  have lk := fun ks B hB => l_fits l ws hl hl2 ks ws.length 0 0 B hB rfl (by omega)
  simp only [List.drop_zero] at lk
  rw [call_215]
  simp -implicitDefEqProofs only [go_sem, simprocAttr, Tryz.f215]
  rw [lk _ _ ?_]
  · cases h : fitP l ws with
    | true =>
      rw [if_pos rfl]
      simp -implicitDefEqProofs only [go_sem, simprocAttr]
    | false =>
      rw [if_neg (by simp)]
  · rfl
theorem fits2 (a w : Int) (hw : w ≠ 0) : (fitsS [a, w] 0).isSome = (a == 0 || a == w) := by
  by_cases h0 : a = 0
  · subst h0; simp [fitsS, hw]
  · by_cases h1 : a = w
    · subst h1; simp [fitsS, h0]
    · have : ¬ w = a := fun h => h1 h.symm
      simp [fitsS, h0, h1, hw, this]
theorem r_fits2 (a w : Int) (hw : w ≠ 0) : ∃ z, R K (.call 223 [.rows [[I a], [I w]]] []) = some (.tup [I z, .bool (a == 0 || a == w)], []) := by
  have r := r_Fits [a, w] (by simp)
  have f := fits2 a w hw
  simp only [LR, List.map] at r
  cases h : fitsS [a, w] 0 with
  | some z => rw [h] at r f; exact ⟨z, by rw [r, ← f]; rfl⟩
  | none => rw [h] at r f; exact ⟨0, by rw [r, ← f]; rfl⟩
end Go.Ab
