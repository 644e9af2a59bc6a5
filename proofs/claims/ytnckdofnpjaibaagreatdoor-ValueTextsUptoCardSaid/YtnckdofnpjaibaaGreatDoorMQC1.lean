/- What is proved: ValueTexts's tied card, second form. Conditions: none. -/
import Derived.Test.YtnckdofnpjaibaaGreatDoorML
import Derived.Test.YtnckdofnpjaibaaGreatDoorMQ2
set_option linter.unusedSimpArgs false
set_option linter.unusedVariables false
namespace Go.Proofs.YtnckdofnpjaibaaGreatDoor
open Go Go.Ab Go.Deep Go.ChangeShapes Go.WideShapes Go.ChangeAt Go.RowKit
set_option maxRecDepth 100000
namespace valueTextsUptoCardProof
theorem own : ownKnob Tryz.prog.godebug = none := by kernel_rfl
theorem params : Tryz.f3.params.toList = [23, 9] := by kernel_rfl
theorem results : Tryz.f3.resultTypes = #[4] := by kernel_rfl
theorem contract (H : Type) (enc : TypeId × Value → H) (W : World) (base : Nat) (args : Array Value) (ds gs : List (DataW H)) (before : List MemPlace)
    (hval : ∀ (j : Nat) t v, Tryz.f3.params[j]? = some t → args[j]? = some v → Value.okWide Tryz.prog W .any base t v)
    (hW : DataW.Whole enc Tryz.prog Tryz.f3.params.toList Rows.valueTextsSpec.vars false W args.toList ds gs before) (hcond : ∀ k, (Rows.OpenSpec.upto Rows.valueTextsSpec).cond = some k → k H (ds ++ gs) = true) (hL : laidMetH Tryz.prog Rows.valueTextsUptoRow.laid W) (hS : W.ShapedOpen Tryz.prog) :
    Calls Tryz.prog 3 args W fun e W' => ∃ v, e = .returned v ∧ Rows.valueTextsSpec.post enc Tryz.prog Tryz.f3 false true false false W args v W' := by
  have hW' := hW
  obtain ⟨p, q, hA, hV, rfl, hfz, hnd⟩ := hW
  rw [params] at hA
  obtain ⟨v0, vs0, d0, ds0, p0, q0, ea, rfl, rfl, h0, r0⟩ := trodAll_cons hA
  obtain ⟨v1, vs1, d1, ds1, p1, q1, rfl, rfl, rfl, h1, r1⟩ := trodAll_cons r0
  obtain ⟨rfl, rfl, rfl⟩ := trodAll_nil r1
  obtain ⟨rfl, rfl⟩ := trodVars_none hV
  obtain rfl : args = #[v0, v1] := by cases args; simp_all
  obtain ⟨k0, n0, s0, l0, o0⟩ := arg_value (hval 0 23 v0 (by kernel_rfl) rfl) h0
  obtain ⟨s1, l1, e1, o1⟩ := arg_string (hval 1 9 v1 (by kernel_rfl) rfl) h1
  have hl := lay_of hL hS
  have hu : Rows.uptoBulkAll ([d0, d1] ++ []) ≤ 1048576 := of_decide_eq_true (hcond _ rfl)
  rw [e1] at hu
  simp only [List.cons_append, List.nil_append, Rows.uptoBulkAll, Rows.uptoBulk] at hu
  refine (calls_of2 (vs := [_, _]) (law_texts k0 n0 s0 s1 (by omega)) (fun w' hk => lay_kept hl hk) (fun μ hμ => ⟨_, _, rfl, o0.rep μ hμ, _, _, rfl, o1.rep μ hμ, rfl⟩)).mono ?_
  rintro e W' ⟨v, μ', rfl, hb, hv⟩
  obtain rfl : v = .bool true := hv
  refine ⟨_, rfl, post_of_below (pa := (p0 ++ p1)) (pv := []) hW' (fun _ _ _ => ?_) (fun sp hsp => ?_) (fun _ _ => rfl) (by simp) hb (ok_one results rfl (okWide_bool_mk Tryz.underlying4 _))⟩
  · rw [results]
    exact trodAll_mk1 (shut_bool Tryz.underlying4 _)
  · rw [params]
    exact (trodAll_cons_mk (o0.kept _ _ hb.block (fun p hp => hsp p (by simp only [List.mem_append]; simp [hp]))) (trodAll_mk1 (o1.kept _ _ hb.block (fun p hp => hsp p (by simp only [List.mem_append]; simp [hp])))))
theorem laid_met (os : Os) (args : Array Value) : laidMet Tryz.prog Rows.valueTextsUptoRow.laid ((World.laidAll Tryz.prog os Rows.valueTextsUptoRow.laid).forCall (fun _ _ => 0) ⟨#[], args, []⟩).memory := laidMet_laidAll _ (by kernel_rfl) (by kernel_rfl)
end valueTextsUptoCardProof
end Go.Proofs.YtnckdofnpjaibaaGreatDoor
