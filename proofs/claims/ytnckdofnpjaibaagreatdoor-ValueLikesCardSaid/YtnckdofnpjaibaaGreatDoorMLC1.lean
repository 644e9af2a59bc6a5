/- What is proved: ValueLikes's tied card. Conditions: none. -/
import Derived.Test.YtnckdofnpjaibaaGreatDoorML
import Derived.Test.YtnckdofnpjaibaaGreatDoorML1
set_option linter.unusedSimpArgs false
set_option linter.unusedVariables false
namespace Go.Proofs.YtnckdofnpjaibaaGreatDoor
open Go Go.Ab Go.Deep Go.ChangeShapes Go.WideShapes Go.ChangeAt Go.RowKit
set_option maxRecDepth 100000
namespace valueLikesCardProof
theorem own : ownKnob Tryz.prog.godebug = none := by kernel_rfl
theorem params : Tryz.f8.params.toList = [40, 23, 23] := by kernel_rfl
theorem results : Tryz.f8.resultTypes = #[4] := by kernel_rfl
theorem contract (H : Type) (enc : TypeId × Value → H) (W : World) (base : Nat) (args : Array Value) (ds gs : List (DataW H)) (before : List MemPlace)
    (hval : ∀ (j : Nat) t v, Tryz.f8.params[j]? = some t → args[j]? = some v → Value.okWide Tryz.prog W .any base t v)
    (hW : DataW.Whole enc Tryz.prog Tryz.f8.params.toList Rows.valueLikesSpec.vars false W args.toList ds gs before) (hL : laidMetH Tryz.prog Rows.valueLikesRow.laid W) (hS : W.ShapedOpen Tryz.prog) :
    Calls Tryz.prog 8 args W fun e W' => ∃ v, e = .returned v ∧ Rows.valueLikesSpec.post enc Tryz.prog Tryz.f8 false true false false W args v W' := by
  have hW' := hW
  obtain ⟨p, q, hA, hV, rfl, hfz, hnd⟩ := hW
  rw [params] at hA
  obtain ⟨v0, vs0, d0, ds0, p0, q0, ea, rfl, rfl, h0, r0⟩ := trodAll_cons hA
  obtain ⟨v1, vs1, d1, ds1, p1, q1, rfl, rfl, rfl, h1, r1⟩ := trodAll_cons r0
  obtain ⟨v2, vs2, d2, ds2, p2, q2, rfl, rfl, rfl, h2, r2⟩ := trodAll_cons r1
  obtain ⟨rfl, rfl, rfl⟩ := trodAll_nil r2
  obtain ⟨rfl, rfl⟩ := trodVars_none hV
  obtain rfl : args = #[v0, v1, v2] := by cases args; simp_all
  obtain ⟨L0, l0, o0⟩ := arg_ints (hval 0 40 v0 (by kernel_rfl) rfl) h0
  obtain ⟨k1, n1, s1, l1, o1⟩ := arg_value (hval 1 23 v1 (by kernel_rfl) rfl) h1
  obtain ⟨k2, n2, s2, l2, o2⟩ := arg_value (hval 2 23 v2 (by kernel_rfl) rfl) h2
  have hl := lay_of hL hS
  refine (calls_of2 (vs := [_, _, _]) (law_likes L0 (by unfold maxLen at l0; omega) k1 n1 s1 k2 n2 s2) (fun w' hk => lay_kept hl hk) (fun μ hμ => ⟨_, _, rfl, o0.rep μ hμ, _, _, rfl, o1.rep μ hμ, _, _, rfl, o2.rep μ hμ, rfl⟩)).mono ?_
  rintro e W' ⟨v, μ', rfl, hb, hv⟩
  obtain rfl : v = .bool true := hv
  refine ⟨_, rfl, post_of_below (pa := (p0 ++ (p1 ++ p2))) (pv := []) hW' (fun _ _ _ => ?_) (fun sp hsp => ?_) (fun _ _ => rfl) (by simp) hb (ok_one results rfl (okWide_bool_mk Tryz.underlying4 _))⟩
  · rw [results]
    exact trodAll_mk1 (shut_bool Tryz.underlying4 _)
  · rw [params]
    exact (trodAll_cons_mk (o0.kept _ _ hb.block (fun p hp => hsp p (by simp only [List.mem_append]; simp [hp]))) (trodAll_cons_mk (o1.kept _ _ hb.block (fun p hp => hsp p (by simp only [List.mem_append]; simp [hp]))) (trodAll_mk1 (o2.kept _ _ hb.block (fun p hp => hsp p (by simp only [List.mem_append]; simp [hp]))))))
theorem laid_met (os : Os) (args : Array Value) : laidMet Tryz.prog Rows.valueLikesRow.laid ((World.laidAll Tryz.prog os Rows.valueLikesRow.laid).forCall (fun _ _ => 0) ⟨#[], args, []⟩).memory := laidMet_laidAll _ (by kernel_rfl) (by kernel_rfl)
end valueLikesCardProof
end Go.Proofs.YtnckdofnpjaibaaGreatDoor
