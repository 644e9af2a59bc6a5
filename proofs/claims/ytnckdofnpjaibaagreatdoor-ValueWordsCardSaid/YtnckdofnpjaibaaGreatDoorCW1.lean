/- What is proved: ValueWords's tied card. Conditions: none. -/
import Derived.Test.YtnckdofnpjaibaaGreatDoorML
import Derived.Test.YtnckdofnpjaibaaGreatDoorMX
set_option linter.unusedSimpArgs false
set_option linter.unusedVariables false
namespace Go.Proofs.YtnckdofnpjaibaaGreatDoor
open Go Go.Ab Go.Deep Go.ChangeShapes Go.WideShapes Go.ChangeAt Go.RowKit
set_option maxRecDepth 100000

namespace valueWordsCardProof
theorem own : ownKnob Tryz.prog.godebug = none := by kernel_rfl
theorem params : Tryz.f7.params.toList = [23, 23, 23] := by kernel_rfl
theorem results : Tryz.f7.resultTypes = #[4] := by kernel_rfl
theorem contract (H : Type) (enc : TypeId × Value → H) (W : World) (base : Nat) (args : Array Value) (ds gs : List (DataW H)) (before : List MemPlace)
    (hval : ∀ (j : Nat) t v, Tryz.f7.params[j]? = some t → args[j]? = some v → Value.okWide Tryz.prog W .any base t v)
    (hW : DataW.Whole enc Tryz.prog Tryz.f7.params.toList Rows.valueWordsSpec.vars false W args.toList ds gs before) (hL : laidMetH Tryz.prog Rows.valueWordsRow.laid W) (hS : W.ShapedOpen Tryz.prog) :
    Calls Tryz.prog 7 args W fun e W' => ∃ v, e = .returned v ∧ Rows.valueWordsSpec.post enc Tryz.prog Tryz.f7 false true false false W args v W' := by
  have hW' := hW
  obtain ⟨p, q, hA, hV, rfl, hfz, hnd⟩ := hW
  have hA0 := hA
  rw [params] at hA
  obtain ⟨v0, vs0, d0, ds0, p0, q0, ea, rfl, rfl, h0, r0⟩ := trodAll_cons hA
  obtain ⟨v1, vs1, d1, ds1, p1, q1, rfl, rfl, rfl, h1, r1⟩ := trodAll_cons r0
  obtain ⟨v2, vs2, d2, ds2, p2, q2, rfl, rfl, rfl, h2, r2⟩ := trodAll_cons r1
  obtain ⟨rfl, rfl, rfl⟩ := trodAll_nil r2
  obtain ⟨rfl, rfl⟩ := trodVars_none hV
  obtain rfl : args = #[v0, v1, v2] := by cases args; simp_all
  obtain ⟨k0, n0, s0, rfl, rfl, l0, o0⟩ := open_value (hval 0 23 v0 (by kernel_rfl) rfl) h0
  obtain ⟨k1, n1, s1, rfl, rfl, l1, o1⟩ := open_value (hval 1 23 v1 (by kernel_rfl) rfl) h1
  obtain ⟨k2, n2, s2, rfl, rfl, l2, o2⟩ := open_value (hval 2 23 v2 (by kernel_rfl) rfl) h2
  have hl := lay_of hL hS
  refine (calls_of (vs := [_, _, _]) (law_words k0 n0 s0 k1 n1 s1 k2 n2 s2) (fun w' hk => lay_kept hl hk) (fun μ => ⟨_, _, rfl, rep_value k0 n0 s0, _, _, rfl, rep_value k1 n1 s1, _, _, rfl, rep_value k2 n2 s2, rfl⟩)).mono ?_
  rintro e W' ⟨v, μ', rfl, hb, hv⟩
  obtain rfl : v = .bool true := hv
  refine ⟨_, rfl, post_of_below (pa := []) (pv := []) hW' (fun _ _ _ => ?_) (fun sp _ => ?_) (fun _ _ => rfl) rfl hb (ok_one results rfl (okWide_bool_mk Tryz.underlying4 _))⟩
  · rw [results]
    exact trodAll_mk1 (shut_bool Tryz.underlying4 _)
  · rw [params]
    exact trodAll_cons_mk (o0 _ _ _ _) (trodAll_cons_mk (o1 _ _ _ _) (trodAll_mk1 (o2 _ _ _ _)))
theorem laid_met (os : Os) (args : Array Value) : laidMet Tryz.prog Rows.valueWordsRow.laid ((World.laidAll Tryz.prog os Rows.valueWordsRow.laid).forCall (fun _ _ => 0) ⟨#[], args, []⟩).memory := laidMet_laidAll _ (by kernel_rfl) (by kernel_rfl)
end valueWordsCardProof
end Go.Proofs.YtnckdofnpjaibaaGreatDoor
