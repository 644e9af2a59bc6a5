/- What is proved: ChangeChecks's tied card. Conditions: none. -/
import Derived.Test.YtddclolilenlkaaGreatDoorML
import Derived.Test.YtddclolilenlkaaGreatDoorMQ5
set_option linter.unusedSimpArgs false
set_option linter.unusedVariables false
namespace Go.Proofs.YtddclolilenlkaaGreatDoor
open Go Go.Ab Go.Deep Go.ChangeShapes Go.WideShapes Go.ChangeAt Go.RowKit
set_option maxRecDepth 100000
namespace changeChecksCardProof
theorem own:ownKnob Tryz.prog.godebug=none:=by kernel_rfl
theorem params:Tryz.f3.params.toList=[22]:=by kernel_rfl
theorem results:Tryz.f3.resultTypes=#[4]:=by kernel_rfl
theorem contract (H:Type) (enc:TypeId×Value→H) (W:World) (base:Nat) (args:Array Value) (ds gs:List (DataW H)) (before:List MemPlace)
  (hval:∀ (j:Nat) t v,Tryz.f3.params[j]? = some t→args[j]? = some v→Value.okWide Tryz.prog W .any base t v)
  (hW:DataW.Whole enc Tryz.prog Tryz.f3.params.toList Rows.changeChecksSpec.vars false W args.toList ds gs before) (hL:laidMetH Tryz.prog Rows.changeChecksRow.laid W) (hS:W.ShapedOpen Tryz.prog) :
  Calls Tryz.prog 3 args W fun e W'=>∃ v,e=.returned v∧Rows.changeChecksSpec.post enc Tryz.prog Tryz.f3 false true false false W args v W':=by
 have hW':=hW
 obtain ⟨p,q,hA,hV,rfl,hfz,hnd⟩:=hW
 rw [params] at hA
 obtain ⟨v0,vs0,d0,ds0,p0,q0,ea,rfl,rfl,h0,r0⟩:=trodAll_cons hA
 obtain ⟨rfl,rfl,rfl⟩:=trodAll_nil r0
 obtain ⟨rfl,rfl⟩:=trodVars_none hV
 obtain rfl:args=#[v0]:=by cases args;simp_all
 obtain ⟨L0,l0,o0⟩:=Zu6 (hval 0 22 v0 (by kernel_rfl) rfl) h0
 have hl:=ZBp hL hS
 refine (Zr7 (vs:=[_]) (ZfN L0 (by unfold maxLen at l0;omega)) (fun w' hk=>Zti hl hk) (fun μ hμ=>⟨_,_,rfl,o0.rep μ hμ,rfl⟩)).mono ?_
 rintro e W' ⟨v,μ',rfl,hb,hv⟩
 obtain rfl:v=.bool true:=hv
 refine ⟨_,rfl,ZjB (u:=p0) (y:=[]) hW' (fun _ _ _=>?_) (fun sp hsp=>?_) (fun _ _=>rfl) (by simp) hb (ok_one results rfl (okWide_bool_mk Tryz.underlying4 _))⟩
 ·rw [results]
  exact trodAll_mk1 (shut_bool Tryz.underlying4 _)
 ·rw [params]
  exact (trodAll_mk1 (o0.kept _ _ hb.block (fun p hp=>hsp p (by simp only [Vg];simp [hp]))))
theorem laid_met (os:Os) (args:Array Value):laidMet Tryz.prog Rows.changeChecksRow.laid ((World.laidAll Tryz.prog os Rows.changeChecksRow.laid).forCall (fun _ _=>0) ⟨#[],args,[]⟩).memory:=laidMet_laidAll _ (by kernel_rfl) (by kernel_rfl)
end changeChecksCardProof
end Go.Proofs.YtddclolilenlkaaGreatDoor
