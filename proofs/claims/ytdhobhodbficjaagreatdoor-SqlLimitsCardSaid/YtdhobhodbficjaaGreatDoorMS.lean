/- What is proved: that slices.Clone and strconv.Quote at what is empty, and the program's own test of its statements, do what the evaluator is told. Conditions: none. -/
import Derived.Test.YtdhobhodbficjaaGreatDoorMK
import Derived.Test.YtdhobhodbficjaaGreatDoorMX4
import Derived.KernelRfl
set_option linter.unusedSimpArgs false
set_option linter.unusedVariables false
namespace Go.Ab
open Go Go.Proofs
theorem rows_emp {μ:Mp Lay} {h:Heap} {w:World} {v:Value} (r:Rep μ h w (.rows []) v):Rep μ h w (.emp true) v∨Rep μ h w (.emp false) v:=by
 obtain ⟨base,cap,hv,_⟩:=r
 cases base with
 | none=>exact .inl ⟨none,cap,hv,rfl⟩
 | some b=>exact .inr ⟨some b,cap,hv,rfl⟩
theorem called_empty {P:Program} {f:FuncId} {r:AV} {h':Heap} (h1:Called Lay P f [.emp true] [] r h') (h2:Called Lay P f [.emp false] [] r h'):Called Lay P f [.rows []] [] r h':=by
 intro μ w vs hr ha
 obtain ⟨v,vr,rfl,h3,h4⟩:=ha
 rcases rows_emp h3 with h5 | h5
 ·exact h1 μ w _ hr ⟨v,vr,rfl,h5,h4⟩
 ·exact h2 μ w _ hr ⟨v,vr,rfl,h5,h4⟩
theorem clone_rows {f:FuncId} {n:Nat} (h1:runN K0 n (.call f [.emp true] [])=some (.rows [],[])) (h2:runN K0 n (.call f [.emp false] [])=some (.rows [],[])):Enters Tryz.prog f∧Called Lay Tryz.prog f [.rows []] [] (.rows []) [] :=
 ⟨((run_known K0_ok n).1 _ _ _ _ _ h2).1,called_empty (runN_sound K0_ok h1) (runN_sound K0_ok h2)⟩
theorem clone_ints:Enters Tryz.prog 33∧Called Lay Tryz.prog 33 [.rows []] [] (.rows []) []:=clone_rows (n:=60) (by kernel_rfl) (by kernel_rfl)
def isTrue:Res→Bool
 | some (.bool true,[])=>true
 | _=>false
theorem isTrue_eq {r:Res} (h:isTrue r=true):r=some (.bool true,[]):=by
 unfold isTrue at h
 split at h
 ·rfl
 ·simp at h
def isQQ:Res→Bool
 | some (.str [34,34],[])=>true
 | _=>false
theorem isQQ_eq {r:Res} (h:isQQ r=true):r=some (.str [34,34],[]):=by
 unfold isQQ at h
 split at h
 ·rfl
 ·simp at h
theorem run_quote:isQQ (runN K0 200 (.call 295 [.str []] []))=true:=by kernel_rfl
/-- strconv.Quote at the empty text, slices.Clone at an empty slice. -/
def prim1 (f:Nat) (args:List AV):Option AV :=
 match f with
 | 295=>(match args with | [.str []]=>some (.str [34,34]) | _=>none)
 | 33=>(match args with | [.rows []]=>some (.rows []) | _=>none)
 | f=>prim f args
theorem prim1_ok (f:Nat) (args:List AV) (v:AV) (e:prim1 f args=some v):Enters Tryz.prog f∧Called Lay Tryz.prog f args [] v []:=by
 unfold prim1 at e
 split at e
 ·split at e
  ·simp only [Option.some.injEq] at e;subst e
   exact (run_known K0_ok 200).1 _ _ _ _ _ (isQQ_eq run_quote)
  ·simp at e
 ·split at e
  ·simp only [Option.some.injEq] at e;subst e
   exact clone_ints
  ·simp at e
 ·exact prim_ok _ _ _ e
noncomputable def K1:Cfg:={ K0 with prim:=prim1 }
theorem K1_ok:CfgOk Lay K1 where
 prim:=prim1_ok
 primH:=K0_ok.primH
 good:=fun f h=>by
  have h1:f∈goods:=by simpa [K1,K0] using h
  exact goodB_ok (C:=K1) (List.all_eq_true.1 goods_ok f h1)
 mixed:=K0_ok.mixed
/-- Functions that defer a closure's call. -/
def Df (f:Nat):Bool:=f==32||(f==206||(f==124||f==35))
/-- The closure that recovers. -/
def No (f:Nat):Bool:=f==53
theorem idle (v1 v2:Value) (w:World):CallsD Tryz.prog 53 #[v1,v2] .returning w fun e u w'=>(∃ v,e=.returned v)∧u=.returning∧w'=w:=by
 refine callsD_of_wpS Tryz.func53 rfl fun c₀ cs hu=>?_
 apply wpS_seq
 apply wpS_region
 simp [wpOpsS,go_sem,recoverD,hu,Tryz.ntmps53,Exit.thenS]
 apply wpS_seq
 apply wpS_region
 simp [wpOpsS,go_sem,hu,Exit.thenS]
 refine wpS_cond (t:=false) (by simp [Act.eval]) ?_
 simp only [Bool.false_eq_true,if_false]
 refine wpS_of_wp (wp_skip ?_)
 cases c₀
 simp_all [bodyPostS,results,Tryz.results53]
theorem no_ok:NoOk K1.P No:=by
 intro g hg
 have hg:g=53:=by simpa [No] using hg
 subst hg
 exact ⟨enters_of Tryz.func53 (by decide) rfl,idle⟩
theorem run_sqls:isTrue (runP K1 Df No 40000 none (.call 11 [] []))=true:=by kernel_rfl
/-- What the test of statements computes. -/
def prim2 (f:Nat) (args:List AV):Option AV :=
 match f with
 | 11=>(match args with | []=>some (.bool true) | _=>none)
 | f=>prim1 f args
theorem prim2_ok (f:Nat) (args:List AV) (v:AV) (e:prim2 f args=some v):Enters Tryz.prog f∧Called Lay Tryz.prog f args [] v []:=by
 unfold prim2 at e
 split at e
 ·split at e
  ·simp only [Option.some.injEq] at e;subst e
   exact runP_sound K1_ok no_ok (isTrue_eq run_sqls)
  ·simp at e
 ·exact prim1_ok _ _ _ e
noncomputable def K:Cfg:={ K1 with prim:=prim2 }
theorem K_ok:CfgOk Lay K where
 prim:=prim2_ok
 primH:=K1_ok.primH
 good:=fun f h=>by
  have h1:f∈goods:=by simpa [K,K1,K0] using h
  exact goodB_ok (C:=K) (List.all_eq_true.1 goods_ok f h1)
 mixed:=K1_ok.mixed
end Go.Ab
