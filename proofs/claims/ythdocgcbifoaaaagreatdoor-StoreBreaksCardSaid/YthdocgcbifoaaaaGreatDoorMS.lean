/- What is proved: that slices.Clone at an empty slice, and the program's own test of a store, do what the evaluator is told. Conditions: none. -/
import Derived.Test.YthdocgcbifoaaaaGreatDoorMK
import Derived.KernelRfl
set_option linter.unusedSimpArgs false
set_option linter.unusedVariables false
namespace Go.Ab
open Go Go.Proofs
theorem rows_emp {μ:Mp Lay} {h:Heap} {w:World} {v:Value} (r:Rep μ h w (.rows []) v):Rep μ h w (.emp true) v∨Rep μ h w (.emp false) v:=by
 obtain ⟨base,cap,hv,_⟩:=r
 cases base with
 | none=>exact .inl ⟨none,cap,hv,rfl⟩
 | some b=>exact .inr ⟨some b,cap,hv,rfl⟩
theorem called_empty {P:Program} {f:FuncId} {r:AV} {h':Heap} (h1:Called Lay P f [.emp true] [] r h') (h2:Called Lay P f [.emp false] [] r h'):Called Lay P f [.rows []] [] r h':=by
 intro μ w vs hr ha
 obtain ⟨v,vr,rfl,h3,h4⟩:=ha
 rcases rows_emp h3 with h5 | h5
 ·exact h1 μ w _ hr ⟨v,vr,rfl,h5,h4⟩
 ·exact h2 μ w _ hr ⟨v,vr,rfl,h5,h4⟩
/-- What is handed back in an empty block is an empty slice. -/
theorem called_lit {P:Program} {f:FuncId} {args:List AV} {z:Nat} {wr:Bool} (h1:Called Lay P f args [] (.own 0 0) [.rows z [] wr]):Called Lay P f args [] (.lit []) []:=by
 intro μ w vs hr ha
 refine (h1 μ w vs hr ha).mono ?_
 rintro e w' ⟨v,μ',he,q1,q2,q3⟩
 obtain ⟨z',rs,wr',base,cap,hl,_,hv,hc⟩:=q3
 simp only [List.getElem?_cons_zero,Option.some.injEq,Blk.rows.injEq] at hl
 obtain ⟨rfl,rfl,rfl⟩:=hl
 have hcap:cap=0:=(hc rfl).2.1 rfl
 subst hcap
 have hcut:Rel μ' (([Blk.rows z [] wr]:Heap).take 0) w':=q1.cut rfl
 exact ⟨v,μ',he,hcut,q2.cut (Nat.le_refl _),⟨base,hv,.inl rfl⟩⟩
theorem clone_of {f:FuncId} {n:Nat} {z:Nat} {wr:Bool} (hg:goods.contains f=true) (h1:runN K0 n (.call f [.emp true] [])=some (.own 0 0,[.rows z [] wr])) (h2:runN K0 n (.call f [.emp false] [])=some (.lit [],[])):Enters Tryz.prog f∧Called Lay Tryz.prog f [.rows []] [] (.lit []) [] :=
 ⟨((run_known K0_ok n).1 _ _ _ _ _ h2).1,called_empty (called_lit (runN_sound K0_ok h1)) (runN_sound K0_ok h2)⟩
theorem clone_rows {f:FuncId} {n:Nat} (h1:runN K0 n (.call f [.emp true] [])=some (.rows [],[])) (h2:runN K0 n (.call f [.emp false] [])=some (.rows [],[])):Enters Tryz.prog f∧Called Lay Tryz.prog f [.rows []] [] (.rows []) [] :=
 ⟨((run_known K0_ok n).1 _ _ _ _ _ h2).1,called_empty (runN_sound K0_ok h1) (runN_sound K0_ok h2)⟩
theorem clone_tables:Enters Tryz.prog 18∧Called Lay Tryz.prog 18 [.rows []] [] (.lit []) []:=clone_of (n:=60) (z:=0) (wr:=false) (by decide +kernel) (by kernel_rfl) (by kernel_rfl)
theorem clone_foreigns:Enters Tryz.prog 20∧Called Lay Tryz.prog 20 [.rows []] [] (.lit []) []:=clone_of (n:=60) (z:=0) (wr:=false) (by decide +kernel) (by kernel_rfl) (by kernel_rfl)
theorem clone_columns:Enters Tryz.prog 161∧Called Lay Tryz.prog 161 [.rows []] [] (.lit []) []:=clone_of (n:=60) (z:=0) (wr:=false) (by decide +kernel) (by kernel_rfl) (by kernel_rfl)
theorem clone_indexes:Enters Tryz.prog 163∧Called Lay Tryz.prog 163 [.rows []] [] (.lit []) []:=clone_of (n:=60) (z:=0) (wr:=false) (by decide +kernel) (by kernel_rfl) (by kernel_rfl)
theorem clone_dats:Enters Tryz.prog 28∧Called Lay Tryz.prog 28 [.rows []] [] (.lit []) []:=clone_of (n:=60) (z:=0) (wr:=false) (by decide +kernel) (by kernel_rfl) (by kernel_rfl)
theorem clone_rows2:Enters Tryz.prog 29∧Called Lay Tryz.prog 29 [.rows []] [] (.lit []) []:=clone_of (n:=60) (z:=0) (wr:=false) (by decide +kernel) (by kernel_rfl) (by kernel_rfl)
theorem clone_values:Enters Tryz.prog 30∧Called Lay Tryz.prog 30 [.rows []] [] (.lit []) []:=clone_of (n:=60) (z:=0) (wr:=false) (by decide +kernel) (by kernel_rfl) (by kernel_rfl)
theorem clone_strings:Enters Tryz.prog 162∧Called Lay Tryz.prog 162 [.rows []] [] (.rows []) []:=clone_rows (n:=60) (by kernel_rfl) (by kernel_rfl)
/-- Library functions, and slices.Clone at an empty slice. -/
def prim1 (f:Nat) (args:List AV):Option AV :=
 match f with
 | 18=>(match args with | [.rows []]=>some (.lit []) | _=>none)
 | 20=>(match args with | [.rows []]=>some (.lit []) | _=>none)
 | 161=>(match args with | [.rows []]=>some (.lit []) | _=>none)
 | 163=>(match args with | [.rows []]=>some (.lit []) | _=>none)
 | 28=>(match args with | [.rows []]=>some (.lit []) | _=>none)
 | 162=>(match args with | [.rows []]=>some (.rows []) | _=>none)
 | f=>prim f args
theorem prim1_ok (f:Nat) (args:List AV) (v:AV) (e:prim1 f args=some v):Enters Tryz.prog f∧Called Lay Tryz.prog f args [] v []:=by
 unfold prim1 at e
 split at e
 ·split at e
  ·simp only [Option.some.injEq] at e;subst e;exact clone_tables
  ·simp at e
 ·split at e
  ·simp only [Option.some.injEq] at e;subst e;exact clone_foreigns
  ·simp at e
 ·split at e
  ·simp only [Option.some.injEq] at e;subst e;exact clone_columns
  ·simp at e
 ·split at e
  ·simp only [Option.some.injEq] at e;subst e;exact clone_indexes
  ·simp at e
 ·split at e
  ·simp only [Option.some.injEq] at e;subst e;exact clone_dats
  ·simp at e
 ·split at e
  ·simp only [Option.some.injEq] at e;subst e;exact clone_strings
  ·simp at e
 ·exact prim_ok _ _ _ e
/-- An empty slice whose room is none is one under making. -/
theorem called_own {P:Program} {f:FuncId} {args:List AV} {z:Nat} {wr:Bool} (h1:Called Lay P f args [] (.lit []) []):Called Lay P f args [] (.own 0 0) [.rows z [] wr]:=by
 intro μ w vs hr ha
 refine (h1 μ w vs hr ha).mono ?_
 rintro e w' ⟨v,μ',he,q1,q2,q3⟩
 obtain ⟨base,hv,_⟩:=q3
 have hp:=Ext.push q1 (.rows z [] wr) none
 exact ⟨v,_,he,Rel.push q1 (.rows z [] wr) none (.inl ⟨rfl,set_same _ _⟩),q2.trans hp,⟨z,[],wr,base,0,rfl,Nat.le_refl _,hv,fun _=>⟨Nat.le_refl _,fun _=>rfl,.inl rfl⟩⟩⟩
def primH1 (f:Nat) (args:List AV) (h:Heap):Option (AV×Heap) :=
 match f with
 | 29=>(match args,h with | [.rows []],[]=>some (.own 0 0,[.rows 1 [] true]) | _,_=>none)
 | 30=>(match args,h with | [.rows []],[]=>some (.own 0 0,[.rows 3 [] true]) | _,_=>none)
 | f=>primH f args h
theorem primH1_ok:∀ f args h r h',primH1 f args h=some (r,h')→Enters Tryz.prog f∧Called Lay Tryz.prog f args h r h':=by
 intro f args h r h' e
 unfold primH1 at e
 split at e
 ·split at e
  ·simp only [Option.some.injEq,Prod.mk.injEq] at e
   obtain ⟨rfl,rfl⟩:=e
   exact ⟨clone_rows2.1,called_own clone_rows2.2⟩
  ·simp at e
 ·split at e
  ·simp only [Option.some.injEq,Prod.mk.injEq] at e
   obtain ⟨rfl,rfl⟩:=e
   exact ⟨clone_values.1,called_own clone_values.2⟩
  ·simp at e
 ·exact primH_ok _ _ _ _ _ e
noncomputable def K1:Cfg:={ K0 with prim:=prim1,primH:=primH1 }
theorem K1_ok:CfgOk Lay K1 where
 prim:=prim1_ok
 primH:=primH1_ok
 good:=fun f h=>by
  have h1:f∈goods:=by simpa [K1,K0] using h
  exact goodB_ok (C:=K1) (List.all_eq_true.1 goods_ok f h1)
 mixed:=K0_ok.mixed
def isTrue:Res→Bool
 | some (.bool true,[])=>true
 | _=>false
theorem isTrue_eq {r:Res} (h:isTrue r=true):r=some (.bool true,[]):=by
 unfold isTrue at h
 split at h
 ·rfl
 ·simp at h
theorem run_stores:isTrue (runN K1 20000 (.call 10 [] []))=true:=by kernel_rfl
/-- What the test of a store computes. -/
def prim2 (f:Nat) (args:List AV):Option AV :=
 match f with
 | 10=>(match args with | []=>some (.bool true) | _=>none)
 | f=>prim1 f args
theorem prim2_ok (f:Nat) (args:List AV) (v:AV) (e:prim2 f args=some v):Enters Tryz.prog f∧Called Lay Tryz.prog f args [] v []:=by
 unfold prim2 at e
 split at e
 ·split at e
  ·simp only [Option.some.injEq] at e;subst e
   exact (run_known K1_ok 20000).1 _ _ _ _ _ (isTrue_eq run_stores)
  ·simp at e
 ·exact prim1_ok _ _ _ e
noncomputable def K:Cfg:={ K1 with prim:=prim2 }
theorem K_ok:CfgOk Lay K where
 prim:=prim2_ok
 primH:=K1_ok.primH
 good:=fun f h=>by
  have h1:f∈goods:=by simpa [K,K1,K0] using h
  exact goodB_ok (C:=K) (List.all_eq_true.1 goods_ok f h1)
 mixed:=K1_ok.mixed
end Go.Ab
