/- What is proved: that slices.Clone at an empty slice, and the program's own test of package schema, do what the evaluator is told. Conditions: none. -/
import Derived.Test.YtijnmoojncedlaaGreatDoorMK
import Derived.KernelRfl
set_option linter.unusedSimpArgs false
set_option linter.unusedVariables false
namespace Go.Ab
open Go Go.Proofs
theorem Zqv {μ:Mp Lay} {h:Zd} {w:World} {v:Value} (r:Rep μ h w (.rows []) v):Rep μ h w (.emp true) v∨Rep μ h w (.emp false) v:=by
 obtain ⟨base,cap,hv,_⟩:=r
 cases base with
 | none=>exact .inl ⟨none,cap,hv,rfl⟩
 | some b=>exact .inr ⟨some b,cap,hv,rfl⟩
theorem ZcX {P:Program} {f:FuncId} {r:AV} {h':Zd} (h1:Yb Lay P f [.emp true] [] r h') (h2:Yb Lay P f [.emp false] [] r h'):Yb Lay P f [.rows []] [] r h':=by
 intro μ w vs hr ha
 obtain ⟨v,vr,rfl,h3,h4⟩:=ha
 rcases Zqv h3 with h5 | h5
 ·exact h1 μ w _ hr ⟨v,vr,rfl,h5,h4⟩
 ·exact h2 μ w _ hr ⟨v,vr,rfl,h5,h4⟩
/-- What is handed back in an empty block is an empty slice. -/
theorem Zls {P:Program} {f:FuncId} {args:List AV} {z:Nat} {wr:Bool} (h1:Yb Lay P f args [] (.own 0 0) [.rows z [] wr]):Yb Lay P f args [] (.lit []) []:=by
 intro μ w vs hr ha
 refine (h1 μ w vs hr ha).mono ?_
 rintro e w' ⟨v,μ',he,q1,q2,q3⟩
 obtain ⟨z',rs,wr',base,cap,hl,_,hv,hc⟩:=q3
 simp only [List.getElem?_cons_zero,Option.some.injEq,Blk.rows.injEq] at hl
 obtain ⟨rfl,rfl,rfl⟩:=hl
 have hcap:cap=0:=(hc rfl).2.1 rfl
 subst hcap
 have hcut:Rel μ' (([Blk.rows z [] wr]:Zd).take 0) w':=q1.cut rfl
 exact ⟨v,μ',he,hcut,q2.cut (Nat.le_refl _),⟨base,hv,.inl rfl⟩⟩
theorem Q8 {f:FuncId} {n:Nat} {z:Nat} {wr:Bool} (hg:goods.contains f=true) (h1:runN K0 n (.call f [.emp true] [])=some (.own 0 0,[.rows z [] wr])) (h2:runN K0 n (.call f [.emp false] [])=some (.lit [],[])):Enters Tryz.prog f∧Yb Lay Tryz.prog f [.rows []] [] (.lit []) [] :=
 ⟨((QG K0_ok n).1 _ _ _ _ _ h2).1,ZcX (Zls (JU K0_ok h1)) (JU K0_ok h2)⟩
theorem ZkX {f:FuncId} {n:Nat} (h1:runN K0 n (.call f [.emp true] [])=some (.rows [],[])) (h2:runN K0 n (.call f [.emp false] [])=some (.rows [],[])):Enters Tryz.prog f∧Yb Lay Tryz.prog f [.rows []] [] (.rows []) [] :=
 ⟨((QG K0_ok n).1 _ _ _ _ _ h2).1,ZcX (JU K0_ok h1) (JU K0_ok h2)⟩
theorem Zii:Enters Tryz.prog 19∧Yb Lay Tryz.prog 19 [.rows []] [] (.lit []) []:=Q8 (n:=60) (z:=0) (wr:=false) (by decide +kernel) (by kernel_rfl) (by kernel_rfl)
theorem ZfS:Enters Tryz.prog 21∧Yb Lay Tryz.prog 21 [.rows []] [] (.lit []) []:=Q8 (n:=60) (z:=0) (wr:=false) (by decide +kernel) (by kernel_rfl) (by kernel_rfl)
theorem Zgn:Enters Tryz.prog 34∧Yb Lay Tryz.prog 34 [.rows []] [] (.lit []) []:=Q8 (n:=60) (z:=0) (wr:=false) (by decide +kernel) (by kernel_rfl) (by kernel_rfl)
theorem Zgc:Enters Tryz.prog 35∧Yb Lay Tryz.prog 35 [.rows []] [] (.lit []) []:=Q8 (n:=60) (z:=0) (wr:=false) (by decide +kernel) (by kernel_rfl) (by kernel_rfl)
theorem ZlE:Enters Tryz.prog 29∧Yb Lay Tryz.prog 29 [.rows []] [] (.lit []) []:=Q8 (n:=60) (z:=0) (wr:=false) (by decide +kernel) (by kernel_rfl) (by kernel_rfl)
theorem Zei:Enters Tryz.prog 30∧Yb Lay Tryz.prog 30 [.rows []] [] (.lit []) []:=Q8 (n:=60) (z:=0) (wr:=false) (by decide +kernel) (by kernel_rfl) (by kernel_rfl)
theorem Zcg:Enters Tryz.prog 31∧Yb Lay Tryz.prog 31 [.rows []] [] (.lit []) []:=Q8 (n:=60) (z:=0) (wr:=false) (by decide +kernel) (by kernel_rfl) (by kernel_rfl)
theorem Zgh:Enters Tryz.prog 150∧Yb Lay Tryz.prog 150 [.rows []] [] (.rows []) []:=ZkX (n:=60) (by kernel_rfl) (by kernel_rfl)
/-- Library functions, and slices.Clone at an empty slice. -/
def Zme (f:Nat) (args:List AV):Option AV :=
 match f with
 | 19=>(match args with | [.rows []]=>some (.lit []) | _=>none)
 | 21=>(match args with | [.rows []]=>some (.lit []) | _=>none)
 | 34=>(match args with | [.rows []]=>some (.lit []) | _=>none)
 | 35=>(match args with | [.rows []]=>some (.lit []) | _=>none)
 | 29=>(match args with | [.rows []]=>some (.lit []) | _=>none)
 | 150=>(match args with | [.rows []]=>some (.rows []) | _=>none)
 | f=>prim f args
theorem ZiI (f:Nat) (args:List AV) (v:AV) (e:Zme f args=some v):Enters Tryz.prog f∧Yb Lay Tryz.prog f args [] v []:=by
 unfold Zme at e
 split at e
 ·split at e
  ·simp only [Option.some.injEq] at e;subst e;exact Zii
  ·simp at e
 ·split at e
  ·simp only [Option.some.injEq] at e;subst e;exact ZfS
  ·simp at e
 ·split at e
  ·simp only [Option.some.injEq] at e;subst e;exact Zgn
  ·simp at e
 ·split at e
  ·simp only [Option.some.injEq] at e;subst e;exact Zgc
  ·simp at e
 ·split at e
  ·simp only [Option.some.injEq] at e;subst e;exact ZlE
  ·simp at e
 ·split at e
  ·simp only [Option.some.injEq] at e;subst e;exact Zgh
  ·simp at e
 ·exact ZmB _ _ _ e
/-- An empty slice whose room is none is one Z6 making. -/
theorem ZfM {P:Program} {f:FuncId} {args:List AV} {z:Nat} {wr:Bool} (h1:Yb Lay P f args [] (.lit []) []):Yb Lay P f args [] (.own 0 0) [.rows z [] wr]:=by
 intro μ w vs hr ha
 refine (h1 μ w vs hr ha).mono ?_
 rintro e w' ⟨v,μ',he,q1,q2,q3⟩
 obtain ⟨base,hv,_⟩:=q3
 have hp:=Ext.push q1 (.rows z [] wr) none
 exact ⟨v,_,he,Rel.push q1 (.rows z [] wr) none (.inl ⟨rfl,Zv _ _⟩),q2.trans hp,⟨z,[],wr,base,0,rfl,Nat.le_refl _,hv,fun _=>⟨Nat.le_refl _,fun _=>rfl,.inl rfl⟩⟩⟩
def Zlq (f:Nat) (args:List AV) (h:Zd):Option (AV×Zd) :=
 match f with
 | 30=>(match args,h with | [.rows []],[]=>some (.own 0 0,[.rows 1 [] true]) | _,_=>none)
 | 31=>(match args,h with | [.rows []],[]=>some (.own 0 0,[.rows 3 [] true]) | _,_=>none)
 | f=>primH f args h
theorem Zoz:∀ f args h r h',Zlq f args h=some (r,h')→Enters Tryz.prog f∧Yb Lay Tryz.prog f args h r h':=by
 intro f args h r h' e
 unfold Zlq at e
 split at e
 ·split at e
  ·simp only [Option.some.injEq,Prod.mk.injEq] at e
   obtain ⟨rfl,rfl⟩:=e
   exact ⟨Zei.1,ZfM Zei.2⟩
  ·simp at e
 ·split at e
  ·simp only [Option.some.injEq,Prod.mk.injEq] at e
   obtain ⟨rfl,rfl⟩:=e
   exact ⟨Zcg.1,ZfM Zcg.2⟩
  ·simp at e
 ·exact Ziz _ _ _ _ _ e
noncomputable def K1:Cfg:={ K0 with prim:=Zme,primH:=Zlq }
theorem K1_ok:CfgOk Lay K1 where
 prim:=ZiI
 primH:=Zoz
 good:=fun f h=>by
  have h1:f∈goods:=by simpa [K1,K0] using h
  exact Zfv (C:=K1) (List.all_eq_true.1 ZfR f h1)
 mixed:=K0_ok.mixed
def ZkG:Res→Bool
 | some (.bool true,[])=>true
 | _=>false
theorem ZoE {r:Res} (h:ZkG r=true):r=some (.bool true,[]):=by
 unfold ZkG at h
 split at h
 ·rfl
 ·simp at h
theorem Zi9:ZkG (runN K1 20000 (.call 10 [] []))=true:=by kernel_rfl
/-- What the test of package schema computes. -/
def Zra (f:Nat) (args:List AV):Option AV :=
 match f with
 | 10=>(match args with | []=>some (.bool true) | _=>none)
 | f=>Zme f args
theorem ZpQ (f:Nat) (args:List AV) (v:AV) (e:Zra f args=some v):Enters Tryz.prog f∧Yb Lay Tryz.prog f args [] v []:=by
 unfold Zra at e
 split at e
 ·split at e
  ·simp only [Option.some.injEq] at e;subst e
   exact (QG K1_ok 20000).1 _ _ _ _ _ (ZoE Zi9)
  ·simp at e
 ·exact ZiI _ _ _ e
noncomputable def K:Cfg:={ K1 with prim:=Zra }
theorem ZAe:CfgOk Lay K where
 prim:=ZpQ
 primH:=K1_ok.primH
 good:=fun f h=>by
  have h1:f∈goods:=by simpa [K,K1,K0] using h
  exact Zfv (C:=K) (List.all_eq_true.1 ZfR f h1)
 mixed:=K1_ok.mixed
end Go.Ab
