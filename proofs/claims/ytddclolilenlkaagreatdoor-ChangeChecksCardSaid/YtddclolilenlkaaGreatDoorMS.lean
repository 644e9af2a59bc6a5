/- What is proved: that slices.Clone at an empty slice, and the program's own test of a store, do what the evaluator is told. Conditions: none. -/
import Derived.Test.YtddclolilenlkaaGreatDoorMK
import Derived.KernelRfl
set_option linter.unusedSimpArgs false
set_option linter.unusedVariables false
namespace Go.Ab
open Go Go.Proofs Go.Proofs.Tryz
variable{P:Program}{f:FuncId}{z:Nat}{wr:Bool}
theorem ZwU{μ:Mp Lay}{h:Za}{w:World}{v:Value}(r:Rep μ h w (.rows []) v):Rep μ h w (.emp true) v∨Rep μ h w (.emp false) v:=by
 obtain⟨base,cap,a,_⟩:=r;cases base with
 |none=>exact .inl ⟨none,cap,a,rfl⟩
 |some b=>exact .inr ⟨some b,cap,a,rfl⟩
theorem Zfu{r:AV}{h':Za}(d:Yr Lay P f [.emp true] [] r h')(h2:Yr Lay P f [.emp false] [] r h'):Yr Lay P f [.rows []] [] r h':=by
 intro μ w vs hr ha;obtain⟨v,b,rfl,h3,c⟩:=ha;rcases ZwU h3 with a|a
 ·exact d μ w _ hr ⟨v,b,rfl,a,c⟩
 exact h2 μ w _ hr ⟨v,b,rfl,a,c⟩
theorem ZpM{args:List AV}(d:Yr Lay P f args [] (.own 0 0) [.rows z [] wr]):Yr Lay P f args [] (.lit []) []:=by intro μ w vs hr ha;refine(d μ w vs hr ha).mono ?_;rintro e w' ⟨v,μ',g,h,i,j⟩;obtain⟨z',rs,k,base,cap,c,_,l,m⟩:=j;simp only[Vt,Va,Blk.rows.injEq]at c;obtain⟨rfl,rfl,rfl⟩:=c;have a:cap=0:=(m rfl).2.1 rfl;subst a;have b:Rel μ' (([Blk.rows z [] wr]:Za).take 0) w':=h.cut rfl;exact⟨v,μ',g,b,i.cut (Vw _),⟨base,l,.inl rfl⟩⟩
theorem Zbh{n:Nat}(b:goods.contains f=true)(a:runN K0 n (.call f [.emp true] [])=some (.own 0 0,[.rows z [] wr]))(h2:runN K0 n (.call f [.emp false] [])=some (.lit [],[])):Enters prog f∧Yr Lay prog f [.rows []] [] (.lit []) [] :=
 ⟨((Zag K0_ok n).1 _ _ _ _ _ h2).1,Zfu (ZpM (ZbU K0_ok a)) (ZbU K0_ok h2)⟩
theorem ZAv{n:Nat}(a:runN K0 n (.call f [.emp true] [])=some (.rows [],[]))(h2:runN K0 n (.call f [.emp false] [])=some (.rows [],[])):Enters prog f∧Yr Lay prog f [.rows []] [] (.rows []) [] :=
 ⟨((Zag K0_ok n).1 _ _ _ _ _ h2).1,Zfu (ZbU K0_ok a) (ZbU K0_ok h2)⟩
theorem Zew:Enters prog 17∧Yr Lay prog 17 [.rows []] [] (.lit []) []:=Zbh (n:=60) (z:=0) (wr:=false) (by decide +kernel) (by kernel_rfl) (by kernel_rfl)
theorem ZcS:Enters prog 19∧Yr Lay prog 19 [.rows []] [] (.lit []) []:=Zbh (n:=60) (z:=0) (wr:=false) (by decide +kernel) (by kernel_rfl) (by kernel_rfl)
theorem ZdJ:Enters prog 21∧Yr Lay prog 21 [.rows []] [] (.lit []) []:=Zbh (n:=60) (z:=0) (wr:=false) (by decide +kernel) (by kernel_rfl) (by kernel_rfl)
theorem ZdH:Enters prog 22∧Yr Lay prog 22 [.rows []] [] (.lit []) []:=Zbh (n:=60) (z:=0) (wr:=false) (by decide +kernel) (by kernel_rfl) (by kernel_rfl)
theorem ZdK:Enters prog 118∧Yr Lay prog 118 [.rows []] [] (.lit []) []:=Zbh (n:=60) (z:=0) (wr:=false) (by decide +kernel) (by kernel_rfl) (by kernel_rfl)
theorem Ze2:Enters prog 179∧Yr Lay prog 179 [.rows []] [] (.lit []) []:=Zbh (n:=60) (z:=0) (wr:=false) (by decide +kernel) (by kernel_rfl) (by kernel_rfl)
theorem Q8{args:List AV}(b:Yr Lay P f args [] (.lit []) []):Yr Lay P f args [] (.own 0 0) [.rows z [] wr]:=by intro μ w vs hr ha;refine(b μ w vs hr ha).mono ?_;rintro e w' ⟨v,μ',c,a,d,g⟩;obtain⟨base,h,_⟩:=g;have i:=Ext.push a (.rows z [] wr) none;exact⟨v,_,c,Rel.push a (.rows z [] wr) none (.inl ⟨Blank.nil,set_same _ _⟩),d.trans i,⟨z,[],wr,base,0,rfl,Vw _,h,fun _=>⟨Vw _,fun _=>rfl,.inl rfl⟩⟩⟩
def Zpk(f:Nat)(args:List AV)(h:Za):Option (AV×Za) :=
 match f with
 |17=>(match args,h with|[.rows []],[]=>some (.own 0 0,[.rows 5 [] true])|_,_=>none)
 |19=>(match args,h with|[.rows []],[]=>some (.own 0 0,[.rows 3 [] true])|_,_=>none)
 |21=>(match args,h with|[.rows []],[]=>some (.own 0 0,[.rows 6 [] true])|_,_=>none)
 |22=>(match args,h with|[.rows []],[]=>some (.own 0 0,[.rows 3 [] true])|_,_=>none)
 |118=>(match args,h with|[.rows []],[]=>some (.own 0 0,[.rows 1 [] true])|_,_=>none)
 |179=>(match args,h with|[.rows []],[]=>some (.own 0 0,[.rows 3 [] true])|_,_=>none)
 |f=>primH f args h
theorem ZsX:∀f args h r h',Zpk f args h=some (r,h')→Enters prog f∧Yr Lay prog f args h r h':=by
 intro f args h r h' e;unfold Zpk at e;split at e
 ·split at e
  ·simp only[Va,Vp]at e;obtain⟨rfl,rfl⟩:=e;exact⟨Zew.1,Q8 Zew.2⟩
  simp at e
 ·split at e
  ·simp only[Va,Vp]at e;obtain⟨rfl,rfl⟩:=e;exact⟨ZcS.1,Q8 ZcS.2⟩
  simp at e
 ·split at e
  ·simp only[Va,Vp]at e;obtain⟨rfl,rfl⟩:=e;exact⟨ZdJ.1,Q8 ZdJ.2⟩
  simp at e
 ·split at e
  ·simp only[Va,Vp]at e;obtain⟨rfl,rfl⟩:=e;exact⟨ZdH.1,Q8 ZdH.2⟩
  simp at e
 ·split at e
  ·simp only[Va,Vp]at e;obtain⟨rfl,rfl⟩:=e;exact⟨ZdK.1,Q8 ZdK.2⟩
  simp at e
 ·split at e
  ·simp only[Va,Vp]at e;obtain⟨rfl,rfl⟩:=e;exact⟨Ze2.1,Q8 Ze2.2⟩
  simp at e
 exact ZnF _ _ _ _ _ e
noncomputable def K1:Cfg:={K0 with primH:=Zpk}
theorem K1_ok:CfgOk Lay K1 where
 prim:=ZlD
 primH:=ZsX
 good:=fun f h=>by
  have a:f∈goods:=by simpa[K1,K0]using h
  exact ZhV (C:=K1) (Um.1 Zh6 f a)
 mixed:=K0_ok.mixed
def ZpO:Res→Bool
 |some (.bool true,[])=>true
 |_=>false
theorem ZrE{r:Res}(h:ZpO r=true):r=some (.bool true,[]):=by
 unfold ZpO at h;split at h
 ·rfl
 simp at h
theorem ZpL:ZpO (runN K1 20000 (.call 10 [] []))=true:=by kernel_rfl
def Zwr(f:Nat)(args:List AV):Option AV :=
 match f with
 |10=>(match args with|[]=>some (.bool true)|_=>none)
 |f=>prim f args
theorem ZwR(f:Nat)(args:List AV)(v:AV)(e:Zwr f args=some v):Enters prog f∧Yr Lay prog f args [] v []:=by
 unfold Zwr at e;split at e
 ·split at e
  ·simp only[Va]at e;subst e;exact(Zag K1_ok 20000).1 _ _ _ _ _ (ZrE ZpL)
  simp at e
 exact ZlD _ _ _ e
noncomputable def K:Cfg:={K1 with prim:=Zwr}
theorem ZDk:CfgOk Lay K where
 prim:=ZwR
 primH:=K1_ok.primH
 good:=fun f h=>by
  have a:f∈goods:=by simpa[K,K1,K0]using h
  exact ZhV (C:=K) (Um.1 Zh6 f a)
 mixed:=K1_ok.mixed
end Go.Ab
