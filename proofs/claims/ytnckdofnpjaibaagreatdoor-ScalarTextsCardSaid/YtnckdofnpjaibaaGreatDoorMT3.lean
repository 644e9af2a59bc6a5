/- What is proved: contracts of the program's and the reference's functions in the evaluator, and plain laws on them. Conditions: as each states. -/
import Derived.Test.YtnckdofnpjaibaaGreatDoorMT2
set_option linter.unusedSimpArgs false
set_option linter.unusedVariables false
set_option maxRecDepth 100000
namespace Go.Ab
open Go Go.Proofs
section
variable {C : Cfg} {F : Tk → Res}
theorem R_draw {f k id : Nat} {ops : List Oper} {ks : List It} {fr : Fr} {h : Heap} : R C (.run f k (.code (.region id ops.toArray true) :: ks) fr h) = onReg (R C) f k ks (shutD (C.dyn f id) (aOpsD C (R C) (C.dyn f id) (plOf h.length ops) ops 0 ops fr (h ++ List.replicate (numA ops) .hole))) := by rw [R_eq]; rfl
theorem R_cond {f k : Nat} {x : Operand} {a b : Code} {ks : List It} {fr : Fr} {h : Heap} : R C (.run f k (.code (.cond x a b) :: ks) fr h) = onCond (R C) f k ks a b fr h (ev fr x) := by rw [R_eq]; rfl
theorem R_block {f k id : Nat} {c : Code} {ks : List It} {fr : Fr} {h : Heap} : R C (.run f k (.code (.block id c) :: ks) fr h) = onBlock C (R C) f k ks id fr h c (C.live f id) := by rw [R_eq]; rfl
theorem R_exit {f k id : Nat} {ks : List It} {fr : Fr} {h : Heap} : R C (.run f k (.code (.exit id) :: ks) fr h) = onUnw (R C) f k fr h (C.out f id) (unwind id ks) := by rw [R_eq]; rfl
theorem R_ret {f k : Nat} {ks : List It} {fr : Fr} {h : Heap} : R C (.run f k (.code .ret :: ks) fr h) = retOf C f k fr h := by rw [R_eq]; rfl
theorem R_end {f k : Nat} {fr : Fr} {h : Heap} : R C (.run f k [] fr h) = retOf C f k fr h := by rw [R_eq]; rfl
theorem R_blk {f k id n : Nat} {ks : List It} {fr : Fr} {h : Heap} : R C (.run f k (.blk id n :: ks) fr h) = outOf (R C) f k ks n fr h (C.out f id) := by rw [R_eq]; rfl
theorem outOf_none {f k n : Nat} {ks : List It} {fr : Fr} {h : Heap} : outOf F f k ks n fr h none = F (.run f k ks fr h) := rfl
theorem R_lp {f k n : Nat} {c : Code} {live : List Nat × List Nat} {ks : List It} {fr : Fr} {h : Heap} : R C (.run f k (.lp c (some live) n :: ks) fr h) = onRound (R C) f k ks c live n fr h := by rw [R_eq]; rfl
theorem R_lpn {f k n : Nat} {c : Code} {ks : List It} {fr : Fr} {h : Heap} : R C (.run f k (.lp c none n :: ks) fr h) = R C (.run f k (.code c :: .lp c none n :: ks) fr h) := by rw [R_eq]; rfl
theorem R_loop {f k : Nat} {c : Code} {ks : List It} {fr : Fr} {h : Heap} : R C (.run f k (.code (.loop c) :: ks) fr h) = R C (.run f k (.code c :: .lp c none 0 :: ks) fr h) := by rw [R_eq]; rfl
theorem onUnw_some {f k n : Nat} {ks : List It} {fr : Fr} {h : Heap} {o : Option (List Nat)} : onUnw F f k fr h o (some (n, ks)) = outOf F f k ks n fr h o := rfl
theorem onCond_true {f k : Nat} {ks : List It} {a b : Code} {fr : Fr} {h : Heap} : onCond F f k ks a b fr h (.bool true) = F (.run f k (.code a :: ks) fr h) := rfl
theorem onCond_false {f k : Nat} {ks : List It} {a b : Code} {fr : Fr} {h : Heap} : onCond F f k ks a b fr h (.bool false) = F (.run f k (.code b :: ks) fr h) := rfl
theorem get_eq (i : Nat) (v : AV) (fr : Fr) : get ((i, v) :: fr) i = v := by simp [get]
theorem get_ne (i j : Nat) (v : AV) (fr : Fr) (h : (j == i) = false) : get ((j, v) :: fr) i = get fr i := by simp [get, by simpa using h]
theorem put_some (fr : Fr) (d : Nat) (v : AV) : put fr (some d) v = (d, v) :: fr := rfl
theorem put_none (fr : Fr) (v : AV) : put fr none v = fr := rfl
theorem ev_tmp (fr : Fr) (t : Nat) : ev fr (.tmp t) = get fr t := rfl
theorem ev_const (fr : Fr) (v : Value) : ev fr (.const v) = ofVal v := rfl
theorem ev_func (fr : Fr) (f : Nat) : ev fr (.func f) = .fn f [] := rfl
end
section
variable {Bs : World → Prop}
theorem below_ext {μ : Mp Bs} {w w' : World} (h : RowKit.Below w.heap.size w w') : Ext μ [] w μ [] w' where
  out := rfl
  still := rfl
  os := h.os
  tape := h.tape
  output := h.output
  size := h.size
  len := Nat.le_refl _
  maps := fun l es hl => by simp at hl
  keep := fun b o v hc hm => by
    refine ⟨?_, hm⟩
    have := h.block b (cell_lt hc)
    simp only [World.cell?] at hc ⊢
    rw [this]; exact hc
  outside := fun b hb ho => ⟨h.block b hb, ho⟩
  cells := fun l cs hl => by simp at hl
  rows := fun l z rs wr hl => by simp at hl
  sizes := fun b vs T hb => ⟨vs, hb.eq (h.block b hb.lt), rfl⟩
theorem prim_of {P : Program} {g : FuncId} {args : List AV} {r : AV} {vs0 : List Value} {v : Value} (ha : ∀ (M : Nat → Nat → Prop) (w : World) (vs : List Value), PRepL M w args vs → vs = vs0) (hr : ∀ (M : Nat → Nat → Prop) (w : World), PRep M w r v)
    (hc : ∀ w, Bs w → Calls P g vs0.toArray w fun e w' => e = .returned v ∧ RowKit.Below w.heap.size w w') : Called Bs P g args [] r [] := by
  intro μ w vs hrel hargs
  have := ha _ w vs (RepL.no_own _ _ hargs)
  subst this
  refine (hc w (hrel.base w fun _ _ => rfl)).mono ?_
  rintro e w' ⟨rfl, hb⟩
  have ex := below_ext (μ := μ) hb
  exact ⟨v, μ, rfl, hrel.ext_same ex (fun l b hl => by simp at hl), ex, Rep.pure _ _ (hr _ _)⟩
theorem prim_at {P : Program} {g : FuncId} {args : List AV} {r : AV} {vs0 : List Value} (ha : ∀ (M : Nat → Nat → Prop) (w : World) (vs : List Value), PRepL M w args vs → vs = vs0)
    (hc : ∀ w, Bs w → Calls P g vs0.toArray w fun e w' => ∃ v, e = .returned v ∧ RowKit.Below w.heap.size w w' ∧ ∀ M : Nat → Nat → Prop, (∀ b o, M b o → b < w.heap.size) → PRep M w' r v) : Called Bs P g args [] r [] := by
  intro μ w vs hrel hargs
  have := ha _ w vs (RepL.no_own _ _ hargs)
  subst this
  refine (hc w (hrel.base w fun _ _ => rfl)).mono ?_
  rintro e w' ⟨v, rfl, hb, hr⟩
  have ex := below_ext (μ := μ) hb
  refine ⟨v, μ, rfl, hrel.ext_same ex (fun l b hl => by simp at hl), ex, Rep.pure _ _ (hr _ fun b o hm => ?_)⟩
  rcases hm with ho | ⟨l, k, hl, _⟩
  · exact hrel.old b o ho
  · simp at hl
theorem below_refl (w : World) : RowKit.Below w.heap.size w w := RowKit.Below.refl _ _
theorem below_drewN (w : World) (n : Nat) : RowKit.Below w.heap.size w (w.drewN n) := ⟨rfl, rfl, rfl, Nat.le_refl _, fun _ _ => rfl⟩
end
def goS (C : Cfg) (F : Tk → Res) (md : Option (List (Nat × Nat) × (Nat → Nat))) (i : Nat) (fr : Fr) (h : Heap) (o : Op) : Option (AV × Heap) :=
  match md with
  | none => stepO C F (ev fr) h o
  | some (dy, pl) => stepQ C F dy pl i (ev fr) h o
def goA (md : Option (List (Nat × Nat) × (Nat → Nat))) (i : Nat) (fr : Fr) (h : Heap) (o : Op) (acc : List (Nat × List Nat)) : List (Nat × List Nat) :=
  match md with
  | none => []
  | some ([], _) => []
  | some (dy, _) => (i, touchesQ dy i (ev fr) h o) :: acc
def goE (F : Tk → Res) (md : Option (List (Nat × Nat) × (Nat → Nat))) (f k : Nat) (ks : List It) (fr : Fr) (h : Heap) (acc : List (Nat × List Nat)) : Res :=
  match md with
  | none => F (.run f k ks fr h)
  | some (dy, _) => if clearAll dy fr acc = true then F (.run f k ks fr h) else none
def go (C : Cfg) (F : Tk → Res) (md : Option (List (Nat × Nat) × (Nat → Nat))) (all : List Oper) (f k : Nat) (ks : List It) : Nat → List Oper → Fr → Heap → List (Nat × List Nat) → Res
  | _, [], fr, h, acc => goE F md f k ks fr h acc
  | i, o :: rest, fr, h, acc => match o.guard with
    | none => (match goS C F md i fr h o.op with
      | some (v, h') => go C F md all f k ks (i + 1) rest (put fr o.dst v) h' (goA md i fr h o.op acc)
      | none => none)
    | some (j, want) => match getO fr (slotOf all j) with
      | .bool b => if b = want then (match goS C F md i fr h o.op with
          | some (v, h') => go C F md all f k ks (i + 1) rest (put fr o.dst v) h' (goA md i fr h o.op acc)
          | none => none) else go C F md all f k ks (i + 1) rest (put fr o.dst (.tup [])) h acc
      | .tup [] => go C F md all f k ks (i + 1) rest (put fr o.dst (.tup [])) h acc
      | _ => none
def goN (C : Cfg) (F : Tk → Res) (md : Option (List (Nat × Nat) × (Nat → Nat))) (all : List Oper) (f k : Nat) (ks : List It) (i : Nat) (rest : List Oper) (fr : Fr) (acc : List (Nat × List Nat)) (d : Option Nat) : Option (AV × Heap) → Res
  | some (v, h') => go C F md all f k ks i rest (put fr d v) h' acc
  | none => none
def goG (C : Cfg) (F : Tk → Res) (md : Option (List (Nat × Nat) × (Nat → Nat))) (all : List Oper) (f k : Nat) (ks : List It) (i : Nat) (rest : List Oper) (fr : Fr) (h : Heap) (acc : List (Nat × List Nat)) (d : Option Nat) (op : Op) (want : Bool) : AV → Res
  | .bool b => if b = want then goN C F md all f k ks (i + 1) rest fr (goA md i fr h op acc) d (goS C F md i fr h op) else go C F md all f k ks (i + 1) rest (put fr d (.tup [])) h acc
  | .tup [] => go C F md all f k ks (i + 1) rest (put fr d (.tup [])) h acc
  | _ => none
section
variable {C : Cfg} {F : Tk → Res}
theorem go_fixed {all : List Oper} {f k : Nat} {ks : List It} : ∀ (l : List Oper) (i : Nat) (fr : Fr) (h : Heap) (acc : List (Nat × List Nat)), go C F none all f k ks i l fr h acc = onReg F f k ks (aOps C F all l fr h)
  | [], _, _, _, _ => rfl
  | o :: l, i, fr, h, acc => by
    have step : (match goS C F none i fr h o.op with
      | some (v, h') => go C F none all f k ks (i + 1) l (put fr o.dst v) h' (goA none i fr h o.op acc)
      | none => none) = onReg F f k ks (match stepO C F (ev fr) h o.op with
        | some (v, h) => aOps C F all l (put fr o.dst v) h
        | none => none) := by
      simp only [goS]
      cases stepO C F (ev fr) h o.op with
      | none => rfl
      | some p => exact go_fixed l _ _ _ _
    cases hg : o.guard with
    | none => simp only [go, aOps, hg]; exact step
    | some jw =>
      obtain ⟨j, want⟩ := jw
      simp only [go, aOps, hg]
      cases hv : getO fr (slotOf all j) with
      | bool b =>
        simp only
        by_cases hb : b = want
        · simp only [hb, if_true]; exact step
        · simp only [hb, if_false]; exact go_fixed l _ _ _ _
      | tup l' =>
        cases l' with
        | nil => exact go_fixed l _ _ _ _
        | cons _ _ => rfl
      | _ => rfl
theorem clearAll_nil (fr : Fr) : ∀ l, clearAll [] fr l = true
  | [] => rfl
  | (i, w) :: r => by simp only [clearAll, clears, clearAll_nil fr r]; rfl
def shutAcc (dy : List (Nat × Nat)) (acc : List (Nat × List Nat)) : Option (Fr × Heap × List (Nat × List Nat)) → Option (Fr × Heap)
  | some (fr, h, l) => if clearAll dy fr l = true ∧ clearAll dy fr acc = true then some (fr, h) else none
  | none => none
theorem go_open {dy : List (Nat × Nat)} {pl : Nat → Nat} {all : List Oper} {f k : Nat} {ks : List It} : ∀ (l : List Oper) (i : Nat) (fr : Fr) (h : Heap) (acc : List (Nat × List Nat)),
    go C F (some (dy, pl)) all f k ks i l fr h acc = onReg F f k ks (shutAcc dy acc (aOpsD C F dy pl all i l fr h))
  | [], i, fr, h, acc => by
    simp only [go, goE, aOpsD, shutAcc, clearAll, true_and]
    split <;> rfl
  | o :: l, i, fr, h, acc => by
    have step : (match goS C F (some (dy, pl)) i fr h o.op with
      | some (v, h') => go C F (some (dy, pl)) all f k ks (i + 1) l (put fr o.dst v) h' (goA (some (dy, pl)) i fr h o.op acc)
      | none => none) = onReg F f k ks (shutAcc dy acc (match stepQ C F dy pl i (ev fr) h o.op with
        | some (v, h') => match aOpsD C F dy pl all (i + 1) l (put fr o.dst v) h' with
          | some (fr', h'', l) => some (fr', h'', (i, touchesQ dy i (ev fr) h o.op) :: l)
          | none => none
        | none => none)) := by
      simp only [goS]
      cases stepQ C F dy pl i (ev fr) h o.op with
      | none => rfl
      | some p =>
        obtain ⟨v, h'⟩ := p
        simp only
        rw [go_open l (i + 1) _ h' _]
        cases hA : aOpsD C F dy pl all (i + 1) l (put fr o.dst v) h' with
        | none => rfl
        | some q =>
          obtain ⟨fr', h'', l'⟩ := q
          congr 1
          cases dy with
          | nil => simp only [shutAcc, clearAll_nil, and_self, if_true]
          | cons d dy =>
            simp only [shutAcc, goA, clearAll, Bool.and_eq_true]
            congr 1
            simp only [eq_iff_iff]
            constructor
            · rintro ⟨a, b, c⟩; exact ⟨⟨b, a⟩, c⟩
            · rintro ⟨⟨b, a⟩, c⟩; exact ⟨a, b, c⟩
    cases hg : o.guard with
    | none => simp only [go, aOpsD, hg]; exact step
    | some jw =>
      obtain ⟨j, want⟩ := jw
      simp only [go, aOpsD, hg]
      cases hv : getO fr (slotOf all j) with
      | bool b =>
        simp only
        by_cases hb : b = want
        · simp only [hb, if_true]; exact step
        · simp only [hb, if_false]; exact go_open l _ _ _ _
      | tup l' =>
        cases l' with
        | nil => exact go_open l _ _ _ _
        | cons _ _ => rfl
      | _ => rfl
theorem shut_acc {dy : List (Nat × Nat)} (x : Option (Fr × Heap × List (Nat × List Nat))) : shutAcc dy [] x = shutD dy x := by
  cases x with
  | none => rfl
  | some p => obtain ⟨fr, h, l⟩ := p; simp [shutAcc, shutD, clearAll]
end
section
variable {C : Cfg} {f k id : Nat} {ks : List It} {fr : Fr} {h : Heap} {ops : List Oper}
@[go_sem] theorem R_reg : R C (.run f k (.code (.region id ops.toArray false) :: ks) fr h) = go C (R C) none ops f k ks 0 ops fr h [] := by
  rw [R_region, go_fixed]
@[go_sem] theorem R_dreg : R C (.run f k (.code (.region id ops.toArray true) :: ks) fr h) = go C (R C) (some (C.dyn f id, plOf h.length ops)) ops f k ks 0 ops fr (h ++ List.replicate (numA ops) .hole) [] := by
  rw [R_draw, go_open, shut_acc]
end
section
variable {C : Cfg} {F : Tk → Res} {md : Option (List (Nat × Nat) × (Nat → Nat))} {all rest : List Oper} {f k i : Nat} {ks : List It} {fr : Fr} {h : Heap} {acc : List (Nat × List Nat)} {d : Option Tmp} {op : Op} {t : TypeId} {p : String} {ed : Array Edge}
@[go_sem] theorem go_nil : go C F md all f k ks i [] fr h acc = goE F md f k ks fr h acc := rfl
@[go_sem] theorem go_cons : go C F md all f k ks i (⟨d, op, t, p, ed, none⟩ :: rest) fr h acc = goN C F md all f k ks (i + 1) rest fr (goA md i fr h op acc) d (goS C F md i fr h op) := by
  simp only [go]
  generalize goS C F md i fr h op = v
  cases v <;> rfl
@[go_sem] theorem go_guard {j : Nat} {want : Bool} : go C F md all f k ks i (⟨d, op, t, p, ed, some (j, want)⟩ :: rest) fr h acc = goG C F md all f k ks i rest fr h acc d op want (getO fr (slotOf all j)) := by
  simp only [go]
  generalize getO fr (slotOf all j) = v
  cases v with
  | bool b =>
    simp only [goG]
    generalize goS C F md i fr h op = s
    cases s <;> rfl
  | tup l => cases l <;> rfl
  | _ => rfl
@[go_sem] theorem goN_some {v : AV} : goN C F md all f k ks i rest fr acc d (some (v, h)) = go C F md all f k ks i rest (put fr d v) h acc := rfl
@[go_sem] theorem goG_tt : goG C F md all f k ks i rest fr h acc d op true (.bool true) = goN C F md all f k ks (i + 1) rest fr (goA md i fr h op acc) d (goS C F md i fr h op) := rfl
@[go_sem] theorem goG_tf : goG C F md all f k ks i rest fr h acc d op true (.bool false) = go C F md all f k ks (i + 1) rest (put fr d (.tup [])) h acc := rfl
@[go_sem] theorem goG_ft : goG C F md all f k ks i rest fr h acc d op false (.bool true) = go C F md all f k ks (i + 1) rest (put fr d (.tup [])) h acc := rfl
@[go_sem] theorem goG_ff : goG C F md all f k ks i rest fr h acc d op false (.bool false) = goN C F md all f k ks (i + 1) rest fr (goA md i fr h op acc) d (goS C F md i fr h op) := rfl
theorem split_yes {b : Bool} {r : Res} (h1 : b = true → goN C F md all f k ks (i + 1) rest fr (goA md i fr h op acc) d (goS C F md i fr h op) = r) (h2 : b = false → go C F md all f k ks (i + 1) rest (put fr d (.tup [])) h acc = r) : goG C F md all f k ks i rest fr h acc d op true (.bool b) = r := by
  cases b
  · exact h2 rfl
  · exact h1 rfl
theorem split_no {b : Bool} {r : Res} (h1 : b = true → go C F md all f k ks (i + 1) rest (put fr d (.tup [])) h acc = r) (h2 : b = false → goN C F md all f k ks (i + 1) rest fr (goA md i fr h op acc) d (goS C F md i fr h op) = r) : goG C F md all f k ks i rest fr h acc d op false (.bool b) = r := by
  cases b
  · exact h2 rfl
  · exact h1 rfl
theorem split_cond {a b : Code} {t : Bool} {r : Res} (h1 : t = true → F (.run f k (.code a :: ks) fr h) = r) (h2 : t = false → F (.run f k (.code b :: ks) fr h) = r) : onCond F f k ks a b fr h (.bool t) = r := by
  cases t
  · exact h2 rfl
  · exact h1 rfl
@[go_sem] theorem goG_out {want : Bool} : goG C F md all f k ks i rest fr h acc d op want (.tup []) = go C F md all f k ks (i + 1) rest (put fr d (.tup [])) h acc := rfl
@[go_sem] theorem goE_fixed : goE F none f k ks fr h acc = F (.run f k ks fr h) := rfl
@[go_sem] theorem goE_open {pl : Nat → Nat} : goE F (some ([], pl)) f k ks fr h acc = F (.run f k ks fr h) := by simp only [goE, clearAll_nil, if_true]
@[go_sem] theorem goE_dy {a : Nat × Nat} {dy : List (Nat × Nat)} {pl : Nat → Nat} : goE F (some (a :: dy, pl)) f k ks fr h acc = if clearAll (a :: dy) fr acc = true then F (.run f k ks fr h) else none := rfl
@[go_sem] theorem goA_fixed : goA none i fr h op acc = [] := rfl
@[go_sem] theorem goA_open {pl : Nat → Nat} : goA (some ([], pl)) i fr h op acc = [] := rfl
@[go_sem] theorem goA_dy {a : Nat × Nat} {dy : List (Nat × Nat)} {pl : Nat → Nat} : goA (some (a :: dy, pl)) i fr h op acc = (i, touchesQ (a :: dy) i (ev fr) h op) :: acc := rfl
@[go_sem] theorem goS_fixed : goS C F none i fr h op = stepO C F (ev fr) h op := rfl
@[go_sem] theorem goS_open {dy : List (Nat × Nat)} {pl : Nat → Nat} : goS C F (some (dy, pl)) i fr h op = stepQ C F dy pl i (ev fr) h op := rfl
end
noncomputable def RL (C : Cfg) (t : Tk) : Res := R C t
theorem RL_eq (C : Cfg) (t : Tk) : RL C t = R C t := rfl
noncomputable def onBlockL (C : Cfg) (f k : Nat) (ks : List It) (id : Nat) (b : Code) (fr : Fr) (h : Heap) : Option (List Nat × List (Nat × Option Nat × Nat × Bool) × List Nat) → Res
  | some (live, os, fz) => onLoop (RL C) f k ks id b (live, fz) (frz k live fz (restr (owned fr h os).1 live) (owned fr h os).2)
  | none => R C (.run f k (.code (.loop b) :: .blk id h.length :: ks) fr h)
section
variable {C : Cfg} {f k id n : Nat} {ks : List It} {fr : Fr} {h : Heap} {a b : Code}
@[go_sem] theorem R_loop_in : R C (.run f k (.code (.block id (.loop b)) :: ks) fr h) = onBlockL C f k ks id b fr h (C.live f id) := by
  rw [R_block]
  cases C.live f id with
  | none => rfl
  | some p => rfl
@[go_sem] theorem onBlockL_some {live : List Nat} {os : List (Nat × Option Nat × Nat × Bool)} {fz : List Nat} : onBlockL C f k ks id b fr h (some (live, os, fz)) = onLoop (RL C) f k ks id b (live, fz) (frz k live fz (restr (owned fr h os).1 live) (owned fr h os).2) := rfl
@[go_sem] theorem R_turn {live : List Nat × List Nat} : R C (.run f k (.lp b (some live) n :: ks) fr h) = onRound (RL C) f k ks b live n fr h := R_lp
theorem R_blk_in (hc : ∀ x, a ≠ .loop x) : R C (.run f k (.code (.block id a) :: ks) fr h) = R C (.run f k (.code a :: .blk id h.length :: ks) fr h) := by
  rw [R_block]
  unfold onBlock
  split
  · split
    · rename_i x; exact absurd rfl (hc x)
    · rfl
  · rfl
@[go_sem] theorem R_blk_seq : R C (.run f k (.code (.block id (.seq a b)) :: ks) fr h) = R C (.run f k (.code (.seq a b) :: .blk id h.length :: ks) fr h) := R_blk_in (by simp)
@[go_sem] theorem R_blk_cond {x : Operand} : R C (.run f k (.code (.block id (.cond x a b)) :: ks) fr h) = R C (.run f k (.code (.cond x a b) :: .blk id h.length :: ks) fr h) := R_blk_in (by simp)
@[go_sem] theorem R_blk_region {i : Nat} {ops : Array Oper} {d : Bool} : R C (.run f k (.code (.block id (.region i ops d)) :: ks) fr h) = R C (.run f k (.code (.region i ops d) :: .blk id h.length :: ks) fr h) := R_blk_in (by simp)
@[go_sem] theorem R_blk_skip : R C (.run f k (.code (.block id .skip) :: ks) fr h) = R C (.run f k (.code .skip :: .blk id h.length :: ks) fr h) := R_blk_in (by simp)
@[go_sem] theorem R_blk_ret : R C (.run f k (.code (.block id .ret) :: ks) fr h) = R C (.run f k (.code .ret :: .blk id h.length :: ks) fr h) := R_blk_in (by simp)
@[go_sem] theorem R_blk_exit {i : Nat} : R C (.run f k (.code (.block id (.exit i)) :: ks) fr h) = R C (.run f k (.code (.exit i) :: .blk id h.length :: ks) fr h) := R_blk_in (by simp)
@[go_sem] theorem R_blk_blk {i : Nat} : R C (.run f k (.code (.block id (.block i a)) :: ks) fr h) = R C (.run f k (.code (.block i a) :: .blk id h.length :: ks) fr h) := R_blk_in (by simp)
end
section
variable {P : Program} {ρ : Go.Shelf.Ren}
open Go.Shelf Go.RowKit in
set_option maxHeartbeats 2000000 in
set_option maxRecDepth 100000 in
theorem Any.Builder_String_exact (L : Lays.n169 P ρ) (X : Builder.Extra P ρ) (b g cap : Nat) (p : Value) (T : TypeId) (cur : Array Value) (fz : Nat × Nat) (l : List UInt8) (w : World) (h0 : l ≠ [])
    (hbk : w.heap[b]? = some (.cells #[p, .slice (some ⟨g, 0, none⟩) l.length cap] T (0, 0))) (hg : w.heap[g]? = some (.cells cur (ρ.t 5) fz)) (hcap : l.length ≤ cap) (hcs : l.length ≤ cur.size) (h63 : l.length ≤ 9223372036854775807)
    (hcell : ∀ (j : Nat) (x : UInt8), l[j]? = some x → cur[j]? = some (Value.int .u8 x.toNat)) :
    Calls P (ρ.f 169) #[.pointer (some ⟨b, 0, none⟩)] w fun e w' => e = .returned (.string ⟨l.toArray⟩) ∧ w' = w.drew.freeze ⟨g, 0, none⟩ l.length := by
  have hl0 : l.length ≠ 0 := by simpa using h0
  have c1 : w.drew.cell? ⟨b, 1, none⟩ = some (.slice (some ⟨g, 0, none⟩) l.length cap) := by
    have : w.drew.heap[b]? = some (.cells #[p, .slice (some ⟨g, 0, none⟩) l.length cap] T (0, 0)) := hbk
    rw [Lib.cell_of_heap this]; rfl
  have hSD : (Builtin.unsafeSliceData_ #[(ρ.t 37)] (ρ.t 127) #[.slice (some ⟨g, 0, none⟩) l.length cap]).run P w.drew = .ok (.pointer (some ⟨g, 0, none⟩)) w.drew :=
    Lib.run_unsafeSliceData_row _ _ _ _ _ _ (by omega)
  have hUS : (Builtin.unsafeString_ #[(ρ.t 127), (ρ.t 3)] (ρ.t 9) #[.pointer (some ⟨g, 0, none⟩), .int .i64 l.length]).run P w.drew = .ok (.string ⟨l.toArray⟩) (w.drew.freeze ⟨g, 0, none⟩ l.length) := by
    refine Lib.run_unsafeString_row w.drew (ρ.t 127) (ρ.t 3) (ρ.t 9) (ρ.t 5) L.t127 X.cellsByte g cur.size (by have hg' : w.drew.heap[g]? = some (.cells cur (ρ.t 5) fz) := hg; simp [World.shape?, hg']) l h0 hcs h63 ?_
    intro j x hx
    have hg' : w.drew.heap[g]? = some (.cells cur (ρ.t 5) fz) := hg
    have hadd : (⟨g, 0, none⟩ : Addr).add j = ⟨g, j, none⟩ := by unfold Addr.add; split <;> simp_all
    rw [hadd, Lib.cell_of_heap hg']
    exact hcell j x hx
  have mixed := L.mixed
  have t72 := L.t72; have a72 := L.a72; have z72 := L.z72; have v72 := L.v72; have u72 := run_underlying L.t72
  have t70 := L.t70; have a70 := L.a70; have z70 := L.z70; have v70 := L.v70; have u70 := run_underlying L.t70
  have t37 := L.t37; have a37 := L.a37; have z37 := L.z37; have v37 := L.v37; have u37 := run_underlying L.t37
  have t127 := L.t127; have a127 := L.a127; have z127 := L.z127; have v127 := L.v127; have u127 := run_underlying L.t127
  have t3 := L.t3; have a3 := L.a3; have z3 := L.z3; have v3 := L.v3; have u3 := run_underlying L.t3
  have t9 := L.t9; have a9 := L.a9; have z9 := L.z9; have v9 := L.v9; have u9 := run_underlying L.t9
  have t5 := X.t5; have a5 := X.a5; have z5 := X.z5; have v5 := X.v5; have u5 := run_underlying X.t5
  go_enter L.f169, Body.n169_ntmps ρ
  go_wp2
  go_region_o
  all_goals (go_wp2; go_ret; exact ⟨rfl, rfl⟩)
end
section
variable {Bs : World → Prop} {P : Program} {ρ : Go.Shelf.Ren}
theorem prim_any {g : FuncId} {args : List AV} {r : AV} {v : Value} (hr : ∀ (M : Nat → Nat → Prop) (w : World), PRep M w r v)
    (hc : ∀ (M : Nat → Nat → Prop) (w : World) (vs : List Value), Bs w → PRepL M w args vs → Calls P g vs.toArray w fun e w' => e = .returned v ∧ RowKit.Below w.heap.size w w') : Called Bs P g args [] r [] := by
  intro μ w vs hrel hargs
  refine (hc _ w vs (hrel.base w fun _ _ => rfl) (RepL.no_own _ _ hargs)).mono ?_
  rintro e w' ⟨rfl, hb⟩
  have ex := below_ext (μ := μ) hb
  exact ⟨v, μ, rfl, hrel.ext_same ex (fun l b hl => by simp at hl), ex, Rep.pure _ _ (hr _ _)⟩
def bytesOf : List (List AV) → Option (List UInt8)
  | [] => some []
  | [.int .u8 n] :: r => if 0 ≤ n ∧ n < 256 then (match bytesOf r with
    | some l => some (UInt8.ofNat n.toNat :: l)
    | none => none) else none
  | _ => none
theorem bytesOf_rows : ∀ s : List UInt8, bytesOf (byteRows s) = some s
  | [] => rfl
  | b :: r => by
    have h := b.toNat_lt
    simp only [byteRows, bytesOf]
    rw [if_pos (by omega), bytesOf_rows r]
    simp
theorem bytesOf_eq : ∀ (rs : List (List AV)) (s : List UInt8), bytesOf rs = some s → rs = byteRows s
  | [], s, e => by simp only [bytesOf, Option.some.injEq] at e; subst e; rfl
  | row :: r, s, e => by
    unfold bytesOf at e
    split at e
    · simp at *
    · rename_i n r' heq
      obtain ⟨rfl, rfl⟩ := List.cons.inj heq
      split at e
      · rename_i hn
        split at e
        · rename_i l hl
          simp only [Option.some.injEq] at e
          subst e
          rw [byteRows, bytesOf_eq r l hl]
          have : ((UInt8.ofNat n.toNat).toNat : Int) = n := by
            rw [UInt8.toNat_ofNat']
            omega
          rw [this]
        · simp at e
      · simp at e
    · simp at e
def pCopyCheck (t : TypeId) : List AV → Heap → Option (AV × Heap)
  | [.tptr t' 0 0], .cells [.nilp, x] :: r => if t' = t then some (.tup [], .cells [.ptr 0 0, x] :: r) else none
  | [.tptr t' 0 0], .cells [.ptr 0 0, x] :: r => if t' = t then some (.tup [], .cells [.ptr 0 0, x] :: r) else none
  | _, _ => none
def pBString (t e : TypeId) : List AV → Heap → Option (AV × Heap)
  | [.tptr t' 0 0], .cells [p, .town e' 1 n] :: .rows 1 rs false :: r => if t' = t ∧ (e' = e ∧ (n = rs.length ∧ (0 < n ∧ n ≤ 9223372036854775807))) then (match bytesOf rs with
    | some s => some (.str s, .cells [p, .town e' 1 n] :: .rows 1 rs false :: r)
    | none => none) else none
  | _, _ => none
theorem ptr_args {μ : Mp Bs} {h : Heap} {w : World} {t : TypeId} {cs : List AV} {r : Heap} {vs : List Value} (hr : Rel μ (.cells cs :: r) w) (ha : RepL μ (.cells cs :: r) w [.tptr t 0 0] vs) :
    ∃ b us, vs = [.pointer (some ⟨b, 0, none⟩)] ∧ μ 0 = some b ∧ w.heap[b]? = some (.cells (List.toArray us) t (0, 0)) ∧ singles cs = true ∧ RepL μ (.cells cs :: r) w cs us := by
  obtain ⟨v, vr, rfl, h1, h2⟩ := ha
  have h2 : vr = [] := h2
  subst h2
  obtain ⟨cs', b, hl, hm, rfl, vs', fz, hs⟩ := h1
  obtain ⟨b', us, T, h3, h4, h5, h6⟩ := hr.blk 0 _ (show (Blk.cells cs :: r)[0]? = some (.cells cs) from rfl)
  have : b' = b := by rw [hm] at h3; simpa using h3.symm
  subst this
  rw [h4] at hs
  simp only [Option.some.injEq, Obj.cells.injEq] at hs
  obtain ⟨_, rfl, _⟩ := hs
  exact ⟨b', us, rfl, hm, h4, h5, h6⟩
theorem two_cells {μ : Mp Bs} {h : Heap} {w : World} {p x : AV} {us : List Value} (r : RepL μ h w [p, x] us) : ∃ u v, us = [u, v] ∧ Rep μ h w p u ∧ Rep μ h w x v := by
  obtain ⟨u, ur, rfl, h1, v, vr, rfl, h2, h3⟩ := r
  have h3 : vr = [] := h3
  subst h3
  exact ⟨u, v, rfl, h1, h2⟩
open Go.Shelf in
theorem copyCheck_called (L : Lays.n240 P ρ) (X : Builder.X72 P ρ) {args : List AV} {h h' : Heap} {v : AV} (e : pCopyCheck (ρ.t 72) args h = some (v, h')) : Called Bs P (ρ.f 240) args h v h' := by
  unfold pCopyCheck at e
  split at e
  · rename_i t' x r
    split at e
    · rename_i ht
      subst ht
      simp only [Option.some.injEq, Prod.mk.injEq] at e
      obtain ⟨rfl, rfl⟩ := e
      intro μ w vs hr ha
      obtain ⟨b, us, rfl, hm, hb, hs, hu⟩ := ptr_args (h := []) hr ha
      obtain ⟨u, v, rfl, h1, h2⟩ := two_cells hu
      have h1 : u = .pointer none := h1
      subst h1
      have c0 : w.cell? ⟨b, 0, none⟩ = some (.pointer none) := by rw [Lib.cell_of_heap hb]; rfl
      have hsh : w.shape? b = some ((ρ.t 72), 2) := by simp [World.shape?, hb]
      have hfr : w.frozen? ⟨b, 0, none⟩ = false := Lib.frozen_of_heap hb 0
      refine (Any.Builder_copyCheck_fresh L X b w c0 hsh hfr).mono ?_
      rintro e w' ⟨rfl, rfl⟩
      rw [setCell_eq_setRow w b 0 _ _ _ _ hb]
      have hk : (w.setRow b (#[Value.pointer none, v].setIfInBounds 0 (.pointer (some ⟨b, 0, none⟩)))).heap[b]? = some (.cells #[.pointer (some ⟨b, 0, none⟩), v] (ρ.t 72) (0, 0)) := setRow_heap w b _ _ _ _ hb
      have ex : Ext μ (.cells [.nilp, x] :: r) w μ ((Blk.cells [.nilp, x] :: r).set 0 (.cells [.ptr 0 0, x])) (w.setRow b (#[Value.pointer none, v].setIfInBounds 0 (.pointer (some ⟨b, 0, none⟩)))) :=
        Ext.update hr (l := 0) rfl hm hb hk (fun b2 hb2 => setRow_other w b b2 _ hb2) rfl rfl rfl (by simp) rfl (fun _ _ _ hno => absurd trivial hno) (fun _ _ => trivial) trivial
      refine ⟨.tuple #[], μ, rfl, Rel.update hr (l := 0) rfl hm (fun b2 hb2 => setRow_other w b b2 _ hb2) ex ?_, ex, [], rfl, rfl⟩
      refine ⟨b, [.pointer (some ⟨b, 0, none⟩), v], ρ.t 72, hm, hk, ?_, .pointer (some ⟨b, 0, none⟩), [v], rfl, ?_, v, [], rfl, Rep.ext ex _ _ h2, rfl⟩
      · simp only [singles, Bool.and_true, Bool.and_eq_true] at hs ⊢
        exact ⟨rfl, hs.2⟩
      · exact ⟨[.ptr 0 0, x], b, rfl, hm, rfl⟩
    · simp at e
  · rename_i t' x r
    split at e
    · rename_i ht
      subst ht
      simp only [Option.some.injEq, Prod.mk.injEq] at e
      obtain ⟨rfl, rfl⟩ := e
      intro μ w vs hr ha
      obtain ⟨b, us, rfl, hm, hb, hs, hu⟩ := ptr_args (h := []) hr ha
      obtain ⟨u, v, rfl, h1, h2⟩ := two_cells hu
      obtain ⟨cs', b', _, hm', rfl⟩ := h1
      have : b' = b := by rw [hm] at hm'; simpa using hm'.symm
      subst this
      have c0 : w.cell? ⟨b', 0, none⟩ = some (.pointer (some ⟨b', 0, none⟩)) := by rw [Lib.cell_of_heap hb]; rfl
      refine (Any.Builder_copyCheck_used L X b' w c0).mono ?_
      rintro e w' ⟨rfl, rfl⟩
      exact ⟨.tuple #[], μ, rfl, hr, Ext.refl _ _ _, [], rfl, rfl⟩
    · simp at e
  · simp at e
theorem froze {μ : Mp Bs} {h : Heap} {w : World} {l g n : Nat} {rs : List (List AV)} (hr : Rel μ h w) (hl : h[l]? = some (.rows 1 rs false)) (hm : μ l = some g) (hn : n ≤ rs.length) :
    Rel μ h (w.freeze ⟨g, 0, none⟩ n) ∧ Ext μ h w μ h (w.freeze ⟨g, 0, none⟩ n) := by
  by_cases h0 : n = 0
  · subst h0
    have : w.freeze ⟨g, 0, none⟩ 0 = w := rfl
    rw [this]
    exact ⟨hr, Ext.refl _ _ _⟩
  rcases hr.blk l _ hl with ⟨_, h1⟩ | ⟨b, vs, T, h1, ⟨fz, h2, h3⟩, h4, h5⟩
  · rw [hm] at h1; simp at h1
  · have : b = g := by rw [hm] at h1; simpa using h1.symm
    subst this
    have hset : h.set l (.rows 1 rs false) = h := list_set_same hl
    have hother : ∀ b2, b2 ≠ b → (w.freeze ⟨b, 0, none⟩ n).heap[b2]? = w.heap[b2]? := fun b2 hb2 => by
      unfold World.freeze
      rw [if_neg h0]
      simp only [Array.getElem?_modify]
      rw [if_neg (fun e => hb2 e.symm)]
    obtain ⟨fz', hb', hfz'⟩ : ∃ fz' : Nat × Nat, (w.freeze ⟨b, 0, none⟩ n).heap[b]? = some (.cells vs T fz') ∧ fz'.2 ≤ rs.length * 1 := by
      obtain ⟨lo, hi⟩ := fz
      refine ⟨if lo == hi then (0, 0 + n) else (min lo 0, max hi (0 + n)), ?_, ?_⟩
      · unfold World.freeze
        rw [if_neg h0]
        simp only [Array.getElem?_modify, if_true, h2, Option.map_some]
      · have : hi ≤ rs.length * 1 := by
          rcases h3 with h3 | h3
          · simp only [Prod.mk.injEq] at h3; omega
          · exact h3.2
        split
        · simp; omega
        · simp only [Nat.zero_add, Nat.mul_one] at this ⊢; omega
    have ex : Ext μ h w μ (h.set l (.rows 1 rs false)) (w.freeze ⟨b, 0, none⟩ n) :=
      Ext.update hr hl hm h2 hb' hother (by unfold World.freeze; split <;> rfl) (by unfold World.freeze; split <;> rfl) (by unfold World.freeze; split <;> rfl) (by unfold World.freeze; split <;> simp) rfl (fun _ _ hv _ => hv) (fun _ ho => ho) ⟨rfl, Nat.le_refl _⟩
    have re := Rel.update hr hl hm hother ex (.inr ⟨b, vs, T, hm, ⟨fz', hb', .inr ⟨rfl, hfz'⟩⟩, h4, h5.keep ex.keep⟩)
    rw [hset] at ex re
    exact ⟨re, ex⟩
open Go.Shelf in
theorem bString_called (L : Lays.n169 P ρ) (X : Builder.Extra P ρ) {args : List AV} {h h' : Heap} {v : AV} (e : pBString (ρ.t 72) (ρ.t 5) args h = some (v, h')) : Called Bs P (ρ.f 169) args h v h' := by
  unfold pBString at e
  split at e
  · rename_i t' p e' n rs r
    split at e
    · rename_i hc
      obtain ⟨rfl, rfl, hn, hn0, hn63⟩ := hc
      split at e
      · rename_i s hs
        simp only [Option.some.injEq, Prod.mk.injEq] at e
        obtain ⟨rfl, rfl⟩ := e
        have hrs := bytesOf_eq rs s hs
        subst hrs
        rw [byteRows_length] at hn
        subst hn
        intro μ w vs hr ha
        obtain ⟨b, us, rfl, hm, hb, _, hu⟩ := ptr_args (h := []) hr ha
        obtain ⟨u, v, rfl, h1, h2⟩ := two_cells hu
        have hl1 : (Blk.cells [p, .town (ρ.t 5) 1 s.length] :: Blk.rows 1 (byteRows s) false :: r)[1]? = some (.rows 1 (byteRows s) false) := rfl
        obtain ⟨z2, rs2, wr2, base, cap, hl2, _, rfl, hv⟩ := h2
        rw [hl1] at hl2
        simp only [Option.some.injEq, Blk.rows.injEq] at hl2
        obtain ⟨rfl, rfl, rfl⟩ := hl2
        obtain ⟨h3, _, h4⟩ := hv (by rw [byteRows_length])
        rcases h4 with ⟨_, hc0⟩ | ⟨g, cur, rfl, hm1, ⟨fz, hg⟩, hcz⟩
        · omega
        · rcases hr.blk 1 _ hl1 with ⟨_, h5⟩ | ⟨g', cur', T', h5, ⟨fz', h6, _⟩, h7, h8⟩
          · rw [hm1] at h5; simp at h5
          · have : g' = g := by rw [hm1] at h5; simpa using h5.symm
            subst this
            rw [hg] at h6
            simp only [Option.some.injEq, Obj.cells.injEq] at h6
            obtain ⟨rfl, rfl, rfl⟩ := h6
            rw [byteRows_length] at h7
            refine (Any.Builder_String_exact L X b g' cap u _ cur fz s w (fun e => by subst e; simp at hn0) hb hg h3 (by omega) hn63 fun j x hx => ?_).mono ?_
            · have hrow : (byteRows s)[j]? = some [.int .u8 (x.toNat : Int)] := by rw [byteRows_get, hx]; rfl
              obtain ⟨_, _, h9⟩ := h8 j _ hrow
              obtain ⟨u', h10, h11⟩ := h9 0 _ rfl
              have h11 : u' = .int .u8 (x.toNat : Int) := h11
              subst h11
              simpa using h10
            · rintro e w' ⟨rfl, rfl⟩
              have hrd : Rel μ (.cells [p, .town (ρ.t 5) 1 s.length] :: .rows 1 (byteRows s) false :: r) w.drew := drew_rel hr
              have hed : Ext μ (.cells [p, .town (ρ.t 5) 1 s.length] :: .rows 1 (byteRows s) false :: r) w μ (.cells [p, .town (ρ.t 5) 1 s.length] :: .rows 1 (byteRows s) false :: r) w.drew := drew_ext
              obtain ⟨q1, q2⟩ := froze (n := s.length) hrd hl1 hm1 (by rw [byteRows_length]; exact Nat.le_refl _)
              exact ⟨_, μ, rfl, q1, hed.trans q2, rfl⟩
      · simp at e
    · simp at e
  · simp at e
end
end Go.Ab
