/- What is proved: contracts of the program's and the reference's functions in the evaluator, and plain laws on them. Conditions: as each states. -/
import Derived.Test.YtnckdofnpjaibaaGreatDoorMT1
set_option linter.unusedSimpArgs false
set_option linter.unusedVariables false
set_option maxRecDepth 100000
namespace Go.Ab
open Go Go.Proofs
section
variable {Bs : World → Prop}
variable {P : Program} {μ : Mp Bs} {h : Heap} {w : World} {a : Act} {o : Oper} {x : AV}
theorem Rel.move {l z : Nat} {rs rs' : List (List AV)} {wr : Bool} (hr : Rel μ h w) (hl : h[l]? = some (.rows z rs wr)) (hlt : rs.length < rs'.length) (y : Obj)
    (hk : BlkRel (μ.set l (some w.heap.size)) (h.set l (.rows z rs' wr)) (w.alloc y) l (.rows z rs' wr)) : Rel (μ.set l (some w.heap.size)) (h.set l (.rows z rs' wr)) (w.alloc y) where
  inj := fun l1 l2 b hl1 hl2 hm1 hm2 => by
    simp only [List.length_set] at hl1 hl2
    by_cases h1 : l1 = l <;> by_cases h2 : l2 = l
    · omega
    · subst h1
      rw [set_same] at hm1
      rw [set_other _ h2] at hm2
      simp only [Option.some.injEq] at hm1
      have := hr.mapped hl2 hm2
      omega
    · subst h2
      rw [set_same] at hm2
      rw [set_other _ h1] at hm1
      simp only [Option.some.injEq] at hm2
      have := hr.mapped hl1 hm1
      omega
    · rw [set_other _ h1] at hm1
      rw [set_other _ h2] at hm2
      exact hr.inj l1 l2 b hl1 hl2 hm1 hm2
  blk := fun l' k' hl' => by
    have e := Ext.move hr hl hlt y
    by_cases hll : l = l'
    · subst hll
      rw [List.getElem?_set_self (List.getElem?_eq_some_iff.1 hl).1] at hl'
      simp only [Option.some.injEq] at hl'
      subst hl'
      exact hk
    · rw [List.getElem?_set_ne hll] at hl'
      have := hr.blk l' k' hl'
      have hne : l' ≠ l := fun e => hll e.symm
      cases k' with
      | cells cs =>
        obtain ⟨b, vs, T, h3, h4, h5, h6⟩ := this
        exact ⟨b, vs, T, by rw [set_other _ hne]; exact h3, by rw [alloc_old y (heap_lt h4)]; exact h4, h5, RepL.ext e cs vs h6⟩
      | rows z rs wr =>
        rcases this with ⟨h3, h4⟩ | ⟨b, vs, T, h3, h4, h5, h6⟩
        · exact .inl ⟨h3, by rw [set_other _ hne]; exact h4⟩
        · exact .inr ⟨b, vs, T, by rw [set_other _ hne]; exact h3, h4.eq (alloc_old y h4.lt), h5, h6.keep e.keep⟩
      | hole =>
        show (μ.set l (some w.heap.size)) l' = none
        rw [set_other _ hne]; exact this
      | map es =>
        obtain ⟨b, ms, c, h3, h4, h5⟩ := this
        exact ⟨b, ms, c, by rw [set_other _ hne]; exact h3, by rw [alloc_old y (heap_lt h4)]; exact h4, h5.keep e.keep⟩
  apart := fun l' b o hl' hm ho => by
    by_cases h1 : l' = l
    · subst h1
      rw [set_same] at hm
      simp only [Option.some.injEq] at hm
      have := hr.old b o ho
      omega
    · rw [set_other _ h1] at hm
      exact hr.apart l' b o (by simpa using hl') hm ho
  old := fun b o ho => Nat.lt_of_lt_of_le (hr.old b o ho) (Ext.move hr hl hlt y).size
  still := (hr.carry (Ext.move hr hl hlt y)).1
  base := (hr.carry (Ext.move hr hl hlt y)).2
theorem zeroCells_size (zs : Array Value) (n : Nat) : (Builtin.zeroCells zs n).size = n * zs.size := by simp [Builtin.zeroCells]
def Made (P : Program) (μ : Mp Bs) (h : Heap) (w : World) (s : Sem Value) (x : AV) (h' : Heap) : Prop :=
  ∃ u μ' w', s.run P w = .ok u w' ∧ Rel μ' h' w' ∧ Ext μ h w μ' h' w' ∧ Rep μ' h' w' x u
theorem made_new {s : Sem Value} {wr : Bool} {z c : Nat} {rs : List (List AV)} {flat : List Value} {rest : Array Value} {T : TypeId} (hr : Rel μ h w) (hpos : 0 < rs.length) (hl : flat.length = rs.length * z) (hin : RowsIn (Mut μ h) (drewW w) z rs flat.toArray) (hc : rs.length ≤ c) (hrest : rest.size = (c - rs.length) * z)
    (hrun : s.run P w = .ok (.slice (some ⟨w.heap.size, 0, none⟩) rs.length c) ((drewW w).alloc (.cells (flat.toArray ++ rest) T))) : Made P μ h w s (.own h.length rs.length) (h ++ [.rows z rs wr]) := by
  have hr1 := drew_rel hr
  have e1 := Ext.push hr1 (.rows z rs wr) (some (.cells (flat.toArray ++ rest) T))
  have hsz : (flat.toArray ++ rest).size = c * z := by
    simp only [Array.size_append, List.size_toArray, hl, hrest]
    rw [← Nat.add_mul]
    congr 1
    omega
  have hheap : ((drewW w).alloc (.cells (flat.toArray ++ rest) T)).heap[w.heap.size]? = some (.cells (flat.toArray ++ rest) T (0, 0)) := alloc_new (w := drewW w) _
  refine ⟨_, _, _, hrun, Rel.push hr1 (.rows z rs wr) (some (.cells (flat.toArray ++ rest) T)) ?_, drew_ext.trans e1, ?_⟩
  · refine .inr ⟨w.heap.size, flat.toArray ++ rest, T, set_same _ _, .free hheap, by rw [hsz]; exact Nat.mul_le_mul_right z hc, ?_⟩
    have h2 := RowsIn.append (w := drewW w) (M := Mut μ h) (fl := []) (fy := flat) (rest := rest.toList) (rs := []) (ys := rs) (z := z) (by simp) (fun i row hrow => by simp at hrow) hin
    have h3 : ([] ++ flat ++ rest.toList).toArray = flat.toArray ++ rest := by apply Array.ext'; simp
    rw [h3] at h2
    exact RowsIn.keep e1.keep h2
  · exact ⟨z, rs, wr, _, c, by simp, Nat.le_refl _, rfl, fun _ => ⟨hc, fun h0 => by omega, .inr ⟨w.heap.size, flat.toArray ++ rest, T, rfl, set_same _ _, ⟨_, hheap⟩, by rw [hsz]; exact Nat.le_refl _⟩⟩⟩
theorem made_moved {s : Sem Value} {l z c : Nat} {rs ys : List (List AV)} {wr : Bool} {fl fy : List Value} {rest : Array Value} {T : TypeId} (hr : Rel μ h w) (hlk : h[l]? = some (.rows z rs wr)) (hpos : 0 < ys.length) (hl : fl.length = rs.length * z) (hin : RowsIn (Mut μ h) (drewW w) z rs fl.toArray) (hl' : fy.length = ys.length * z) (hin' : RowsIn (Mut μ h) (drewW w) z ys fy.toArray)
    (hc : rs.length + ys.length ≤ c) (hrest : rest.size = (c - (rs.length + ys.length)) * z)
    (hrun : s.run P w = .ok (.slice (some ⟨w.heap.size, 0, none⟩) (rs.length + ys.length) c) ((drewW w).alloc (.cells (fl.toArray ++ fy.toArray ++ rest) T))) : Made P μ h w s (.own l (rs.length + ys.length)) (h.set l (.rows z (rs ++ ys) wr)) := by
  have hr1 := drew_rel hr
  have hlt : rs.length < (rs ++ ys).length := by simp; omega
  have e1 := Ext.move hr1 hlk hlt (.cells (fl.toArray ++ fy.toArray ++ rest) T)
  have hsz : (fl.toArray ++ fy.toArray ++ rest).size = c * z := by
    simp only [Array.size_append, List.size_toArray, hl, hl', hrest]
    rw [← Nat.add_mul, ← Nat.add_mul]
    congr 1
    omega
  have hheap : ((drewW w).alloc (.cells (fl.toArray ++ fy.toArray ++ rest) T)).heap[w.heap.size]? = some (.cells (fl.toArray ++ fy.toArray ++ rest) T (0, 0)) := alloc_new (w := drewW w) _
  have hlen : (rs ++ ys).length = rs.length + ys.length := by simp
  refine ⟨_, _, _, hrun, Rel.move hr1 hlk hlt _ ?_, drew_ext.trans e1, ?_⟩
  · refine .inr ⟨w.heap.size, _, T, set_same _ _, .free hheap, by rw [hsz, hlen]; exact Nat.mul_le_mul_right z hc, ?_⟩
    have h2 := RowsIn.append (w := drewW w) (M := Mut μ h) (fl := fl) (fy := fy) (rest := rest.toList) (rs := rs) (ys := ys) (z := z) hl hin hin'
    have h3 : (fl ++ fy ++ rest.toList).toArray = fl.toArray ++ fy.toArray ++ rest := by apply Array.ext'; simp
    rw [h3] at h2
    exact RowsIn.keep e1.keep h2
  · exact ⟨z, rs ++ ys, wr, _, c, by rw [List.getElem?_set_self (List.getElem?_eq_some_iff.1 hlk).1], by omega, rfl, fun _ => ⟨hc, fun h0 => by omega, .inr ⟨w.heap.size, _, T, rfl, set_same _ _, ⟨_, hheap⟩, by rw [hsz]; exact Nat.le_refl _⟩⟩⟩
theorem made_movedT {s : Sem Value} {l z c : Nat} {rs ys : List (List AV)} {wr : Bool} {fl fy : List Value} {rest : Array Value} {T : TypeId} (hr : Rel μ h w) (hlk : h[l]? = some (.rows z rs wr)) (hpos : 0 < ys.length) (hl : fl.length = rs.length * z) (hin : RowsIn (Mut μ h) (drewW w) z rs fl.toArray) (hl' : fy.length = ys.length * z) (hin' : RowsIn (Mut μ h) (drewW w) z ys fy.toArray)
    (hc : rs.length + ys.length ≤ c) (hrest : rest.size = (c - (rs.length + ys.length)) * z)
    (hrun : s.run P w = .ok (.slice (some ⟨w.heap.size, 0, none⟩) (rs.length + ys.length) c) ((drewW w).alloc (.cells (fl.toArray ++ fy.toArray ++ rest) T))) : Made P μ h w s (.town T l (rs.length + ys.length)) (h.set l (.rows z (rs ++ ys) wr)) := by
  have hr1 := drew_rel hr
  have hlt : rs.length < (rs ++ ys).length := by simp; omega
  have e1 := Ext.move hr1 hlk hlt (.cells (fl.toArray ++ fy.toArray ++ rest) T)
  have hsz : (fl.toArray ++ fy.toArray ++ rest).size = c * z := by
    simp only [Array.size_append, List.size_toArray, hl, hl', hrest]
    rw [← Nat.add_mul, ← Nat.add_mul]
    congr 1
    omega
  have hheap : ((drewW w).alloc (.cells (fl.toArray ++ fy.toArray ++ rest) T)).heap[w.heap.size]? = some (.cells (fl.toArray ++ fy.toArray ++ rest) T (0, 0)) := alloc_new (w := drewW w) _
  have hlen : (rs ++ ys).length = rs.length + ys.length := by simp
  refine ⟨_, _, _, hrun, Rel.move hr1 hlk hlt _ ?_, drew_ext.trans e1, ?_⟩
  · refine .inr ⟨w.heap.size, _, T, set_same _ _, .free hheap, by rw [hsz, hlen]; exact Nat.mul_le_mul_right z hc, ?_⟩
    have h2 := RowsIn.append (w := drewW w) (M := Mut μ h) (fl := fl) (fy := fy) (rest := rest.toList) (rs := rs) (ys := ys) (z := z) hl hin hin'
    have h3 : (fl ++ fy ++ rest.toList).toArray = fl.toArray ++ fy.toArray ++ rest := by apply Array.ext'; simp
    rw [h3] at h2
    exact RowsIn.keep e1.keep h2
  · exact ⟨z, rs ++ ys, wr, _, c, by rw [List.getElem?_set_self (List.getElem?_eq_some_iff.1 hlk).1], by omega, rfl, fun _ => ⟨hc, fun h0 => by omega, .inr ⟨w.heap.size, _, rfl, set_same _ _, ⟨_, hheap⟩, by rw [hsz]; exact Nat.le_refl _⟩⟩⟩
theorem rowsOf_src {z : Nat} {y : AV} {ys : List (List AV)} {v : Value} (hr : Rel μ h w) (e : rowsOf h y = some ys) (hz : allLen z ys = true) (hy : Rep μ h w y v) : Src P μ h w z ys v := by
  unfold rowsOf at e
  split at e
  · simp only [Option.some.injEq] at e
    subst e
    obtain ⟨base, cap, rfl, _, hb⟩ := hy
    exact src_of hz hb
  · simp only [Option.some.injEq] at e
    subst e
    obtain ⟨base, rfl, hb⟩ := hy
    exact src_of hz hb
  · simp only [Option.some.injEq] at e
    subst e
    have : v = .slice none 0 0 := hy
    subst this
    exact src_of (ys := []) hz (.inl rfl)
  · rename_i l n
    split at e
    · rename_i z' rs wr hl
      split at e
      · rename_i hn
        simp only [Option.some.injEq] at e
        subst e
        obtain ⟨base, cap, flat, rfl, _, h1, h2, h3, _⟩ := own_rows (P := P) hr hl hn hy
        cases rs with
        | nil => exact src_of (ys := []) hz (.inl rfl)
        | cons row rs =>
          have hzz : z' = z := by
            have h4 := (h2 0 row rfl).1
            have h5 := allLen_spec hz 0 row rfl
            omega
          subst hzz
          exact ⟨base, cap, flat, rfl, h1, h2, h3⟩
      · simp at e
    · simp at e
  · simp at e
theorem appendTo_sound {wq : Bool} {at_ : Array TypeId} {t u ty : TypeId} {z b : Nat} {xs : AV} {ys : List (List AV)} {vx vy : Value} {h' : Heap} (h0 : at_[0]? = some t) (h1 : at_[1]? = some u) (hu' : SrcTy P u) (hes : es P t = some (z, b))
    (hr : Rel μ h w) (hx : Rep μ h w xs vx) (hy : Src2 P μ h w z ys vy) (e : appendTo wq h z b xs ys = some (x, h')) : Made P μ h w (Builtin.append_ at_ ty #[vx, vy]) x h' := by
  obtain ⟨el, i, y, hu, hi, rfl, rfl, hz, hzc⟩ := es_zero hes
  obtain ⟨fy, hlen', hl', hin', hf'⟩ := hy
  have hin2 : RowsIn (Mut μ h) (drewW w) i.size ys fy.toArray := hin'.keep (drew_ext (μ := μ) (h := h) (w := w)).keep
  unfold appendTo at e
  split at e
  · -- nil
    have : vx = .slice none 0 0 := hx
    subst this
    split at e
    · rename_i hroom
      simp only [Option.some.injEq, Prod.mk.injEq] at e
      obtain ⟨rfl, rfl⟩ := e
      cases ys with
      | nil =>
        have hfy : fy = [] := List.length_eq_zero_iff.1 (by simpa using hl')
        subst hfy
        have hrun := append_fits_nil (P := P) (w := w) (ty := ty) h0 h1 hu hu' hi hlen' (hf' w rfl)
        refine ⟨_, μ.set h.length none, w, hrun, Rel.push hr (.rows i.size [] wq) none (.inl ⟨rfl, set_same _ _⟩), Ext.push hr (.rows i.size [] wq) none, ?_⟩
        exact ⟨i.size, [], wq, none, 0, by simp, Nat.le_refl _, rfl, fun _ => ⟨Nat.le_refl _, fun _ => rfl, .inl ⟨rfl, rfl⟩⟩⟩
      | cons y0 ys =>
        obtain ⟨c, hc, hrun⟩ := append_grow (P := P) (w := w) (ty := ty) (base := none) (n := 0) (cap := 0) (old := []) h0 h1 hu hu' hi hz hlen' (by simp) (by simpa using hroom) rfl (hf' _ rfl)
        refine made_new (c := c) (rest := Builtin.zeroCells y.cells (c - (0 + (y0 :: ys).length))) (T := el) hr (by simp) hl' hin2 (by omega) (by rw [zeroCells_size, hzc]; simp) ?_
        rw [hrun]
        simp
    · simp at e
  · rename_i rs
    obtain ⟨base, rfl, hb⟩ := hx
    split at e
    · rename_i hc0
      obtain ⟨hpos, hall, hroom⟩ := hc0
      simp only [Option.some.injEq, Prod.mk.injEq] at e
      obtain ⟨rfl, rfl⟩ := e
      obtain ⟨base2, cap2, fl, he, hl, hin, hf⟩ := src_of (P := P) (μ := μ) (h := h) (w := w) (cap := rs.length) hall hb
      simp only [Value.slice.injEq, true_and] at he
      obtain ⟨rfl, rfl⟩ := he
      have hinr : RowsIn (Mut μ h) (drewW w) i.size rs fl.toArray := hin.keep (drew_ext (μ := μ) (h := h) (w := w)).keep
      obtain ⟨c, hc, hrun⟩ := append_grow (P := P) (w := w) (ty := ty) h0 h1 hu hu' hi hz hlen' (by omega) hroom (hf _ rfl) (hf' _ rfl)
      have hcat := RowsIn.append (rest := []) hl hinr hin2
      rw [List.append_nil] at hcat
      have := made_new (wr := false) (s := Builtin.append_ at_ ty #[.slice base rs.length rs.length, vy]) (P := P) (c := c) (rs := rs ++ ys) (flat := fl ++ fy) (rest := Builtin.zeroCells y.cells (c - (rs.length + ys.length))) (T := el) hr (by simp; omega) (by simp [hl, hl', Nat.add_mul]) hcat (by simp; omega) (by rw [zeroCells_size, hzc]; simp) (by
        rw [hrun]
        have : (fl ++ fy).toArray = fl.toArray ++ fy.toArray := by apply Array.ext'; simp
        rw [this]
        simp)
      simpa using this
    · simp at e
  · rename_i l n
    split at e
    · rename_i sz rs wr hlk
      split at e
      · rename_i hc0
        obtain ⟨hn, rfl, hroom⟩ := hc0
        simp only [Option.some.injEq, Prod.mk.injEq] at e
        obtain ⟨rfl, rfl⟩ := e
        obtain ⟨base, cap, fl, rfl, hcap, hl, hin, hf, hb⟩ := own_rows (P := P) hr hlk hn hx
        subst hn
        have hinr : RowsIn (Mut μ h) (drewW w) i.size rs fl.toArray := hin.keep (drew_ext (μ := μ) (h := h) (w := w)).keep
        by_cases hfit : rs.length + ys.length ≤ cap
        · rcases hb with ⟨rfl, rfl, rfl⟩ | ⟨b, vs, T, rfl, hm, ⟨fz, hw, hfz⟩, hcz, hfl⟩
          · -- nothing yet, and nothing comes
            have hy0 : ys = [] := List.length_eq_zero_iff.1 (by simp only [List.length_nil] at hfit; omega)
            subst hy0
            have hfy : fy = [] := List.length_eq_zero_iff.1 (by simpa using hl')
            subst hfy
            have hrun := append_fits_nil (P := P) (w := w) (ty := ty) h0 h1 hu hu' hi hlen' (hf' w rfl)
            rw [List.append_nil, list_set_same hlk]
            exact ⟨_, μ, w, hrun, hr, Ext.refl _ _ _, hx⟩
          · have hrun := append_fits (P := P) (ty := ty) h0 h1 hu hu' hi hlen' hfit hw (by rcases hfz with rfl | hfz; exact Nat.zero_le _; exact hfz.2) hcz hl' (rowsIn_cells hl' hin') (hf' w rfl)
            have hle : rs.length * i.size + fy.length ≤ vs.size := by
              rw [hl', ← Nat.add_mul]
              exact Nat.le_trans (Nat.mul_le_mul_right _ hfit) hcz
            have hsize : (vs.toList.take (rs.length * i.size) ++ fy ++ vs.toList.drop (rs.length * i.size + fy.length)).toArray.size = vs.size := by
              simp; omega
            have ex : Ext μ h w μ (h.set l (.rows i.size (rs ++ ys) wr)) (w.setRow b (vs.toList.take (rs.length * i.size) ++ fy ++ vs.toList.drop (rs.length * i.size + fy.length)).toArray) :=
              Ext.update hr hlk hm hw (setRow_heap w b _ _ T _ hw) (fun b2 hb2 => setRow_other w b b2 _ hb2) rfl rfl rfl (by simp) hsize
                (fun o v hv hno => by
                  have ho : o < rs.length * i.size := by
                    have : ¬ (i.size * rs.length ≤ o) := fun hle => hno (.inr hle)
                    rw [Nat.mul_comm]; omega
                  simp only [List.getElem?_toArray]
                  rw [list_get_splice _ _ _ _ (by simpa using hle), if_pos ho]
                  simpa using hv)
                (fun o ho => by
                  rcases ho with ho | ho
                  · exact .inl ho
                  · right
                    refine Nat.le_trans ?_ ho
                    exact Nat.mul_le_mul_left _ (by simp))
                ⟨rfl, by simp⟩
            refine ⟨_, μ, _, hrun, Rel.update hr hlk hm (fun b2 hb2 => setRow_other w b b2 _ hb2) ex ?_, ex, ?_⟩
            · refine .inr ⟨b, _, T, hm, ⟨fz, setRow_heap w b _ _ T _ hw, hfz.imp id fun hfz => ⟨hfz.1, Nat.le_trans hfz.2 (Nat.mul_le_mul_right _ (by simp))⟩⟩, by rw [hsize]; refine Nat.le_trans ?_ hcz; exact Nat.mul_le_mul_right _ (by simpa using hfit), ?_⟩
              have := RowsIn.append (rest := vs.toList.drop (rs.length * i.size + fy.length)) hl hin hin'
              rw [hfl] at this
              exact this.keep ex.keep
            · exact ⟨i.size, rs ++ ys, wr, _, cap, by rw [List.getElem?_set_self (List.getElem?_eq_some_iff.1 hlk).1], by simp, rfl, fun _ => ⟨hfit, fun h00 => by
                obtain ⟨z2, rs2, wr2, base2, cap2, hlk2, _, he2, hv2⟩ := hx
                rw [hlk] at hlk2
                simp only [Option.some.injEq, Blk.rows.injEq] at hlk2
                obtain ⟨rfl, rfl, rfl⟩ := hlk2
                simp only [Value.slice.injEq, true_and] at he2
                obtain ⟨_, rfl⟩ := he2
                exact (hv2 rfl).2.1 (by omega), .inr ⟨b, _, T, rfl, hm, ⟨_, setRow_heap w b _ _ T _ hw⟩, by rw [hsize]; exact hcz⟩⟩⟩
        · obtain ⟨c, hc, hrun⟩ := append_grow (P := P) (w := w) (ty := ty) h0 h1 hu hu' hi hz hlen' (by omega) hroom (hf _ rfl) (hf' _ rfl)
          exact made_moved (c := c) (rest := Builtin.zeroCells y.cells (c - (rs.length + ys.length))) (T := el) hr hlk (by omega) hl hinr hl' hin2 hc (by rw [zeroCells_size, hzc]) hrun
      · simp at e
    · simp at e
  · simp at e
theorem makeSlice_sound {t : TypeId} {n m : AV} {vn vm : Value} {h' : Heap} (hr : Rel μ h w) (hn : Rep μ h w n vn) (hm : Rep μ h w m vm) (e : makeSliceV P t h n m = some (x, h')) : Made P μ h w (Instr.makeSlice t vn vm) x h' := by
  unfold makeSliceV at e
  split at e
  · rename_i k k'
    have e1 : vn = .int .i64 k := hn
    have e2 : vm = .int .i64 k' := hm
    subst e1 e2
    split at e
    · rename_i hkk
      subst hkk
      split at e
      · rename_i z b hes
        split at e
        · rename_i hc
          obtain ⟨hk0, hkb⟩ := hc
          obtain ⟨el, i, y, hu, hi, rfl, rfl, hz, hzc⟩ := es_zero hes
          unfold makeOf at e
          split at e
          · rename_i az haz
            split at e
            · rename_i rs hrs
              simp only [Option.some.injEq, Prod.mk.injEq] at e
              obtain ⟨rfl, rfl⟩ := e
              have hazy : az = ofVal y := by
                unfold elemZero at haz
                rw [hu] at haz
                simp only [zv, hi, hz, Option.map_some, Option.some.injEq] at haz
                exact haz.symm
              subst hazy
              unfold makeRows at hrs
              split at hrs
              · rename_i cs hcs
                split at hrs
                · rename_i hcl
                  simp only [Option.some.injEq] at hrs
                  subst hrs
                  obtain ⟨hs, hp⟩ := cellsOf_pure (M := Mut μ h) (w := w) hcs (ofVal_rep y)
                  obtain ⟨j, rfl⟩ := Int.eq_ofNat_of_zero_le hk0
                  simp only [Int.toNat_natCast]
                  have hjb : j * (i.bytes + 1) ≤ roomMax := by exact_mod_cast hkb
                  have hj : j ≤ j * (i.bytes + 1) := Nat.le_mul_of_pos_right _ (by omega)
                  have hjB : j * i.bytes ≤ j * (i.bytes + 1) := Nat.mul_le_mul_left _ (by omega)
                  have hwrap : IntKind.i64.wrap (j : Int) = j := by
                    unfold roomMax at hjb
                    exact IntWalk.i64_in _ (by omega)
                  have hbj : ((i.bytes : Int) * (j : Int)) ≤ 35184372088832 := by
                    have : ((j * i.bytes : Nat) : Int) ≤ 35184372088832 := by unfold roomMax at hjb; omega
                    rw [Int.natCast_mul] at this
                    rw [Int.mul_comm]; exact this
                  let arr : Array Value := (Array.range (j * i.size)).map (y.cells[· % y.cells.size]!)
                  have hin : RowsIn (Mut μ h) w i.size (List.replicate j cs) arr := fun r row hrow => by
                    rw [List.getElem?_replicate] at hrow
                    split at hrow
                    · rename_i hr'
                      simp only [Option.some.injEq] at hrow
                      subst hrow
                      refine ⟨hcl, hs, fun c a' ha => ?_⟩
                      obtain ⟨v, h1, h2⟩ := hp.at c a' ha
                      refine ⟨v, ?_, h2⟩
                      have hcz : c < i.size := by rw [← hcl]; exact (List.getElem?_eq_some_iff.1 ha).1
                      have hlt : r * i.size + c < j * i.size := by
                        have : r * i.size + i.size ≤ j * i.size := by rw [← Nat.succ_mul]; exact Nat.mul_le_mul_right _ hr'
                        omega
                      have hmod : (r * i.size + c) % y.cells.size = c := by
                        rw [hzc, Nat.mul_comm, Nat.mul_add_mod]
                        exact Nat.mod_eq_of_lt hcz
                      have hyc : y.cells[c]? = some v := by simpa using h1
                      simp only [arr, Array.getElem?_map, Array.getElem?_range, hlt, if_true, Option.map_some, hmod]
                      congr 1
                      rw [getElem!_def, hyc]
                    · simp at hrow
                  have ex := Ext.push hr (.rows i.size (List.replicate j cs) true) (some (.cells arr el))
                  have hsz : arr.size = j * i.size := by simp [arr]
                  have hheap : (w.alloc (.cells arr el)).heap[w.heap.size]? = some (.cells arr el (0, 0)) := alloc_new _
                  refine ⟨.slice (some ⟨w.heap.size, 0, none⟩) j j, _, w.alloc (.cells arr el), ?_, Rel.push hr (.rows i.size (List.replicate j cs) true) (some (.cells arr el)) ?_, ex, ?_⟩
                  · have hti : ∀ w : World, (typeInfo el).run P w = .ok i w := fun w => by simp [typeInfo, hi]
                    have hso : ∀ w : World, (sizeOf el).run P w = .ok i.size w := fun w => by simp [sizeOf, typeInfo, hi]
                    have hzv : ∀ w : World, (zeroValue el).run P w = .ok y w := fun w => by simp [zeroValue, typeInfo, hi, hz]
                    have hcond : ¬ (((((j : Int) < 0 || decide ((i.bytes : Int) * (j : Int) > 2 ^ 48)) || decide ((j : Int) < 0)) || decide ((j : Int) > j)) = true) := by
                      simp
                      omega
                    by_cases hnz : j * i.size = 0
                    · have harr : arr = #[] := Array.eq_empty_of_size_eq_zero (by rw [hsz, hnz])
                      have hze : (Array.range 0 |>.map fun x => (#[] : Array Value)[x % (#[] : Array Value).size]!) = #[] := by simp
                      rw [harr]
                      simp only [Instr.makeSlice, Sem.run_bind, run_underlying hu, Result.andThen_ok, asInt, asIntOf, pure_bind, Sem.run_pure, hti, hwrap, Sem.run_ite, if_neg hcond, run_askRoom, Int.toNat_natCast, hso, hnz, if_true, newRow, run_newObj, hze]
                      rfl
                    · simp only [Instr.makeSlice, Sem.run_bind, run_underlying hu, Result.andThen_ok, asInt, asIntOf, pure_bind, Sem.run_pure, hti, hwrap, Sem.run_ite, if_neg hcond, run_askRoom, Int.toNat_natCast, hso, if_neg hnz, hzv, newRow, run_newObj]
                      rfl
                  · exact .inr ⟨w.heap.size, arr, el, set_same _ _, .free hheap, by simp [hsz], hin.keep ex.keep⟩
                  · exact ⟨i.size, List.replicate j cs, true, _, j, by simp, by simp, rfl, fun _ => ⟨Nat.le_refl _, fun h00 => h00, .inr ⟨w.heap.size, arr, el, rfl, set_same _ _, ⟨_, hheap⟩, by rw [hsz]; exact Nat.le_refl _⟩⟩⟩
                · simp at hrs
              · simp at hrs
            · simp at e
          · simp at e
        · simp at e
      · simp at e
    · simp at e
  · simp at e
theorem goes_made {s : Sem Value} {h' : Heap} (hs : (execOp a.eval o).run P w = (s.run P w).andThen fun v w' => .ok (.value v) w') (hm : Made P μ h w s x h') : Goes P o a μ h w x h' := by
  intro next Q hn
  obtain ⟨u, μ', w', h1, h2, h3, h4⟩ := hm
  unfold Oper.wp
  rw [hs, h1]
  exact hn u μ' w' h2 h3 h4
theorem appendTown_sound {wq : Bool} {at_ : Array TypeId} {t u ty e0 : TypeId} {z b l n : Nat} {ys : List (List AV)} {vx vy : Value} {h' : Heap} (h0 : at_[0]? = some t) (h1 : at_[1]? = some u) (hu' : SrcTy P u) (hes : es P t = some (z, b)) (hel : elT P t = some e0)
    (hr : Rel μ h w) (hx : TownRep μ h w e0 l n vx) (hy : Src2 P μ h w z ys vy) (e : appendTo wq h z b (.own l n) ys = some (x, h')) : ∃ m, x = .own l m ∧ Made P μ h w (Builtin.append_ at_ ty #[vx, vy]) (.town e0 l m) h' := by
  obtain ⟨el, i, y, hu, hi, rfl, rfl, hz, hzc⟩ := es_zero hes
  have hel : el = e0 := by simp only [elT, hu, Option.some.injEq] at hel; exact hel
  subst hel
  obtain ⟨fy, hlen', hl', hin', hf'⟩ := hy
  have hin2 : RowsIn (Mut μ h) (drewW w) i.size ys fy.toArray := hin'.keep (drew_ext (μ := μ) (h := h) (w := w)).keep
  simp only [appendTo] at e
  split at e
  · rename_i sz rs wr hlk
    split at e
    · rename_i hc0
      obtain ⟨hn, rfl, hroom⟩ := hc0
      simp only [Option.some.injEq, Prod.mk.injEq] at e
      obtain ⟨rfl, rfl⟩ := e
      refine ⟨_, rfl, ?_⟩
      obtain ⟨base, cap, fl, rfl, hcap, hl, hin, hf, hb⟩ := own_rows (P := P) hr hlk hn hx.own
      subst hn
      have hinr : RowsIn (Mut μ h) (drewW w) i.size rs fl.toArray := hin.keep (drew_ext (μ := μ) (h := h) (w := w)).keep
      by_cases hfit : rs.length + ys.length ≤ cap
      · rcases hb with ⟨rfl, rfl, rfl⟩ | ⟨b, vs, T, rfl, hm, ⟨fz, hw, hfz⟩, hcz, hfl⟩
        · have hy0 : ys = [] := List.length_eq_zero_iff.1 (by simp only [List.length_nil] at hfit; omega)
          subst hy0
          have hfy : fy = [] := List.length_eq_zero_iff.1 (by simpa using hl')
          subst hfy
          have hrun := append_fits_nil (P := P) (w := w) (ty := ty) h0 h1 hu hu' hi hlen' (hf' w rfl)
          rw [List.append_nil, list_set_same hlk]
          exact ⟨_, μ, w, hrun, hr, Ext.refl _ _ _, hx⟩
        · have hT : T = el := by
            obtain ⟨z2, rs2, wr2, base2, cap2, hlk2, _, he2, hv2⟩ := hx
            rw [hlk] at hlk2
            simp only [Option.some.injEq, Blk.rows.injEq] at hlk2
            obtain ⟨rfl, rfl, rfl⟩ := hlk2
            obtain ⟨_, _, hv3⟩ := hv2 rfl
            simp only [Value.slice.injEq, true_and] at he2
            obtain ⟨rfl, rfl⟩ := he2
            rcases hv3 with ⟨hx, _⟩ | ⟨b3, vs3, hb3, _, ⟨fz3, hw3⟩, _⟩
            · simp at hx
            · simp only [Option.some.injEq, Addr.mk.injEq, and_true] at hb3
              obtain rfl := hb3
              rw [hw] at hw3
              simp only [Option.some.injEq, Obj.cells.injEq] at hw3
              exact hw3.2.1
          subst hT
          have hrun := append_fits (P := P) (ty := ty) h0 h1 hu hu' hi hlen' hfit hw (by rcases hfz with rfl | hfz; exact Nat.zero_le _; exact hfz.2) hcz hl' (rowsIn_cells hl' hin') (hf' w rfl)
          have hle : rs.length * i.size + fy.length ≤ vs.size := by
            rw [hl', ← Nat.add_mul]
            exact Nat.le_trans (Nat.mul_le_mul_right _ hfit) hcz
          have hsize : (vs.toList.take (rs.length * i.size) ++ fy ++ vs.toList.drop (rs.length * i.size + fy.length)).toArray.size = vs.size := by
            simp; omega
          have ex : Ext μ h w μ (h.set l (.rows i.size (rs ++ ys) wr)) (w.setRow b (vs.toList.take (rs.length * i.size) ++ fy ++ vs.toList.drop (rs.length * i.size + fy.length)).toArray) :=
            Ext.update hr hlk hm hw (setRow_heap w b _ _ T _ hw) (fun b2 hb2 => setRow_other w b b2 _ hb2) rfl rfl rfl (by simp) hsize
              (fun o v hv hno => by
                have ho : o < rs.length * i.size := by
                  have : ¬ (i.size * rs.length ≤ o) := fun hle => hno (.inr hle)
                  rw [Nat.mul_comm]; omega
                simp only [List.getElem?_toArray]
                rw [list_get_splice _ _ _ _ (by simpa using hle), if_pos ho]
                simpa using hv)
              (fun o ho => by
                rcases ho with ho | ho
                · exact .inl ho
                · right
                  refine Nat.le_trans ?_ ho
                  exact Nat.mul_le_mul_left _ (by simp))
              ⟨rfl, by simp⟩
          refine ⟨_, μ, _, hrun, Rel.update hr hlk hm (fun b2 hb2 => setRow_other w b b2 _ hb2) ex ?_, ex, ?_⟩
          · refine .inr ⟨b, _, T, hm, ⟨fz, setRow_heap w b _ _ T _ hw, hfz.imp id fun hfz => ⟨hfz.1, Nat.le_trans hfz.2 (Nat.mul_le_mul_right _ (by simp))⟩⟩, by rw [hsize]; refine Nat.le_trans ?_ hcz; exact Nat.mul_le_mul_right _ (by simpa using hfit), ?_⟩
            have := RowsIn.append (rest := vs.toList.drop (rs.length * i.size + fy.length)) hl hin hin'
            rw [hfl] at this
            exact this.keep ex.keep
          · exact ⟨i.size, rs ++ ys, wr, _, cap, by rw [List.getElem?_set_self (List.getElem?_eq_some_iff.1 hlk).1], by simp, rfl, fun _ => ⟨hfit, fun h00 => by
              obtain ⟨z2, rs2, wr2, base2, cap2, hlk2, _, he2, hv2⟩ := hx
              rw [hlk] at hlk2
              simp only [Option.some.injEq, Blk.rows.injEq] at hlk2
              obtain ⟨rfl, rfl, rfl⟩ := hlk2
              simp only [Value.slice.injEq, true_and] at he2
              obtain ⟨_, rfl⟩ := he2
              exact (hv2 rfl).2.1 (by omega), .inr ⟨b, _, rfl, hm, ⟨_, setRow_heap w b _ _ T _ hw⟩, by rw [hsize]; exact hcz⟩⟩⟩
      · obtain ⟨c, hc, hrun⟩ := append_grow (P := P) (w := w) (ty := ty) h0 h1 hu hu' hi hz hlen' (by omega) hroom (hf _ rfl) (hf' _ rfl)
        exact made_movedT (c := c) (rest := Builtin.zeroCells y.cells (c - (rs.length + ys.length))) (T := el) hr hlk (by omega) hl hinr hl' hin2 hc (by rw [zeroCells_size, hzc]) hrun
    · simp at e
  · simp at e
theorem appendX_sound {wq : Bool} {at_ : Array TypeId} {t u ty : TypeId} {z b : Nat} {xs : AV} {ys : List (List AV)} {vx vy : Value} {h' : Heap} (h0 : at_[0]? = some t) (h1 : at_[1]? = some u) (hu' : SrcTy P u) (hes : es P t = some (z, b))
    (hr : Rel μ h w) (hx : Rep μ h w xs vx) (hy : Src2 P μ h w z ys vy) (e : appendX (elT P t) wq h z b ys xs = some (x, h')) : Made P μ h w (Builtin.append_ at_ ty #[vx, vy]) x h' := by
  unfold appendX at e
  split at e
  · rename_i t0 l n
    split at e
    · rename_i hel
      cases ha : appendTo wq h z b (.own l n) ys with
      | none => simp [ha, tyO] at e
      | some p =>
        obtain ⟨x0, h0'⟩ := p
        obtain ⟨m, rfl, hm⟩ := appendTown_sound (ty := ty) h0 h1 hu' hes hel hr hx hy ha
        simp only [ha, tyO, Option.some.injEq, Prod.mk.injEq] at e
        obtain ⟨rfl, rfl⟩ := e
        exact hm
    · simp at e
  · exact appendTo_sound (ty := ty) h0 h1 hu' hes hr hx hy e
theorem append_goes {c : Call} {ev : Operand → AV} {h' : Heap} (hr : Rel μ h w) (he : EvRep μ h w ev a.eval) (ho : o.op = .call c) (hc : c.callee = .builtin .append)
    (e : appendV P (firstConst c.args.toList) c.argTypes[0]? c.argTypes[1]? h (evs ev c.args.toList) = some (x, h')) : Goes P o a μ h w x h' := by
  have hargs := evs_rep he c.args.toList
  have hmap : c.args.map a.eval = (c.args.toList.map a.eval).toArray := by apply Array.ext'; simp
  unfold appendV at e
  split at e
  · rename_i xs ys hxy
    rw [hxy] at hargs
    obtain ⟨v, vr, hv, hx, v2, vr2, hv2, hy, hnil⟩ := hargs
    have hnil' : vr2 = [] := hnil
    subst hnil' hv2
    split at e
    · rename_i t u ht hu
      split at e
      · rename_i z0 b0 htk
        split at e
        · rename_i z b hes
          split at e
          · rename_i rs hrs
            split at e
            · rename_i hal
              have hu' : SrcTy P u := by
                unfold tk at htk
                split at htk
                · simp at htk
                · rename_i e' he'; exact .inl ⟨e', he'⟩
                · split at htk <;> simp at htk
                · simp at htk
              refine goes_made ?_ (appendX_sound (ty := o.type) ht hu hu' hes hr hx (rowsOf_src hr hrs hal hy).two e)
              rw [builtin_run ho hc]
              simp only [pure_bind, invoke, builtin, Sem.run_bind, hmap, hv]
              rfl
            · simp at e
          · simp at e
        · simp at e
      · rename_i htk
        split at e
        · rename_i z b hes
          unfold appendS at e
          split at e
          · rename_i s
            split at e
            · rename_i hz
              subst hz
              have hu' : SrcTy P u := by
                unfold tk at htk
                split at htk
                · rename_i he'; exact .inr he'
                · split at htk <;> simp at htk
                · split at htk <;> simp at htk
                · simp at htk
              have hy : v2 = .string ⟨s.toArray⟩ := hy
              subst hy
              refine goes_made ?_ (appendX_sound (ty := o.type) ht hu hu' hes hr hx src_str e)
              rw [builtin_run ho hc]
              simp only [pure_bind, invoke, builtin, Sem.run_bind, hmap, hv]
              rfl
            · simp at e
          · simp at e
        · simp at e
      · simp at e
    · simp at e
  · simp at e
theorem makeSlice_goes {t : TypeId} {n m : Operand} {ev : Operand → AV} {h' : Heap} (hr : Rel μ h w) (he : EvRep μ h w ev a.eval) (ho : o.op = .makeSlice t n m) (e : makeSliceV P t h (ev n) (ev m) = some (x, h')) : Goes P o a μ h w x h' := by
  refine goes_made ?_ (makeSlice_sound (P := P) (t := t) hr (he n) (he m) e)
  simp only [execOp, ho, Sem.run_bind]
  rfl
theorem box_goes {t : TypeId} {y : Operand} {ev : Operand → AV} {h' : Heap} (hr : Rel μ h w) (he : EvRep μ h w ev a.eval) (ho : o.op = .box t y) (e : Go.Ab.alloc h (some (ev y)) = some (x, h')) : Goes P o a μ h w x h' := by
  refine alloc_goes (t := t) hr e (he y) ?_
  simp only [execOp, ho, Instr.box, Sem.run_bind, newVar_run, Result.andThen_ok, Sem.run_pure]
theorem new_goes {t : TypeId} {h' : Heap} (hr : Rel μ h w) (ho : o.op = .alloc t) (e : Go.Ab.alloc h (zv P t) = some (x, h')) : Goes P o a μ h w x h' := by
  cases hz : zv P t with
  | none => simp [hz, Go.Ab.alloc] at e
  | some y =>
    rw [hz] at e
    obtain ⟨i, z, h1, h2, rfl, h4⟩ := zv_spec (w := w) hz
    refine alloc_goes (t := t) (v := z) hr e (Rep.pure _ _ (ofVal_rep z)) ?_
    simp only [execOp, ho, Instr.alloc, Sem.run_bind, h4, newVar_run, Result.andThen_ok, Sem.run_pure]
theorem tnew_goes {t : TypeId} {h' : Heap} (hr : Rel μ h w) (ho : o.op = .alloc t) (e : tyP t (Go.Ab.alloc h (zv P t)) = some (x, h')) : Goes P o a μ h w x h' := by
  cases hz : zv P t with
  | none => simp [hz, Go.Ab.alloc, tyP] at e
  | some y =>
    rw [hz] at e
    obtain ⟨i, z, h1, h2, rfl, h4⟩ := zv_spec (w := w) hz
    refine talloc_goes (t := t) (v := z) hr e (Rep.pure _ _ (ofVal_rep z)) ?_
    simp only [execOp, ho, Instr.alloc, Sem.run_bind, h4, newVar_run, Result.andThen_ok, Sem.run_pure]
theorem allocT_goes {b : Bool} {t : TypeId} {h' : Heap} (hr : Rel μ h w) (ho : o.op = .alloc t) (e : allocT b t (Go.Ab.alloc h (zv P t)) = some (x, h')) : Goes P o a μ h w x h' := by
  cases b with
  | true => exact tnew_goes hr ho e
  | false => exact new_goes hr ho e
end
section
variable {Bs : World → Prop}
variable {P : Program} {μ : Mp Bs} {h h' : Heap} {w : World} {a : Act} {o : Oper} {x : AV}
theorem keyOk_pure {kk : KK} {k : AV} {vk : Value} (hk : keyOk kk k = true) (r : Rep μ h w k vk) : PRep (Mut μ h) w k vk := by
  unfold keyOk at hk
  split at hk
  · exact r
  · exact r
  · simp at hk
theorem mapSet_goes {t : TypeId} {m k v : Operand} {ev : Operand → AV} (hr : Rel μ h w) (he : EvRep μ h w ev a.eval) (ho : o.op = .mapUpdate t m k v ∨ o.op = .insert t m k v) (e : mapSet P t h (ev m) (ev k) (ev v) = some h') : Goes P o a μ h w .any h' := by
  have hs : execOp a.eval o = (do Instr.mapUpdate t (a.eval m) (a.eval k) (a.eval v); pure .skip) := by
    rcases ho with ho | ho <;> simp only [execOp, ho]
  unfold mapSet at e
  split at e
  · rename_i l hx
    split at e
    · rename_i kk el es hkk hl
      split at e
      · rename_i hko
        split at e
        · rename_i v' r hv hf
          simp only [Option.some.injEq] at e
          subst e
          obtain ⟨kt, hu, hkt⟩ := kk_spec hkk
          have hm := he m
          rw [hx] at hm
          obtain ⟨es2, b, h1, h2, h2'⟩ := hm
          have hkr := keyOk_pure hko (he k)
          have hvr := purify_sound hr _ _ _ hv (he v)
          obtain ⟨b', ms, c, h3, h4, h5⟩ := hr.blk l _ hl
          have hbb : b' = b := by rw [h2] at h3; simpa using h3.symm
          subst hbb
          have hg : (getObj b').run P w = .ok (.map ms.toArray c) w := by simp [getObj, Sem.run, h4]
          obtain ⟨r', h6, h7⟩ := findKey_run hkt hkr h5 hf
          have hset : ∀ ob : Obj, (setObj b' ob).run P w = .ok () { w with heap := w.heap.setIfInBounds b' ob } := fun ob => MapKept.run_setObj_map ob h4
          have fin : ∀ (ms' : List MapEntry) (c' : Nat), EntRep (Mut μ h) w (mapPut es (ev k) v' r) ms' →
              (Instr.mapUpdate t (a.eval m) (a.eval k) (a.eval v)).run P w = .ok () { w with heap := w.heap.setIfInBounds b' (.map ms'.toArray c') } → Goes P o a μ h w .any (h.set l (.map (mapPut es (ev k) v' r))) := by
            intro ms' c' hE hrun
            have hrun' : (execOp a.eval o).run P w = .ok .skip { w with heap := w.heap.setIfInBounds b' (.map ms'.toArray c') } := by
              rw [hs]
              simp [hrun]
            have hlt : b' < w.heap.size := heap_lt h4
            have ex : Ext μ h w μ (h.set l (.map (mapPut es (ev k) v' r))) { w with heap := w.heap.setIfInBounds b' (.map ms'.toArray c') } := Ext.putMap hl h3 h4
            refine goes_skip hrun' (Rel.update hr hl h3 (fun b2 hb2 => ?_) ex ?_) ex
            · exact Array.getElem?_setIfInBounds_ne (fun e => hb2 e.symm)
            · exact ⟨b', ms', c', h3, by simp [hlt], hE.keep ex.keep⟩
          cases r with
          | none =>
            have : r' = none := h7
            subst this
            refine fin (ms ++ [{ key := a.eval k, val := a.eval v, born := c }]) (c + 1) (EntRep.append hkr hvr _ _ h5) ?_
            simp only [Instr.mapUpdate, h2', Sem.run_bind, run_underlying hu, Result.andThen_ok, checkKey_run hkt, hg, h6, hset]
            simp
          | some p =>
            obtain ⟨i, y⟩ := p
            obtain ⟨me, h8, rfl, _, h9⟩ := h7
            refine fin (ms.modify i fun e => { e with key := a.eval k, val := a.eval v }) c (EntRep.modify hkr hvr _ _ _ h5) ?_
            have h8' : ms.toArray[i]? = some me := by simpa using h8
            have hst : (Instr.keyThatStays me.key (a.eval k)).run P w = .ok (a.eval k) w := by rw [h9]; exact keyStays_run hko hkr
            simp only [Instr.mapUpdate, h2', Sem.run_bind, run_underlying hu, Result.andThen_ok, checkKey_run hkt, hg, h6, h8', Option.map_some, Option.getD_some, hst, hset]
            simp
        · simp at e
      · simp at e
    · simp at e
  · simp at e
theorem makeMap_goes {t : TypeId} (hr : Rel μ h w) (ho : o.op = .makeMap t none) : Goes P o a μ h w (.mp h.length) (h ++ [.map []]) := by
  intro next Q hn
  have hrun : (execOp a.eval o).run P w = .ok (.value (.map (some w.heap.size))) (w.alloc (.map #[] 0)) := by
    simp only [execOp, ho, Instr.makeMap]
    rfl
  unfold Oper.wp
  rw [hrun]
  have hp := Ext.push hr (.map []) (some (.map #[] 0))
  refine hn _ (μ.set h.length (some w.heap.size)) (w.alloc (.map #[] 0)) (Rel.push hr (.map []) (some (.map #[] 0)) ?_) hp ?_
  · exact ⟨w.heap.size, [], 0, set_same _ _, alloc_new _, rfl⟩
  · exact ⟨[], w.heap.size, by simp, set_same _ _, rfl⟩
theorem Ext.fillHole {l : Nat} (hr : Rel μ h w) (hl : h[l]? = some .hole) (k : Blk) (y : Obj) : Ext μ h w (μ.set l (some w.heap.size)) (h.set l k) (w.alloc y) where
  out := rfl
  still := rfl
  os := rfl
  tape := rfl
  output := rfl
  size := by simp
  len := by simp
  keep := fun b o v hc hm => by
    have hlt := cell_lt hc
    refine ⟨?_, ?_⟩
    · simp only [World.cell?] at hc ⊢; rw [alloc_old _ hlt]; exact hc
    · rintro (ho | ⟨l', k', hl', hm', ho⟩)
      · exact hm (.inl ho)
      · by_cases hll : l = l'
        · subst hll
          rw [set_same] at hm'
          simp at hm'
          omega
        · rw [set_other _ (fun e => hll e.symm)] at hm'
          rw [List.getElem?_set_ne hll] at hl'
          exact hm (.inr ⟨l', k', hl', hm', ho⟩)
  outside := fun b hb ho => by
    refine ⟨alloc_old _ hb, fun l' hl' => ?_⟩
    by_cases hll : l = l'
    · subst hll
      rw [set_same]
      simp; omega
    · rw [set_other _ (fun e => hll e.symm)]
      exact ho l' (by simpa using hl')
  cells := fun l' cs hl' => by
    have hll : l ≠ l' := fun e => by subst e; rw [hl] at hl'; simp at hl'
    exact ⟨⟨cs, by rw [List.getElem?_set_ne hll]; exact hl'⟩, set_other _ (fun e => hll e.symm)⟩
  rows := fun l' z rs wr hl' => by
    have hll : l ≠ l' := fun e => by subst e; rw [hl] at hl'; simp at hl'
    exact ⟨rs, wr, by rw [List.getElem?_set_ne hll]; exact hl', Nat.le_refl _, fun _ => set_other _ (fun e => hll e.symm)⟩
  maps := fun l' es hl' => by
    have hll : l ≠ l' := fun e => by subst e; rw [hl] at hl'; simp at hl'
    exact ⟨⟨es, by rw [List.getElem?_set_ne hll]; exact hl'⟩, set_other _ (fun e => hll e.symm)⟩
  sizes := fun b vs T hb => ⟨vs, hb.eq (alloc_old _ hb.lt), rfl⟩
theorem Rel.fillHole {l : Nat} {k : Blk} {y : Obj} (hr : Rel μ h w) (hl : h[l]? = some .hole) (hk : BlkRel (μ.set l (some w.heap.size)) (h.set l k) (w.alloc y) l k) : Rel (μ.set l (some w.heap.size)) (h.set l k) (w.alloc y) where
  inj := fun l1 l2 b hl1 hl2 hm1 hm2 => by
    simp only [List.length_set] at hl1 hl2
    by_cases h1 : l1 = l <;> by_cases h2 : l2 = l
    · omega
    · subst h1
      rw [set_same] at hm1
      rw [set_other _ h2] at hm2
      have := hr.mapped hl2 hm2
      simp at hm1
      omega
    · subst h2
      rw [set_same] at hm2
      rw [set_other _ h1] at hm1
      have := hr.mapped hl1 hm1
      simp at hm2
      omega
    · rw [set_other _ h1] at hm1
      rw [set_other _ h2] at hm2
      exact hr.inj l1 l2 b hl1 hl2 hm1 hm2
  blk := fun l' k' hl' => by
    have hll : l < h.length := (List.getElem?_eq_some_iff.1 hl).1
    have e := Ext.fillHole hr hl k y
    by_cases h1 : l = l'
    · subst h1
      rw [List.getElem?_set_self hll] at hl'
      simp only [Option.some.injEq] at hl'
      subst hl'
      exact hk
    · rw [List.getElem?_set_ne h1] at hl'
      have h1' : l' ≠ l := fun e => h1 e.symm
      have hsame : ∀ b, b < w.heap.size → (w.alloc y).heap[b]? = w.heap[b]? := fun b hb => alloc_old _ hb
      have := hr.blk l' k' hl'
      cases k' with
      | cells cs =>
        obtain ⟨b, vs, T, h3, h4, h5, h6⟩ := this
        exact ⟨b, vs, T, by rw [set_other _ h1']; exact h3, by rw [hsame b (heap_lt h4)]; exact h4, h5, RepL.ext e cs vs h6⟩
      | rows z rs wr =>
        rcases this with ⟨h3, h4⟩ | ⟨b, vs, T, h3, h4, h5, h6⟩
        · exact .inl ⟨h3, by rw [set_other _ h1']; exact h4⟩
        · exact .inr ⟨b, vs, T, by rw [set_other _ h1']; exact h3, h4.eq (hsame b h4.lt), h5, h6.keep e.keep⟩
      | hole =>
        show (μ.set l (some w.heap.size)) l' = none
        rw [set_other _ h1']; exact this
      | map es =>
        obtain ⟨b, ms, c, h3, h4, h5⟩ := this
        exact ⟨b, ms, c, by rw [set_other _ h1']; exact h3, by rw [hsame b (heap_lt h4)]; exact h4, h5.keep e.keep⟩
  apart := fun l' b o hl' hm ho => by
    by_cases h1 : l' = l
    · subst h1
      rw [set_same] at hm
      have := hr.old b o ho
      simp at hm; omega
    · rw [set_other _ h1] at hm
      exact hr.apart l' b o (by simpa using hl') hm ho
  old := fun b o ho => Nat.lt_of_lt_of_le (hr.old b o ho) (Ext.fillHole hr hl k y).size
  still := (hr.carry (Ext.fillHole hr hl k y)).1
  base := (hr.carry (Ext.fillHole hr hl k y)).2
theorem fill_goes {t : TypeId} {l : Nat} {v : Value} {y : AV} (hr : Rel μ h w) (e : fill h l (some y) = some (x, h')) (hy : Rep μ h w y v)
    (hrun : (execOp a.eval o).run P w = .ok (.value (.pointer (some ⟨w.heap.size, 0, none⟩))) (w.alloc (.cells v.cells t))) : Goes P o a μ h w x h' := by
  simp only [fill] at e
  split at e
  · rename_i cs hcs hl
    simp only [Option.some.injEq, Prod.mk.injEq] at e
    obtain ⟨rfl, rfl⟩ := e
    obtain ⟨hs, hlr⟩ := cellsOf_sound hcs hy
    intro next Q hn
    unfold Oper.wp
    rw [hrun]
    have hll : l < h.length := (List.getElem?_eq_some_iff.1 hl).1
    have hp := Ext.fillHole hr hl (.cells cs) (.cells v.cells t)
    refine hn _ (μ.set l (some w.heap.size)) (w.alloc (.cells v.cells t)) (Rel.fillHole hr hl ?_) hp ?_
    · exact ⟨w.heap.size, v.cells.toList, t, set_same _ _, by rw [Array.toArray_toList]; exact alloc_new _, hs, RepL.ext hp cs _ hlr⟩
    · exact ⟨cs, w.heap.size, by simp [hll], set_same _ _, rfl⟩
  · simp at e
theorem stepA_goes {C : Cfg} {l : Nat} {ev : Operand → AV} (hr : Rel μ h w) (he : EvRep μ h w ev a.eval) (e : stepA C ev h l o.op = some (x, h')) : Goes C.P o a μ h w x h' := by
  unfold stepA at e
  split at e
  · rename_i t ho
    cases hz : zv C.P t with
    | none => rw [hz] at e; simp [fill] at e
    | some y =>
      rw [hz] at e
      obtain ⟨i, z, _, _, h3, h4⟩ := zv_spec (w := w) hz
      refine fill_goes (t := t) (v := z) hr e (by rw [h3]; exact Rep.pure _ _ (ofVal_rep z)) ?_
      simp only [execOp, ho, Instr.alloc, Sem.run_bind, h4, newVar_run, Result.andThen_ok, Sem.run_pure]
  · rename_i t y ho
    refine fill_goes (t := t) (v := a.eval y) hr e (he y) ?_
    simp only [execOp, ho, Instr.box, Sem.run_bind, newVar_run, Result.andThen_ok, Sem.run_pure]
  · simp at e
end
section
variable {Bs : World → Prop}
variable {μ μ' : Mp Bs} {h h' : Heap} {w : World} {σ : Nat → Nat}
def KeepsAt (μ : Mp Bs) (h : Heap) (μ' : Mp Bs) (h' : Heap) (σ : Nat → Nat) (l : Nat) : Prop :=
  ∀ k, h[l]? = some k → h'[σ l]? = some (renB σ k) ∧ μ' (σ l) = μ l
theorem OwnRep.ren {l n : Nat} {v : Value} (hk : KeepsAt μ h μ' h' σ l) (r : OwnRep μ h w l n v) : OwnRep μ' h' w (σ l) n v := by
  obtain ⟨z, rs, wr, base, cap, hl, hn, hs, hv⟩ := r
  obtain ⟨h1, h2⟩ := hk _ hl
  refine ⟨z, rs, wr, base, cap, h1, hn, hs, fun e => ?_⟩
  obtain ⟨h3, h4, h5⟩ := hv e
  refine ⟨h3, h4, ?_⟩
  rcases h5 with h5 | ⟨b, vs, T, hb, hm, hw, hz⟩
  · exact .inl h5
  · exact .inr ⟨b, vs, T, hb, h2.trans hm, hw, hz⟩
theorem TownRep.ren {t l n : Nat} {v : Value} (hk : KeepsAt μ h μ' h' σ l) (r : TownRep μ h w t l n v) : TownRep μ' h' w t (σ l) n v := by
  obtain ⟨z, rs, wr, base, cap, hl, hn, hs, hv⟩ := r
  obtain ⟨h1, h2⟩ := hk _ hl
  refine ⟨z, rs, wr, base, cap, h1, hn, hs, fun e => ?_⟩
  obtain ⟨h3, h4, h5⟩ := hv e
  refine ⟨h3, h4, ?_⟩
  rcases h5 with h5 | ⟨b, vs, hb, hm, hw, hz⟩
  · exact .inl h5
  · exact .inr ⟨b, vs, hb, h2.trans hm, hw, hz⟩
theorem TptrRep.ren {t l o : Nat} {v : Value} (hk : KeepsAt μ h μ' h' σ l) (r : TptrRep μ h w t l o v) : TptrRep μ' h' w t (σ l) o v := by
  obtain ⟨cs, b, hl, hm, hv⟩ := r
  obtain ⟨h1, h2⟩ := hk _ hl
  exact ⟨renL σ cs, b, h1, h2.trans hm, hv⟩
theorem OptrRep.ren {l n i o : Nat} {v : Value} (hk : KeepsAt μ h μ' h' σ l) (r : OptrRep μ h l n i o v) : OptrRep μ' h' (σ l) n i o v := by
  obtain ⟨z, rs, wr, b, hl, hn, hs, hv⟩ := r
  obtain ⟨h1, h2⟩ := hk _ hl
  exact ⟨z, rs, wr, b, h1, hn, hs, fun e => h2.trans (hv e)⟩
theorem MpRep.ren {l : Nat} {v : Value} (hk : KeepsAt μ h μ' h' σ l) (r : MpRep μ h l v) : MpRep μ' h' (σ l) v := by
  obtain ⟨es, b, hl, hm, hv⟩ := r
  obtain ⟨h1, h2⟩ := hk _ hl
  exact ⟨es, b, h1, h2.trans hm, hv⟩
theorem PtrRep.ren {l o : Nat} {v : Value} (hk : KeepsAt μ h μ' h' σ l) (r : PtrRep μ h l o v) : PtrRep μ' h' (σ l) o v := by
  obtain ⟨cs, b, hl, hm, hv⟩ := r
  obtain ⟨h1, h2⟩ := hk _ hl
  exact ⟨renL σ cs, b, h1, h2.trans hm, hv⟩
mutual
theorem Rep.ren (hM : ∀ b o, Mut μ' h' b o → Mut μ h b o) : ∀ (a : AV) (v : Value), (∀ l, l ∈ locs a → KeepsAt μ h μ' h' σ l) → Rep μ h w a v → Rep μ' h' w (Go.Ab.ren σ a) v
  | .agg cs, _, hk, r => by
    obtain ⟨vs, hv, r⟩ := r
    exact ⟨vs, hv, RepL.ren hM cs vs hk r⟩
  | .tup cs, _, hk, r => by
    obtain ⟨vs, hv, r⟩ := r
    exact ⟨vs, hv, RepL.ren hM cs vs hk r⟩
  | .fn _ cs, _, hk, r => by
    obtain ⟨vs, hv, r⟩ := r
    exact ⟨vs, hv, RepL.ren hM cs vs hk r⟩
  | .iface _ a, _, hk, r => by
    obtain ⟨x, hv, r⟩ := r
    exact ⟨x, hv, Rep.ren hM a x hk r⟩
  | .ptr l _, _, hk, r => PtrRep.ren (hk l (by simp [locs])) r
  | .own l _, _, hk, r => OwnRep.ren (hk l (by simp [locs])) r
  | .optr l _ _ _, _, hk, r => OptrRep.ren (hk l (by simp [locs])) r
  | .mp l, _, hk, r => MpRep.ren (hk l (by simp [locs])) r
  | .tptr _ l _, _, hk, r => TptrRep.ren (hk l (by simp [locs])) r
  | .town _ l _, _, hk, r => TownRep.ren (hk l (by simp [locs])) r
  | .int _ _, _, _, r => r
  | .bool _, _, _, r => r
  | .str _, _, _, r => r
  | .nilp, _, _, r => r
  | .nilf, _, _, r => r
  | .nili, _, _, r => r
  | .nilm, _, _, r => r
  | .nils, _, _, r => r
  | .rows rs, v, _, r => PRep.keep (fun b o v hc hm => ⟨hc, fun hx => hm (hM b o hx)⟩) (.rows rs) v r
  | .lit rs, v, _, r => PRep.keep (fun b o v hc hm => ⟨hc, fun hx => hm (hM b o hx)⟩) (.lit rs) v r
  | .rptr row o, v, _, r => PRep.keep (fun b o v hc hm => ⟨hc, fun hx => hm (hM b o hx)⟩) (.rptr row o) v r
  | .any, _, _, r => r
theorem RepL.ren (hM : ∀ b o, Mut μ' h' b o → Mut μ h b o) : ∀ (l : List AV) (vs : List Value), (∀ i, i ∈ locsL l → KeepsAt μ h μ' h' σ i) → RepL μ h w l vs → RepL μ' h' w (renL σ l) vs
  | [], _, _, r => r
  | a :: r, _, hk, x => by
    obtain ⟨v, vr, hv, h1, h2⟩ := x
    exact ⟨v, vr, hv, Rep.ren hM a v (fun l hl => hk l (by simp [locsL, hl])) h1, RepL.ren hM r vr (fun l hl => hk l (by simp [locsL, hl])) h2⟩
end
mutual
/-- Places of a value are places of the memory. -/
theorem Rep.locs_lt : ∀ (a : AV) (v : Value), Rep μ h w a v → ∀ l, l ∈ locs a → l < h.length
  | .agg cs, _, r, l, hl => by
    obtain ⟨vs, hv, r⟩ := r
    exact RepL.locs_lt cs vs r l hl
  | .tup cs, _, r, l, hl => by
    obtain ⟨vs, hv, r⟩ := r
    exact RepL.locs_lt cs vs r l hl
  | .fn _ cs, _, r, l, hl => by
    obtain ⟨vs, hv, r⟩ := r
    exact RepL.locs_lt cs vs r l hl
  | .iface _ a, _, r, l, hl => by
    obtain ⟨x, hv, r⟩ := r
    exact Rep.locs_lt a x r l hl
  | .ptr _ _, _, r, l, hl => by
    obtain ⟨cs, b, h1, _⟩ := r
    simp only [locs, List.mem_singleton] at hl
    subst hl
    exact (List.getElem?_eq_some_iff.1 h1).1
  | .own _ _, _, r, l, hl => by
    obtain ⟨_, _, _, _, _, h1, _⟩ := r
    simp only [locs, List.mem_singleton] at hl
    subst hl
    exact (List.getElem?_eq_some_iff.1 h1).1
  | .optr _ _ _ _, _, r, l, hl => by
    obtain ⟨_, _, _, _, h1, _⟩ := r
    simp only [locs, List.mem_singleton] at hl
    subst hl
    exact (List.getElem?_eq_some_iff.1 h1).1
  | .mp _, _, r, l, hl => by
    obtain ⟨_, _, h1, _⟩ := r
    simp only [locs, List.mem_singleton] at hl
    subst hl
    exact (List.getElem?_eq_some_iff.1 h1).1
  | .tptr _ _ _, _, r, l, hl => by
    obtain ⟨_, _, h1, _⟩ := r
    simp only [locs, List.mem_singleton] at hl
    subst hl
    exact (List.getElem?_eq_some_iff.1 h1).1
  | .town _ _ _, _, r, l, hl => by
    obtain ⟨_, _, _, _, _, h1, _⟩ := r
    simp only [locs, List.mem_singleton] at hl
    subst hl
    exact (List.getElem?_eq_some_iff.1 h1).1
  | .int _ _, _, _, _, hl => by simp [locs] at hl
  | .bool _, _, _, _, hl => by simp [locs] at hl
  | .str _, _, _, _, hl => by simp [locs] at hl
  | .nilp, _, _, _, hl => by simp [locs] at hl
  | .nilf, _, _, _, hl => by simp [locs] at hl
  | .nili, _, _, _, hl => by simp [locs] at hl
  | .nilm, _, _, _, hl => by simp [locs] at hl
  | .nils, _, _, _, hl => by simp [locs] at hl
  | .rows _, _, _, _, hl => by simp [locs] at hl
  | .lit _, _, _, _, hl => by simp [locs] at hl
  | .rptr _ _, _, _, _, hl => by simp [locs] at hl
  | .any, _, _, _, hl => by simp [locs] at hl
theorem RepL.locs_lt : ∀ (c : List AV) (vs : List Value), RepL μ h w c vs → ∀ l, l ∈ locsL c → l < h.length
  | [], _, _, _, hl => by simp [locsL] at hl
  | a :: r, _, x, l, hl => by
    obtain ⟨v, vr, hv, h1, h2⟩ := x
    simp only [locsL, List.mem_append] at hl
    rcases hl with hl | hl
    · exact Rep.locs_lt a v h1 l hl
    · exact RepL.locs_lt r vr h2 l hl
end
theorem posOf_lt : ∀ (ls : List Nat) (l : Nat), posOf ls l < ls.length ↔ l ∈ ls
  | [], l => by simp [posOf]
  | x :: r, l => by
    by_cases hx : x = l
    · simp [posOf, hx]
    · have := posOf_lt r l
      simp only [posOf, if_neg hx, List.length_cons, List.mem_cons]
      constructor
      · intro h; exact .inr (this.1 (by omega))
      · rintro (h | h)
        · exact absurd h.symm hx
        · have := this.2 h; omega
theorem posOf_at : ∀ (ls : List Nat) (l : Nat), l ∈ ls → ls[posOf ls l]? = some l
  | [], l, h => by simp at h
  | x :: r, l, h => by
    by_cases hx : x = l
    · simp [posOf, hx]
    · simp only [posOf, if_neg hx, List.getElem?_cons_succ]
      refine posOf_at r l ?_
      rcases List.mem_cons.1 h with h | h
      · exact absurd h.symm hx
      · exact h
theorem posOf_nth : ∀ (ls : List Nat) (i l : Nat), ls.Nodup → ls[i]? = some l → posOf ls l = i
  | [], i, l, _, h => by simp at h
  | x :: r, 0, l, _, h => by
    simp only [List.getElem?_cons_zero, Option.some.injEq] at h
    simp [posOf, h]
  | x :: r, i + 1, l, hn, h => by
    simp only [List.getElem?_cons_succ] at h
    have hne : x ≠ l := fun e => by
      subst e
      exact (List.nodup_cons.1 hn).1 (List.mem_of_getElem? h)
    simp only [posOf, if_neg hne]
    rw [posOf_nth r i l (List.nodup_cons.1 hn).2 h]
theorem reach_nodup (h : Heap) : ∀ (n : Nat) (l s : List Nat), s.Nodup → (reach h n l s).Nodup
  | 0, l, s, hs => by simpa [reach] using hs
  | n + 1, [], s, hs => by simpa [reach] using hs
  | n + 1, l :: r, s, hs => by
    simp only [reach]
    split
    · exact reach_nodup h n r s hs
    · rename_i hc
      have hl : l ∉ s := by simpa using hc
      have : (s ++ [l]).Nodup := by
        rw [List.nodup_append]
        refine ⟨hs, by simp, fun a ha b hb => ?_⟩
        simp only [List.mem_singleton] at hb
        subst hb
        exact fun e => hl (e ▸ ha)
      split
      · exact reach_nodup h n _ _ this
      · exact reach_nodup h n _ _ this
theorem sub_at (h : Heap) (σ : Nat → Nat) : ∀ (ls : List Nat) (hs : Heap), sub h σ ls = some hs → hs.length = ls.length ∧ ∀ (i l : Nat), ls[i]? = some l → ∃ b : Blk, h[l]? = some b ∧ hs[i]? = some (renB σ b)
  | [], hs, e => by
    simp only [sub, Option.some.injEq] at e
    subst e
    exact ⟨rfl, fun i l hl => by simp at hl⟩
  | x :: r, hs, e => by
    simp only [sub] at e
    split at e
    · rename_i b hb
      split at e
      · rename_i hs' he
        simp only [Option.some.injEq] at e
        subst e
        obtain ⟨h1, h2⟩ := sub_at h σ r hs' he
        refine ⟨by simp [h1], fun i l hl => ?_⟩
        cases i with
        | zero =>
          simp only [List.getElem?_cons_zero, Option.some.injEq] at hl
          subst hl
          exact ⟨b, hb, by simp⟩
        | succ i =>
          simp only [List.getElem?_cons_succ] at hl ⊢
          exact h2 i l hl
      · simp at e
    · simp at e
theorem under_mem {n : Nat} : ∀ {l : List Nat}, under n l = true → ∀ i, i ∈ l → i < n
  | [], _, i, hi => by simp at hi
  | x :: r, e, i, hi => by
    simp only [under, Bool.and_eq_true, decide_eq_true_eq] at e
    rcases List.mem_cons.1 hi with rfl | hi
    · exact e.1
    · exact under_mem e.2 i hi
theorem locsH_at : ∀ {h : Heap} {i : Nat} {b : Blk}, h[i]? = some b → ∀ l, l ∈ locsB b → l ∈ locsH h
  | [], _, _, e, _, _ => by simp at e
  | x :: r, 0, b, e, l, hl => by
    simp only [List.getElem?_cons_zero, Option.some.injEq] at e
    subst e
    simp [locsH, hl]
  | x :: r, i + 1, b, e, l, hl => by
    simp only [List.getElem?_cons_succ] at e
    have := locsH_at e l hl
    simp [locsH, this]
mutual
theorem locs_ren (σ : Nat → Nat) : ∀ a : AV, locs (ren σ a) = (locs a).map σ
  | .agg cs => by simp only [ren, locs]; exact locsL_ren σ cs
  | .tup cs => by simp only [ren, locs]; exact locsL_ren σ cs
  | .fn _ cs => by simp only [ren, locs]; exact locsL_ren σ cs
  | .iface _ a => by simp only [ren, locs]; exact locs_ren σ a
  | .ptr _ _ => by simp [ren, locs]
  | .own _ _ => by simp [ren, locs]
  | .optr _ _ _ _ => by simp [ren, locs]
  | .mp _ => rfl
  | .tptr _ _ _ => by simp [ren, locs]
  | .town _ _ _ => by simp [ren, locs]
  | .int _ _ => by simp [ren, locs]
  | .bool _ => by simp [ren, locs]
  | .str _ => by simp [ren, locs]
  | .nilp => by simp [ren, locs]
  | .nilf => by simp [ren, locs]
  | .nili => by simp [ren, locs]
  | .nilm => by simp [ren, locs]
  | .nils => by simp [ren, locs]
  | .rows _ => by simp [ren, locs]
  | .lit _ => by simp [ren, locs]
  | .rptr _ _ => by simp [ren, locs]
  | .any => by simp [ren, locs]
theorem locsL_ren (σ : Nat → Nat) : ∀ l : List AV, locsL (renL σ l) = (locsL l).map σ
  | [] => by simp [renL, locsL]
  | a :: r => by simp only [renL, locsL, List.map_append, locs_ren σ a, locsL_ren σ r]
end
theorem singles_ren (σ : Nat → Nat) : ∀ l : List AV, singles (renL σ l) = singles l
  | [] => rfl
  | a :: r => by
    have := singles_ren σ r
    cases a <;> simp [renL, ren, singles, single, this]
end
section
variable {Bs : World → Prop}
def partMp (μ : Mp Bs) (h : Heap) (ls : List Nat) : Mp Bs :=
  ⟨fun i => match ls[i]? with
    | some l => μ l
    | none => none, fun b o => μ.out b o ∨ ∃ (l : Nat) (k : Blk), l ∉ ls ∧ h[l]? = some k ∧ μ l = some b ∧ k.open_ o, μ.still⟩
structure IsPart (h : Heap) (ls : List Nat) (hs : Heap) : Prop where
  nodup : ls.Nodup
  len : hs.length = ls.length
  there : ∀ (i l : Nat), ls[i]? = some l → ∃ b : Blk, h[l]? = some b ∧ hs[i]? = some (renB (posOf ls) b)
  closed : ∀ l, l ∈ locsH hs → l < ls.length
structure Joins (h : Heap) (ls : List Nat) (h2 h3 : Heap) : Prop where
  le : ls.length ≤ h2.length
  len : h3.length = h.length + (h2.length - ls.length)
  old : ∀ l, l < h.length → l ∉ ls → h3[l]? = h[l]?
  new : ∀ (i : Nat) (b : Blk), h2[i]? = some b → h3[outer ls h.length i]? = some (renB (outer ls h.length) b)
def joinMp (μ : Mp Bs) (h : Heap) (ls : List Nat) (μ2 : Mp Bs) : Mp Bs :=
  ⟨fun l => if l < h.length then (if l ∈ ls then μ2 (posOf ls l) else μ l) else μ2 (l - h.length + ls.length), μ.out, μ.still⟩
theorem open_ren (σ : Nat → Nat) (k : Blk) (o : Nat) : (renB σ k).open_ o ↔ k.open_ o := by cases k <;> exact Iff.rfl
end
section
variable {Bs : World → Prop}
variable {P : Program} {μ μ2 : Mp Bs} {h hs h2 h3 : Heap} {w w' : World} {ls : List Nat}
theorem IsPart.lt (hp : IsPart h ls hs) {l : Nat} (hl : l ∈ ls) : l < h.length := by
  obtain ⟨b, h1, _⟩ := hp.there _ l (posOf_at ls l hl)
  exact (List.getElem?_eq_some_iff.1 h1).1
theorem part_at {i l : Nat} (e : ls[i]? = some l) : (partMp μ h ls) i = μ l := by simp only [partMp, e]
theorem IsPart.nth (hp : IsPart h ls hs) {i : Nat} (hi : i < hs.length) : ∃ l, ls[i]? = some l ∧ l ∈ ls := by
  rw [hp.len] at hi
  exact ⟨ls[i], List.getElem?_eq_getElem hi, List.getElem_mem hi⟩
theorem IsPart.keeps (hp : IsPart h ls hs) {l : Nat} (hl : l ∈ ls) : KeepsAt μ h (partMp μ h ls) hs (posOf ls) l := fun k hk => by
  have hat := posOf_at ls l hl
  obtain ⟨b, h1, h2⟩ := hp.there _ l hat
  rw [hk] at h1
  simp only [Option.some.injEq] at h1
  subst h1
  exact ⟨h2, part_at hat⟩
theorem IsPart.mut (hp : IsPart h ls hs) {b o : Nat} : Mut (partMp μ h ls) hs b o ↔ Mut μ h b o := by
  constructor
  · rintro ((ho | ⟨l, k, _, hl, hm, ho⟩) | ⟨i, k, hi, hm, ho⟩)
    · exact .inl ho
    · exact .inr ⟨l, k, hl, hm, ho⟩
    · obtain ⟨l, e, _⟩ := hp.nth (List.getElem?_eq_some_iff.1 hi).1
      obtain ⟨b', h1, h2⟩ := hp.there i l e
      rw [hi] at h2
      simp only [Option.some.injEq] at h2
      subst h2
      rw [part_at e] at hm
      exact .inr ⟨l, b', h1, hm, (open_ren _ _ _).1 ho⟩
  · rintro (ho | ⟨l, k, hl, hm, ho⟩)
    · exact .inl (.inl ho)
    · by_cases hin : l ∈ ls
      · have hat := posOf_at ls l hin
        obtain ⟨b', h1, h2⟩ := hp.there _ l hat
        rw [hl] at h1
        simp only [Option.some.injEq] at h1
        subst h1
        exact .inr ⟨_, _, h2, by rw [part_at hat]; exact hm, (open_ren _ _ _).2 ho⟩
      · exact .inl (.inr ⟨l, k, hin, hl, hm, ho⟩)
theorem IsPart.rep (hp : IsPart h ls hs) {l : List AV} {vs : List Value} (hu : ∀ i, i ∈ locsL l → i ∈ ls) (r : RepL μ h w l vs) : RepL (partMp μ h ls) hs w (renL (posOf ls) l) vs :=
  RepL.ren (fun _ _ hx => hp.mut.1 hx) l vs (fun i hi => hp.keeps (hu i hi)) r
theorem IsPart.rel (hp : IsPart h ls hs) (hr : Rel μ h w) : Rel (partMp μ h ls) hs w where
  inj := fun i j b hi hj hm hm' => by
    obtain ⟨l, e, hl⟩ := hp.nth hi
    obtain ⟨l', e', hl'⟩ := hp.nth hj
    rw [part_at e] at hm
    rw [part_at e'] at hm'
    have : l = l' := hr.inj l l' b (hp.lt hl) (hp.lt hl') hm hm'
    subst this
    rw [← posOf_nth ls i l hp.nodup e, ← posOf_nth ls j l hp.nodup e']
  blk := fun i k hi => by
    obtain ⟨l, e, hl⟩ := hp.nth (List.getElem?_eq_some_iff.1 hi).1
    obtain ⟨b', h1, h2⟩ := hp.there i l e
    rw [hi] at h2
    simp only [Option.some.injEq] at h2
    subst h2
    have := hr.blk l b' h1
    cases b' with
    | cells cs =>
      obtain ⟨b, vs, T, h3, h4, h5, h6⟩ := this
      refine ⟨b, vs, T, by rw [part_at e]; exact h3, h4, by rw [singles_ren]; exact h5, hp.rep (fun j hj => ?_) h6⟩
      refine (posOf_lt ls j).1 (hp.closed _ (locsH_at hi _ ?_))
      show _ ∈ locsL (renL _ cs)
      rw [locsL_ren]
      exact List.mem_map_of_mem hj
    | rows z rs wr =>
      rcases this with ⟨h3, h4⟩ | ⟨b, vs, T, h3, h4, h5, h6⟩
      · exact .inl ⟨h3, by rw [part_at e]; exact h4⟩
      · exact .inr ⟨b, vs, T, by rw [part_at e]; exact h3, h4, h5, h6.keep fun b o v hc hm => ⟨hc, fun hx => hm (hp.mut.1 hx)⟩⟩
    | hole =>
      show (partMp μ h ls) i = none
      rw [part_at e]; exact this
    | map es =>
      obtain ⟨b, ms, c, h3, h4, h5⟩ := this
      exact ⟨b, ms, c, by rw [part_at e]; exact h3, h4, h5.keep fun b o v hc hm => ⟨hc, fun hx => hm (hp.mut.1 hx)⟩⟩
  apart := fun i b o hi hm ho => by
    obtain ⟨l, e, hl⟩ := hp.nth hi
    rw [part_at e] at hm
    rcases ho with ho | ⟨l', k, hn, hl', hm', _⟩
    · exact hr.apart l b o (hp.lt hl) hm ho
    · have : l' = l := hr.inj l' l b (List.getElem?_eq_some_iff.1 hl').1 (hp.lt hl) hm' hm
      subst this
      exact hn hl
  still := fun b hb => ⟨(hr.still b hb).1, fun i hi hx => by
    obtain ⟨l, e, hl⟩ := hp.nth hi
    rw [part_at e] at hx
    exact (hr.still b hb).2 l (hp.lt hl) hx⟩
  base := hr.base
  old := fun b o ho => by
    rcases ho with ho | ⟨l, k, _, hl, hm, _⟩
    · exact hr.old b o ho
    · exact hr.mapped (List.getElem?_eq_some_iff.1 hl).1 hm
theorem outer_in {i l m : Nat} (e : ls[i]? = some l) : outer ls m i = l := by simp only [outer, e]
theorem outer_out {i m : Nat} (e : ls.length ≤ i) : outer ls m i = m + (i - ls.length) := by
  simp only [outer, List.getElem?_eq_none e]
theorem join_outer (hp : IsPart h ls hs) (i : Nat) : (joinMp μ h ls μ2) (outer ls h.length i) = μ2 i := by
  by_cases hi : i < ls.length
  · obtain ⟨l, e, hl⟩ := hp.nth (by rw [hp.len]; exact hi)
    rw [outer_in e]
    simp only [joinMp, hp.lt hl, if_true, hl]
    rw [posOf_nth ls i l hp.nodup e]
  · rw [outer_out (Nat.le_of_not_lt hi)]
    have h1 : ¬ (h.length + (i - ls.length) < h.length) := by omega
    simp only [joinMp, h1, if_false]
    congr 1
    omega
theorem join_other {l : Nat} (h1 : l < h.length) (h2 : l ∉ ls) : (joinMp μ h ls μ2) l = μ l := by simp only [joinMp, h1, if_true, h2, if_false]
theorem Joins.cover (hj : Joins h ls h2 h3) {l : Nat} (hl : l < h3.length) : (l < h.length ∧ l ∉ ls) ∨ ∃ i, i < h2.length ∧ l = outer ls h.length i := by
  by_cases h1 : l < h.length
  · by_cases h4 : l ∈ ls
    · exact .inr ⟨posOf ls l, Nat.lt_of_lt_of_le ((posOf_lt ls l).2 h4) hj.le, (outer_in (posOf_at ls l h4)).symm⟩
    · exact .inl ⟨h1, h4⟩
  · refine .inr ⟨l - h.length + ls.length, ?_, ?_⟩
    · have := hj.len
      have := hj.le
      omega
    · rw [outer_out (by omega)]
      omega
theorem Joins.at_outer (hj : Joins h ls h2 h3) {i : Nat} {k : Blk} (hi : i < h2.length) (e : h3[outer ls h.length i]? = some k) : ∃ b, h2[i]? = some b ∧ k = renB (outer ls h.length) b := by
  have := hj.new i h2[i] (List.getElem?_eq_getElem hi)
  rw [this] at e
  simp only [Option.some.injEq] at e
  exact ⟨h2[i], List.getElem?_eq_getElem hi, e.symm⟩
theorem Joins.mut (hp : IsPart h ls hs) (hj : Joins h ls h2 h3) (ho : μ2.out = (partMp μ h ls).out) {b o : Nat} : Mut (joinMp μ h ls μ2) h3 b o ↔ Mut μ2 h2 b o := by
  constructor
  · rintro (hx | ⟨l, k, hl, hm, hx⟩)
    · exact .inl (by rw [ho]; exact .inl hx)
    · rcases hj.cover (List.getElem?_eq_some_iff.1 hl).1 with ⟨h1, h4⟩ | ⟨i, hi, rfl⟩
      · rw [hj.old l h1 h4] at hl
        rw [join_other h1 h4] at hm
        exact .inl (by rw [ho]; exact .inr ⟨l, k, h4, hl, hm, hx⟩)
      · obtain ⟨b', h5, rfl⟩ := hj.at_outer hi hl
        rw [join_outer hp] at hm
        exact .inr ⟨i, b', h5, hm, (open_ren _ _ _).1 hx⟩
  · rintro (hx | ⟨i, k, hi, hm, hx⟩)
    · rw [ho] at hx
      rcases hx with hx | ⟨l, k, hn, hl, hm, hx⟩
      · exact .inl hx
      · have hlt := (List.getElem?_eq_some_iff.1 hl).1
        exact .inr ⟨l, k, by rw [hj.old l hlt hn]; exact hl, by rw [join_other hlt hn]; exact hm, hx⟩
    · exact .inr ⟨_, _, hj.new i k hi, by rw [join_outer hp]; exact hm, (open_ren _ _ _).2 hx⟩
theorem Joins.keeps (hp : IsPart h ls hs) (hj : Joins h ls h2 h3) (i : Nat) : KeepsAt μ2 h2 (joinMp μ h ls μ2) h3 (outer ls h.length) i :=
  fun k hk => ⟨hj.new i k hk, join_outer hp i⟩
theorem Joins.rep (hp : IsPart h ls hs) (hj : Joins h ls h2 h3) (ho : μ2.out = (partMp μ h ls).out) {a : AV} {v : Value} (r : Rep μ2 h2 w' a v) : Rep (joinMp μ h ls μ2) h3 w' (ren (outer ls h.length) a) v :=
  Rep.ren (fun _ _ hx => (hj.mut hp ho).1 hx) a v (fun i _ => hj.keeps hp i) r
theorem Joins.repL (hp : IsPart h ls hs) (hj : Joins h ls h2 h3) (ho : μ2.out = (partMp μ h ls).out) {a : List AV} {v : List Value} (r : RepL μ2 h2 w' a v) : RepL (joinMp μ h ls μ2) h3 w' (renL (outer ls h.length) a) v :=
  RepL.ren (fun _ _ hx => (hj.mut hp ho).1 hx) a v (fun i _ => hj.keeps hp i) r
theorem apart_part (hp : IsPart h ls hs) (hr : Rel μ h w) (e : Ext (partMp μ h ls) hs w μ2 h2 w') {l b : Nat} (h1 : l < h.length) (h4 : l ∉ ls) (hm : μ l = some b) :
    w'.heap[b]? = w.heap[b]? ∧ ∀ i, i < h2.length → μ2 i ≠ some b :=
  e.outside b (hr.mapped h1 hm) fun i hi hx => by
    obtain ⟨l', e', hl'⟩ := hp.nth hi
    rw [part_at e'] at hx
    have : l' = l := hr.inj l' l b (hp.lt hl') h1 hx hm
    subst this
    exact h4 hl'
theorem Joins.ext (hp : IsPart h ls hs) (hj : Joins h ls h2 h3) (e : Ext (partMp μ h ls) hs w μ2 h2 w') : Ext μ h w (joinMp μ h ls μ2) h3 w' where
  out := rfl
  still := rfl
  os := e.os
  tape := e.tape
  output := e.output
  size := e.size
  keep := fun b o v hc hm => by
    obtain ⟨h1, h4⟩ := e.keep b o v hc (fun hx => hm (hp.mut.1 hx))
    exact ⟨h1, fun hx => h4 ((hj.mut hp e.out).1 hx)⟩
  outside := fun b hb ho => by
    obtain ⟨h1, h4⟩ := e.outside b hb fun i hi hx => by
      obtain ⟨l', e', hl'⟩ := hp.nth hi
      rw [part_at e'] at hx
      exact ho l' (hp.lt hl') hx
    refine ⟨h1, fun l hl hx => ?_⟩
    rcases hj.cover hl with ⟨h5, h6⟩ | ⟨i, hi, rfl⟩
    · rw [join_other h5 h6] at hx
      exact ho l h5 hx
    · rw [join_outer hp] at hx
      exact h4 i hi hx
  cells := fun l cs hl => by
    have hlt := (List.getElem?_eq_some_iff.1 hl).1
    by_cases hin : l ∈ ls
    · have hat := posOf_at ls l hin
      obtain ⟨h1, h4⟩ := hp.keeps (μ := μ) hin _ hl
      obtain ⟨⟨cs', h5⟩, h6⟩ := e.cells _ _ h1
      have := hj.new _ _ h5
      rw [outer_in hat] at this
      refine ⟨⟨_, this⟩, ?_⟩
      have h7 := join_outer (μ := μ) (μ2 := μ2) hp (posOf ls l)
      rw [outer_in hat] at h7
      exact h7.trans (h6.trans h4)
    · exact ⟨⟨cs, by rw [hj.old l hlt hin]; exact hl⟩, join_other hlt hin⟩
  rows := fun l z rs wr hl => by
    have hlt := (List.getElem?_eq_some_iff.1 hl).1
    by_cases hin : l ∈ ls
    · have hat := posOf_at ls l hin
      obtain ⟨h1, h4⟩ := hp.keeps (μ := μ) hin _ hl
      obtain ⟨rs', wr', h5, h6, h7⟩ := e.rows _ _ _ _ h1
      have := hj.new _ _ h5
      rw [outer_in hat] at this
      refine ⟨rs', wr', this, h6, fun ee => ?_⟩
      have h8 := join_outer (μ := μ) (μ2 := μ2) hp (posOf ls l)
      rw [outer_in hat] at h8
      exact h8.trans ((h7 ee).trans h4)
    · exact ⟨rs, wr, by rw [hj.old l hlt hin]; exact hl, Nat.le_refl _, fun _ => join_other hlt hin⟩
  len := by
    have := hj.len
    have := hj.le
    omega
  maps := fun l es hl => by
    have hlt := (List.getElem?_eq_some_iff.1 hl).1
    by_cases hin : l ∈ ls
    · have hat := posOf_at ls l hin
      obtain ⟨h1, h4⟩ := hp.keeps (μ := μ) hin _ hl
      obtain ⟨⟨es', h5⟩, h6⟩ := e.maps _ _ h1
      have := hj.new _ _ h5
      rw [outer_in hat] at this
      refine ⟨⟨_, this⟩, ?_⟩
      have h7 := join_outer (μ := μ) (μ2 := μ2) hp (posOf ls l)
      rw [outer_in hat] at h7
      exact h7.trans (h6.trans h4)
    · exact ⟨⟨es, by rw [hj.old l hlt hin]; exact hl⟩, join_other hlt hin⟩
  sizes := e.sizes
theorem Joins.rel (hp : IsPart h ls hs) (hj : Joins h ls h2 h3) (hr : Rel μ h w) (hr2 : Rel μ2 h2 w') (e : Ext (partMp μ h ls) hs w μ2 h2 w') : Rel (joinMp μ h ls μ2) h3 w' where
  inj := fun l l' b hl hl' hm hm' => by
    rcases hj.cover hl with ⟨h1, h4⟩ | ⟨i, hi, rfl⟩ <;> rcases hj.cover hl' with ⟨h1', h4'⟩ | ⟨j, hj', rfl⟩
    · rw [join_other h1 h4] at hm
      rw [join_other h1' h4'] at hm'
      exact hr.inj l l' b h1 h1' hm hm'
    · rw [join_other h1 h4] at hm
      rw [join_outer hp] at hm'
      exact absurd hm' ((apart_part hp hr e h1 h4 hm).2 j hj')
    · rw [join_outer hp] at hm
      rw [join_other h1' h4'] at hm'
      exact absurd hm ((apart_part hp hr e h1' h4' hm').2 i hi)
    · rw [join_outer hp] at hm hm'
      rw [hr2.inj i j b hi hj' hm hm']
  blk := fun l k hl => by
    have ex := hj.ext hp e
    rcases hj.cover (List.getElem?_eq_some_iff.1 hl).1 with ⟨h1, h4⟩ | ⟨i, hi, rfl⟩
    · rw [hj.old l h1 h4] at hl
      have := hr.blk l k hl
      cases k with
      | cells cs =>
        obtain ⟨b, vs, T, h5, h6, h7, h8⟩ := this
        exact ⟨b, vs, T, by rw [join_other h1 h4]; exact h5, by rw [(apart_part hp hr e h1 h4 h5).1]; exact h6, h7, RepL.ext ex cs vs h8⟩
      | rows z rs wr =>
        rcases this with ⟨h5, h6⟩ | ⟨b, vs, T, h5, h6, h7, h8⟩
        · exact .inl ⟨h5, by rw [join_other h1 h4]; exact h6⟩
        · exact .inr ⟨b, vs, T, by rw [join_other h1 h4]; exact h5, h6.eq (apart_part hp hr e h1 h4 h5).1, h7, h8.keep ex.keep⟩
      | hole =>
        show (joinMp μ h ls μ2) l = none
        rw [join_other h1 h4]; exact this
      | map es =>
        obtain ⟨b, ms, c, h5, h6, h7⟩ := this
        exact ⟨b, ms, c, by rw [join_other h1 h4]; exact h5, by rw [(apart_part hp hr e h1 h4 h5).1]; exact h6, h7.keep ex.keep⟩
    · obtain ⟨b', h5, rfl⟩ := hj.at_outer hi hl
      have := hr2.blk i b' h5
      cases b' with
      | cells cs =>
        obtain ⟨b, vs, T, h6, h7, h8, h9⟩ := this
        exact ⟨b, vs, T, by rw [join_outer hp]; exact h6, h7, by rw [singles_ren]; exact h8, hj.repL hp e.out h9⟩
      | rows z rs wr =>
        rcases this with ⟨h6, h7⟩ | ⟨b, vs, T, h6, h7, h8, h9⟩
        · exact .inl ⟨h6, by rw [join_outer hp]; exact h7⟩
        · exact .inr ⟨b, vs, T, by rw [join_outer hp]; exact h6, h7, h8, h9.keep fun b o v hc hm => ⟨hc, fun hx => hm ((hj.mut hp e.out).1 hx)⟩⟩
      | hole =>
        show (joinMp μ h ls μ2) _ = none
        rw [join_outer hp]; exact this
      | map es =>
        obtain ⟨b, ms, c, h6, h7, h8⟩ := this
        exact ⟨b, ms, c, by rw [join_outer hp]; exact h6, h7, h8.keep fun b o v hc hm => ⟨hc, fun hx => hm ((hj.mut hp e.out).1 hx)⟩⟩
  apart := fun l b o hl hm ho => by
    rcases hj.cover hl with ⟨h1, h4⟩ | ⟨i, hi, rfl⟩
    · rw [join_other h1 h4] at hm
      exact hr.apart l b o h1 hm ho
    · rw [join_outer hp] at hm
      refine hr2.apart i b o hi hm ?_
      rw [e.out]
      exact .inl ho
  old := fun b o ho => Nat.lt_of_lt_of_le (hr.old b o ho) e.size
  still := (hr.carry (hj.ext hp e)).1
  base := (hr.carry (hj.ext hp e)).2
end
section
variable {Bs : World → Prop}
variable {P : Program} {μ : Mp Bs} {h : Heap} {w : World} {a : Act} {o : Oper} {x : AV}
mutual
theorem conv_sound (hr : Rel μ h w) : ∀ (a a' : AV) (v : Value), conv h a = some a' → Rep μ h w a v → Rep μ h w a' v
  | .own l n, a', v, e, r => by
    simp only [conv] at e
    split at e
    · rename_i z rs wr hl
      split at e
      · simp only [Option.some.injEq] at e
        subst e
        exact r
      · rename_i hw
        split at e
        · rename_i hn
          simp only [Option.some.injEq] at e
          subst e
          refine Rep.pure _ _ (purify_sound hr (.own l n) (.rows rs) v ?_ r)
          have : wr = false := by simpa using hw
          subst this
          simp [purify, hl, hn]
        · simp at e
    · simp at e
  | .nils, a', v, e, r => by
    simp only [conv, Option.some.injEq] at e
    subst e
    exact Rep.pure _ _ (purify_sound hr .nils (.rows []) v (by simp [purify]) r)
  | .lit rs, a', v, e, r => by
    simp only [conv, Option.some.injEq] at e
    subst e
    exact Rep.pure _ _ (purify_sound hr (.lit rs) (.rows rs) v (by simp [purify]) r)
  | .agg cs, a', v, e, r => by
    simp only [conv] at e
    split at e
    · rename_i cs' hcs
      simp only [Option.some.injEq] at e
      subst e
      obtain ⟨vs, hv, r⟩ := r
      exact ⟨vs, hv, convL_sound hr cs cs' vs hcs r⟩
    · simp at e
  | .optr _ _ _ _, _, _, e, _ => by simp [conv] at e
  | .tup cs, _, _, e, r => by simp only [conv, Option.some.injEq] at e; subst e; exact r
  | .fn _ cs, _, _, e, r => by simp only [conv, Option.some.injEq] at e; subst e; exact r
  | .iface _ a, _, _, e, r => by simp only [conv, Option.some.injEq] at e; subst e; exact r
  | .ptr _ _, _, _, e, r => by simp only [conv, Option.some.injEq] at e; subst e; exact r
  | .int _ _, _, _, e, r => by simp only [conv, Option.some.injEq] at e; subst e; exact r
  | .bool _, _, _, e, r => by simp only [conv, Option.some.injEq] at e; subst e; exact r
  | .str _, _, _, e, r => by simp only [conv, Option.some.injEq] at e; subst e; exact r
  | .nilp, _, _, e, r => by simp only [conv, Option.some.injEq] at e; subst e; exact r
  | .nilf, _, _, e, r => by simp only [conv, Option.some.injEq] at e; subst e; exact r
  | .nili, _, _, e, r => by simp only [conv, Option.some.injEq] at e; subst e; exact r
  | .nilm, _, _, e, r => by simp only [conv, Option.some.injEq] at e; subst e; exact r
  | .rows _, _, _, e, r => by simp only [conv, Option.some.injEq] at e; subst e; exact r
  | .rptr _ _, _, _, e, r => by simp only [conv, Option.some.injEq] at e; subst e; exact r
  | .mp _, _, _, e, r => by simp only [conv, Option.some.injEq] at e; subst e; exact r
  | .tptr _ _ _, _, _, e, r => by simp only [conv, Option.some.injEq] at e; subst e; exact r
  | .town _ _ _, _, _, e, r => by simp only [conv, Option.some.injEq] at e; subst e; exact r
  | .any, _, _, e, r => by simp only [conv, Option.some.injEq] at e; subst e; exact r
theorem convL_sound (hr : Rel μ h w) : ∀ (l l' : List AV) (vs : List Value), convL h l = some l' → RepL μ h w l vs → RepL μ h w l' vs
  | [], l', vs, e, r => by simp only [convL, Option.some.injEq] at e; subst e; exact r
  | a :: r, l', vs, e, x => by
    simp only [convL] at e
    split at e
    · rename_i a1 h1
      split at e
      · rename_i r1 h2
        simp only [Option.some.injEq] at e
        subst e
        obtain ⟨v, vr, hv, x1, x2⟩ := x
        exact ⟨v, vr, hv, conv_sound hr a a1 v h1 x1, convL_sound hr r r1 vr h2 x2⟩
      · simp at e
    · simp at e
end
theorem back_length (σ : Nat → Nat) : ∀ (ls : List Nat) (bs h : Heap), (back σ ls bs h).length = h.length
  | [], bs, h => by simp [back]
  | l :: ls, [], h => by simp [back]
  | l :: ls, b :: bs, h => by simp only [back]; rw [back_length σ ls bs]; simp
theorem back_old (σ : Nat → Nat) : ∀ (ls : List Nat) (bs h : Heap) (l : Nat), l ∉ ls → (back σ ls bs h)[l]? = h[l]?
  | [], bs, h, l, _ => by simp [back]
  | x :: ls, [], h, l, _ => by simp [back]
  | x :: ls, b :: bs, h, l, hl => by
    simp only [back]
    rw [back_old σ ls bs _ l (fun hx => hl (List.mem_cons_of_mem _ hx)), List.getElem?_set_ne (fun e => hl (by simp [e]))]
theorem back_new (σ : Nat → Nat) : ∀ (ls : List Nat) (bs h : Heap) (i l : Nat) (b : Blk), ls.Nodup → ls[i]? = some l → bs[i]? = some b → l < h.length → (back σ ls bs h)[l]? = some (renB σ b)
  | [], bs, h, i, l, b, _, e, _, _ => by simp at e
  | x :: ls, [], h, i, l, b, _, _, e, _ => by simp at e
  | x :: ls, y :: bs, h, 0, l, b, hn, e, e', hl => by
    simp only [List.getElem?_cons_zero, Option.some.injEq] at e e'
    subst e e'
    simp only [back]
    rw [back_old σ ls bs _ x (List.nodup_cons.1 hn).1, List.getElem?_set_self hl]
  | x :: ls, y :: bs, h, i + 1, l, b, hn, e, e', hl => by
    simp only [List.getElem?_cons_succ] at e e'
    simp only [back]
    exact back_new σ ls bs _ i l b (List.nodup_cons.1 hn).2 e e' (by simpa using hl)
theorem joins_back {hs h2 : Heap} {ls : List Nat} (hp : IsPart h ls hs) (hlen : h2.length = ls.length) : Joins h ls h2 (back (outer ls h.length) ls h2 h) where
  le := by omega
  len := by rw [back_length]; omega
  old := fun l _ hn => back_old _ _ _ _ _ hn
  new := fun i b hb => by
    have hi : i < hs.length := by rw [hp.len, ← hlen]; exact (List.getElem?_eq_some_iff.1 hb).1
    obtain ⟨l, e, hl⟩ := hp.nth hi
    rw [outer_in e]
    exact back_new _ _ _ _ _ _ _ hp.nodup e hb (hp.lt hl)
theorem joins_more {hs h2 : Heap} {ls : List Nat} {b : Blk} (hp : IsPart h ls hs) (hlen : h2.length = ls.length + 1) (hb : h2[ls.length]? = some b) (hren : renB (outer ls h.length) b = b) : Joins h ls h2 (back (outer ls h.length) ls h2 h ++ [b]) where
  le := by omega
  len := by simp only [List.length_append, back_length, List.length_singleton]; omega
  old := fun l hl hn => by rw [List.getElem?_append_left (by rw [back_length]; exact hl)]; exact back_old _ _ _ _ _ hn
  new := fun i b' hb' => by
    have hlt := (List.getElem?_eq_some_iff.1 hb').1
    by_cases hi : i < ls.length
    · obtain ⟨l, e, hl⟩ := hp.nth (by rw [hp.len]; exact hi)
      rw [outer_in e, List.getElem?_append_left (by rw [back_length]; exact hp.lt hl)]
      exact back_new _ _ _ _ _ _ _ hp.nodup e hb' (hp.lt hl)
    · have hi2 : i = ls.length := by omega
      subst hi2
      rw [hb] at hb'
      simp only [Option.some.injEq] at hb'
      subst hb'
      rw [outer_out (Nat.le_refl _), List.getElem?_append_right (by rw [back_length]; omega), back_length, hren]
      simp
theorem joins_new (b : Blk) (hb : locsB b = []) : Joins h [] [b] (h ++ [b]) where
  le := by simp
  len := by simp
  old := fun l hl _ => List.getElem?_append_left hl
  new := fun i b' hb' => by
    cases i with
    | zero =>
      simp only [List.getElem?_cons_zero, Option.some.injEq] at hb'
      subst hb'
      rw [outer_out (by simp)]
      have : renB (outer [] h.length) b = b := by
        cases b with
        | rows _ _ _ => rfl
        | hole => rfl
        | map _ => rfl
        | cells cs =>
          have : ∀ l : List AV, locsL l = [] → renL (outer [] h.length) l = l := locless_ren _
          simp only [renB, this cs hb]
      simp [this]
    | succ i => simp at hb'
where
  locless (σ : Nat → Nat) : ∀ a : AV, locs a = [] → ren σ a = a
    | .agg cs, h => by simp only [ren]; rw [locless_ren σ cs h]
    | .tup cs, h => by simp only [ren]; rw [locless_ren σ cs h]
    | .fn _ cs, h => by simp only [ren]; rw [locless_ren σ cs h]
    | .iface _ a, h => by simp only [ren]; rw [locless σ a h]
    | .ptr _ _, h => by simp [locs] at h
    | .own _ _, h => by simp [locs] at h
    | .optr _ _ _ _, h => by simp [locs] at h
    | .mp _, h => by simp [locs] at h
    | .tptr _ _ _, h => by simp [locs] at h
    | .town _ _ _, h => by simp [locs] at h
    | .int _ _, _ => rfl
    | .bool _, _ => rfl
    | .str _, _ => rfl
    | .nilp, _ => rfl
    | .nilf, _ => rfl
    | .nili, _ => rfl
    | .nilm, _ => rfl
    | .nils, _ => rfl
    | .rows _, _ => rfl
    | .lit _, _ => rfl
    | .rptr _ _, _ => rfl
    | .any, _ => rfl
  locless_ren (σ : Nat → Nat) : ∀ l : List AV, locsL l = [] → renL σ l = l
    | [], _ => rfl
    | a :: r, h => by
      simp only [locsL, List.append_eq_nil_iff] at h
      simp only [renL]
      rw [locless σ a h.1, locless_ren σ r h.2]
theorem part_nil : IsPart h [] [] where
  nodup := by simp
  len := rfl
  there := fun i l e => by simp at e
  closed := fun l hl => by simp [locsH] at hl
theorem part_call {F : Tk → Res} (hF : Knows Bs P F) {c : Call} {f : Operand} {g : FuncId} {caps : List Value} {args : List AV} {ls : List Nat} {hs h2 h3 : Heap} {r : AV} (hr : Rel μ h w)
    (ho : o.op = .call c) (hc : c.callee = .value f) (hf : a.eval f = .func (.func g) #[] caps.toArray) (hp : IsPart h ls hs) (ha : RepL (partMp μ h ls) hs w args (c.args.toList.map a.eval ++ caps))
    (e : F (.call g args hs) = some (r, h2)) (hj : Joins h ls h2 h3) : Goes P o a μ h w (ren (outer ls h.length) r) h3 := by
  obtain ⟨hen, hcl⟩ := hF _ _ _ _ _ e
  exact goes_call ho hc hf hen hcl (hp.rel hr) ha fun v μ2 w' q2 q3 q4 => ⟨_, hj.rel hp hr q2 q3, hj.ext hp q3, hj.rep hp q3.out q4⟩
theorem callV_sound {F : Tk → Res} (hF : Knows Bs P F) {c : Call} {f : Operand} {ev : Operand → AV} {h' : Heap} (hr : Rel μ h w) (he : EvRep μ h w ev a.eval) (ho : o.op = .call c) (hc : c.callee = .value f)
    (e : callV F h (evs ev c.args.toList) (ev f) = some (x, h')) : Goes P o a μ h w x h' := by
  unfold callV at e
  split at e
  · rename_i g caps hg
    obtain ⟨vs, hf, hcaps⟩ := fn_form he hg
    have hall := (evs_rep he c.args.toList).append hcaps
    unfold callBy at e
    split at e
    · rename_i pure hp
      unfold afterPure at e
      split at e
      · rename_i r hFr
        simp only [Option.some.injEq, Prod.mk.injEq] at e
        obtain ⟨rfl, rfl⟩ := e
        obtain ⟨hen, hcl⟩ := hF _ _ _ _ _ hFr
        exact goes_call ho hc hf hen hcl hr.empty (purified hr hp hall) fun v μ2 w' h2 h3 h4 =>
          ⟨μ, hr.from_empty h3, h3.from_empty.1, Rep.from_empty h3 h4⟩
      · rename_i n b hFr
        simp only [Option.some.injEq, Prod.mk.injEq] at e
        obtain ⟨rfl, rfl⟩ := e
        obtain ⟨hen, hcl⟩ := hF _ _ _ _ _ hFr
        refine goes_call ho hc hf hen hcl (part_nil.rel hr) (RepL.pure _ _ (PRepL.keep (fun b o v hc hm => ⟨hc, fun hx => hm (part_nil.mut.1 hx)⟩) _ _ (purifyL_sound hr _ _ _ hp hall)))
          fun v μ2 w' q2 q3 q4 => ?_
        have hb : locsB b = [] := by
          obtain ⟨z, rs, wr, _, _, hl, _⟩ := q4
          simp only [List.getElem?_cons_zero, Option.some.injEq] at hl
          subst hl
          rfl
        exact ⟨_, (joins_new b hb).rel part_nil hr q2 q3, (joins_new b hb).ext part_nil q3, (joins_new b hb).rep part_nil q3.out q4⟩
      · simp at e
    · split at e
      · rename_i args hca
        unfold callIn at e
        split at e
        · rename_i hu
          split at e
          · rename_i hs hsub
            split at e
            · rename_i hcl
              unfold afterIn at e
              split at e
              · rename_i r h2 hFr
                split at e
                · rename_i hlen
                  simp only [Option.some.injEq, Prod.mk.injEq] at e
                  obtain ⟨rfl, rfl⟩ := e
                  obtain ⟨h1, h4⟩ := sub_at h _ _ _ hsub
                  have hp : IsPart h (reach h 100 (locsL args) []) hs := ⟨reach_nodup _ _ _ _ (by simp), h1, h4, under_mem hcl⟩
                  refine part_call hF hr ho hc hf hp (hp.rep (fun i hi => (posOf_lt _ _).1 (under_mem hu _ (List.mem_map_of_mem hi))) (convL_sound hr _ _ _ hca hall)) hFr (joins_back hp hlen)
                · split at e
                  · rename_i hlen
                    split at e
                    · rename_i z rs wr hb
                      simp only [Option.some.injEq, Prod.mk.injEq] at e
                      obtain ⟨rfl, rfl⟩ := e
                      obtain ⟨h1, h4⟩ := sub_at h _ _ _ hsub
                      have hp : IsPart h (reach h 100 (locsL args) []) hs := ⟨reach_nodup _ _ _ _ (by simp), h1, h4, under_mem hcl⟩
                      refine part_call hF hr ho hc hf hp (hp.rep (fun i hi => (posOf_lt _ _).1 (under_mem hu _ (List.mem_map_of_mem hi))) (convL_sound hr _ _ _ hca hall)) hFr (joins_more hp hlen hb rfl)
                    · simp at e
                  · simp at e
              · simp at e
            · simp at e
          · simp at e
        · simp at e
      · simp at e
  · simp at e
theorem stepO_sound {C : Cfg} {F : Tk → Res} (hF : Knows Bs C.P F) {ev : Operand → AV} {h' : Heap} (hr : Rel μ h w) (he : EvRep μ h w ev a.eval) (e : stepO C F ev h o.op = some (x, h')) : Goes C.P o a μ h w x h' := by
  have quiet : val h (stepD C F ev h o.op) = some (x, h') → Goes C.P o a μ h w x h' := fun e => by
    cases hd : stepD C F ev h o.op with
    | none => simp [hd, val] at e
    | some v =>
      simp only [hd, val, Option.some.injEq, Prod.mk.injEq] at e
      obtain ⟨rfl, rfl⟩ := e
      exact stepD_sound hF hr he hd
  cases ho : o.op with
  | alloc t =>
    simp only [stepO, ho] at e
    exact allocT_goes hr ho e
  | box t y =>
    simp only [stepO, ho] at e
    exact box_goes hr he ho e
  | store t y z =>
    simp only [stepO, ho] at e
    cases hs : aStore C.P t (ev y) (ev z) h with
    | none => simp [hs, vunit] at e
    | some h1 =>
      simp only [hs, vunit, Option.some.injEq, Prod.mk.injEq] at e
      obtain ⟨rfl, rfl⟩ := e
      exact store_goes hr he ho hs
  | makeSlice t n m =>
    simp only [stepO, ho] at e
    exact makeSlice_goes hr he ho e
  | makeMap t r =>
    cases r with
    | none =>
      simp only [stepO, ho, Option.some.injEq, Prod.mk.injEq] at e
      obtain ⟨rfl, rfl⟩ := e
      exact makeMap_goes hr ho
    | some _ => simp [stepO, ho, stepD, val] at e
  | mapUpdate t m k y =>
    simp only [stepO, ho] at e
    cases hs : mapSet C.P t h (ev m) (ev k) (ev y) with
    | none => simp [hs, vunit] at e
    | some h1 =>
      simp only [hs, vunit, Option.some.injEq, Prod.mk.injEq] at e
      obtain ⟨rfl, rfl⟩ := e
      exact mapSet_goes hr he (.inl ho) hs
  | insert t m k y =>
    simp only [stepO, ho] at e
    cases hs : mapSet C.P t h (ev m) (ev k) (ev y) with
    | none => simp [hs, vunit] at e
    | some h1 =>
      simp only [hs, vunit, Option.some.injEq, Prod.mk.injEq] at e
      obtain ⟨rfl, rfl⟩ := e
      exact mapSet_goes hr he (.inr ho) hs
  | call c =>
    simp only [stepO, ho, callOp] at e
    split at e
    · rename_i f hc
      exact callV_sound hF hr he ho hc e
    · rename_i hc
      exact append_goes hr he ho hc e
    · rename_i b hne hc
      refine quiet ?_
      simp only [ho, stepD, callOpD, hc]
      exact e
    · simp at e
  | _ =>
    refine quiet ?_
    simpa only [stepO, ho] using e
end
section
variable {Bs : World → Prop}
variable {P : Program} {μ μ' : Mp Bs} {h h' : Heap} {w w' : World}
def OpsFit (n : Nat) (ops : Array Oper) : Prop := ∀ (i : Nat) (o : Oper), ops[i]? = some o → ∀ d, o.dst = some d → d < n
theorem act_put_size (a : Act) (d : Option Nat) (v : Value) : (a.put d v).tmps.size = a.tmps.size := by
  cases d <;> simp [Act.put]
theorem act_put_defers (a : Act) (d : Option Nat) (v : Value) : (a.put d v).defers = a.defers := by
  cases d <;> rfl
theorem FrRel.ext (e : Ext μ h w μ' h' w') {fr : Fr} {t : Array Value} (r : FrRel μ h w fr t) : FrRel μ' h' w' fr t := fun i => Rep.ext e _ _ (r i)
theorem FrRel.put {fr : Fr} {a : Act} {d : Option Nat} {x : AV} {v : Value} (r : FrRel μ h w fr a.tmps) (hd : ∀ i, d = some i → i < a.tmps.size) (hx : Rep μ h w x v) : FrRel μ h w (Go.Ab.put fr d x) (a.put d v).tmps := by
  cases d with
  | none => exact r
  | some i =>
    intro j
    have hi := hd i rfl
    by_cases hij : i = j
    · subst hij
      simp only [Go.Ab.put, get, if_true, Act.put]
      simpa [Array.getD, hi] using hx
    · simp only [Go.Ab.put, get, if_neg hij, Act.put]
      have : (a.tmps.setIfInBounds i v).getD j undef = a.tmps.getD j undef := by
        simp only [Array.getD_eq_getD_getElem?]
        rw [Array.getElem?_setIfInBounds_ne hij]
      rw [this]
      exact r j
theorem undef_rep : Rep μ h w (.tup []) undef := ⟨[], rfl, rfl⟩
theorem yielded_bool {ops : Array Oper} {t : Array Value} {fr : Fr} {j : Nat} {b : Bool} (r : FrRel μ h w fr t) (e : getO fr (slotOf ops.toList j) = .bool b) : yielded ops t j = some b := by
  unfold yielded
  unfold slotOf at e
  simp only [Array.getElem?_toList] at e
  cases ho : ops[j]? with
  | none => simp [ho, getO] at e
  | some o =>
    simp only [ho] at e
    cases hd : o.dst with
    | none => simp [hd, getO] at e
    | some d =>
      simp only [hd, getO] at e
      have h1 := r d
      rw [e] at h1
      have h2 : t.getD d undef = .bool b := h1
      rw [Array.getD_eq_getD_getElem?] at h2
      cases hv : t[d]? with
      | none => simp [hv, undef] at h2
      | some v =>
        simp only [hv, Option.getD_some] at h2
        subst h2
        simp [hd, hv]
theorem yielded_none {ops : Array Oper} {t : Array Value} {fr : Fr} {j : Nat} (r : FrRel μ h w fr t) (e : getO fr (slotOf ops.toList j) = .tup []) : yielded ops t j = none := by
  unfold yielded
  unfold slotOf at e
  simp only [Array.getElem?_toList] at e
  cases ho : ops[j]? with
  | none => simp
  | some o =>
    simp only [ho] at e
    cases hd : o.dst with
    | none => simp [hd]
    | some d =>
      simp only [hd, getO] at e
      have h1 := r d
      rw [e] at h1
      obtain ⟨vs, h2, h3⟩ := h1
      have h3' : vs = [] := h3
      subst h3'
      rw [Array.getD_eq_getD_getElem?] at h2
      cases hv : t[d]? with
      | none => simp [hd, hv]
      | some v =>
        simp only [hv, Option.getD_some] at h2
        subst h2
        simp [hd, hv]
def Ends (μ : Mp Bs) (h : Heap) (w : World) (a : Act) (fr' : Fr) (h' : Heap) (Q : Exit → Act → World → Prop) : Prop :=
  ∀ a' μ' w', Rel μ' h' w' → Ext μ h w μ' h' w' → FrRel μ' h' w' fr' a'.tmps → a'.tmps.size = a.tmps.size → a'.defers = a.defers → Q .normal a' w'
theorem range_cons {n m : Nat} (h : n < m) : List.range' n (m - n) = n :: List.range' (n + 1) (m - (n + 1)) := by
  have : m - n = (m - (n + 1)) + 1 := by omega
  rw [this, List.range'_succ]
theorem aOps_sound {C : Cfg} {F : Tk → Res} (hF : Knows Bs C.P F) {ops : Array Oper} {Q : Exit → Act → World → Prop} : ∀ (rest : List Oper) (n : Nat) (fr fr' : Fr) (h h' : Heap) (a : Act) (μ : Mp Bs) (w : World),
    ops.toList.drop n = rest → OpsFit a.tmps.size ops → Rel μ h w → FrRel μ h w fr a.tmps → aOps C F ops.toList rest fr h = some (fr', h') → Ends μ h w a fr' h' Q → wpOps C.P ops Q (List.range' n (ops.size - n)) a w
  | [], n, fr, fr', h, h', a, μ, w, hd, _, hr, hf, e, hQ => by
    have hn : ops.size ≤ n := by
      have := congrArg List.length hd
      simp at this
      omega
    have : ops.size - n = 0 := by omega
    rw [this]
    simp only [List.range'_zero, wpOps]
    simp only [aOps, Option.some.injEq, Prod.mk.injEq] at e
    obtain ⟨rfl, rfl⟩ := e
    exact hQ a μ w hr (Ext.refl _ _ _) hf rfl rfl
  | o :: rest, n, fr, fr', h, h', a, μ, w, hd, hfit, hr, hf, e, hQ => by
    have hlt : n < ops.size := by
      have := congrArg List.length hd
      simp at this
      omega
    have ho : ops[n]? = some o := by
      have := congrArg (fun l => l[0]?) hd
      simp only [List.getElem?_drop, Nat.add_zero, List.getElem?_cons_zero, Array.getElem?_toList] at this
      exact this
    have hd' : ops.toList.drop (n + 1) = rest := by
      have := congrArg List.tail hd
      simpa [List.tail_drop] using this
    have fit : ∀ i, o.dst = some i → i < a.tmps.size := hfit n o ho
    rw [range_cons hlt]
    simp only [wpOps, ho]
    have run : ∀ {v : AV} {h1 : Heap}, stepO C F (ev fr) h o.op = some (v, h1) → aOps C F ops.toList rest (Go.Ab.put fr o.dst v) h1 = some (fr', h') → o.wp C.P a w (wpOps C.P ops Q (List.range' (n + 1) (ops.size - (n + 1)))) Q := by
      intro v h1 hs hn
      refine stepO_sound hF hr (ev_rep hf) hs _ _ ?_
      intro u μ' w' h2 h3 h4
      refine aOps_sound hF rest (n + 1) _ fr' h1 h' (a.put o.dst u) μ' w' hd' (by rw [act_put_size]; exact hfit) h2 ((hf.ext h3).put fit h4) hn ?_
      intro a' μ2 w2 q1 q2 q3 q4 q5
      exact hQ a' μ2 w2 q1 (h3.trans q2) q3 (by rw [q4, act_put_size]) (by rw [q5, act_put_defers])
    have skip : aOps C F ops.toList rest (Go.Ab.put fr o.dst (.tup [])) h = some (fr', h') → wpOps C.P ops Q (List.range' (n + 1) (ops.size - (n + 1))) (a.put o.dst undef) w := by
      intro hn
      refine aOps_sound hF rest (n + 1) _ fr' h h' (a.put o.dst undef) μ w hd' (by rw [act_put_size]; exact hfit) hr (hf.put fit undef_rep) hn ?_
      intro a' μ2 w2 q1 q2 q3 q4 q5
      exact hQ a' μ2 w2 q1 q2 q3 (by rw [q4, act_put_size]) (by rw [q5, act_put_defers])
    simp only [aOps] at e
    split at e
    · rename_i hg
      have hw : Region.wanted o (yielded ops a.tmps) = true := by simp [Region.wanted, hg]
      simp only [hw, if_true]
      split at e
      · rename_i v h1 hs
        exact .inl (run hs e)
      · simp at e
    · rename_i j want hg
      split at e
      · rename_i b hb
        have hy := yielded_bool hf hb
        split at e
        · rename_i hbw
          subst hbw
          have hw : Region.wanted o (yielded ops a.tmps) = true := by simp [Region.wanted, hg, hy]
          simp only [hw, if_true]
          split at e
          · rename_i v h1 hs
            exact .inl (run hs e)
          · simp at e
        · rename_i hbw
          have hw : Region.wanted o (yielded ops a.tmps) = false := by simp [Region.wanted, hg, hy, hbw]
          simp only [hw, Bool.false_eq_true, if_false]
          exact skip e
      · rename_i hb
        have hy := yielded_none hf hb
        have hw : Region.wanted o (yielded ops a.tmps) = false := by simp [Region.wanted, hg, hy]
        simp only [hw, Bool.false_eq_true, if_false]
        exact skip e
      · simp at e
end
section
variable {Bs : World → Prop}
def readsO : Op → List Operand
  | .load _ x => [x]
  | .slice _ x _ _ _ => [x]
  | .indexAddr _ x _ => [x]
  | .lookup _ x _ _ => [x]
  | .buildSlice _ _ ps => ps.toList.map (·.2)
  | .call c => match c.callee with
    | .value f => f :: c.args.toList
    | _ => []
  | _ => []
theorem allocT_some {b : Bool} {t : TypeId} {r : Option (AV × Heap)} {x : AV} {h' : Heap} (e : allocT b t r = some (x, h')) : ∃ x0, r = some (x0, h') := by
  cases b with
  | false => exact ⟨x, e⟩
  | true =>
    simp only [allocT, cond_true] at e
    unfold tyP at e
    split at e
    · simp only [Option.some.injEq, Prod.mk.injEq] at e
      obtain ⟨_, rfl⟩ := e
      exact ⟨_, rfl⟩
    · simp at e
theorem alloc_push {h : Heap} {v : Option AV} {x : AV} {h' : Heap} (e : Go.Ab.alloc h v = some (x, h')) : ∃ b, h' = h ++ [b] := by
  unfold Go.Ab.alloc at e
  split at e
  · split at e
    · simp only [Option.some.injEq, Prod.mk.injEq] at e
      exact ⟨_, e.2.symm⟩
    · simp at e
  · simp at e
theorem appendX_some {el : Option TypeId} {wq : Bool} {h : Heap} {z b : Nat} {ys : List (List AV)} {xs x : AV} {h' : Heap} (e : appendX el wq h z b ys xs = some (x, h')) : ∃ xs' x', appendTo wq h z b xs' ys = some (x', h') ∧ locs xs' = locs xs := by
  unfold appendX at e
  split at e
  · rename_i t l n
    split at e
    · refine ⟨.own l n, ?_⟩
      unfold tyO at e
      split at e
      · rename_i l' n' h'' ha
        simp only [Option.some.injEq, Prod.mk.injEq] at e
        obtain ⟨_, rfl⟩ := e
        exact ⟨_, ha, rfl⟩
      · simp at e
    · simp at e
  · exact ⟨xs, x, e, rfl⟩
end
section
variable {Bs : World → Prop}
variable {P : Program} {h h' : Heap}
mutual
theorem purify_local : ∀ a : AV, (∀ l, l ∈ locs a → h[l]? = h'[l]?) → purify h a = purify h' a
  | .own l n, e => by simp only [purify]; rw [e l (by simp [locs])]
  | .agg cs, e => by simp only [purify]; rw [purifyL_local cs e]
  | .tup cs, e => by simp only [purify]; rw [purifyL_local cs e]
  | .fn _ cs, e => by simp only [purify]; rw [purifyL_local cs e]
  | .iface _ a, e => by simp only [purify]; rw [purify_local a e]
  | .ptr _ _, _ => rfl
  | .optr _ _ _ _, _ => rfl
  | .mp _, _ => rfl
  | .tptr _ _ _, _ => rfl
  | .town _ _ _, _ => rfl
  | .nils, _ => rfl
  | .lit _, _ => rfl
  | .int _ _, _ => rfl
  | .bool _, _ => rfl
  | .str _, _ => rfl
  | .nilp, _ => rfl
  | .nilf, _ => rfl
  | .nili, _ => rfl
  | .nilm, _ => rfl
  | .rows _, _ => rfl
  | .rptr _ _, _ => rfl
  | .any, _ => rfl
theorem purifyL_local : ∀ l : List AV, (∀ i, i ∈ locsL l → h[i]? = h'[i]?) → purifyL h l = purifyL h' l
  | [], _ => rfl
  | a :: r, e => by
    simp only [purifyL]
    rw [purify_local a (fun l hl => e l (by simp [locsL, hl])), purifyL_local r (fun l hl => e l (by simp [locsL, hl]))]
end
theorem aLoad_local {t : TypeId} {a : AV} (e : ∀ l, l ∈ locs a → h[l]? = h'[l]?) : aLoad P t a h = aLoad P t a h' := by
  cases a <;> simp only [aLoad]
  · rw [e _ (by simp [locs])]
  · rw [e _ (by simp [locs])]
theorem sliceV_local {lo hi : Option AV} {x : AV} {k : TK} (e : ∀ l, l ∈ locs x → h[l]? = h'[l]?) : sliceV h lo hi x k = sliceV h' lo hi x k := by
  cases k <;> simp only [sliceV]
  cases x <;> simp only [sliceR]
  rw [e _ (by simp [locs])]
theorem indexP_local {t : TypeId} {i x : AV} (e : ∀ l, l ∈ locs x → h[l]? = h'[l]?) : indexP P t h i x = indexP P t h' i x := by
  cases i <;> simp only [indexP]
  cases x <;> simp only
  rw [e _ (by simp [locs])]
theorem entriesOf_local {x : AV} (e : ∀ l, l ∈ locs x → h[l]? = h'[l]?) : entriesOf h x = entriesOf h' x := by
  cases x <;> simp only [entriesOf]
  rw [e _ (by simp [locs])]
theorem pieces_local {ev : Operand → AV} {z : Nat} : ∀ (ps : List (Nat × Operand)) (i : Nat), (∀ p, p ∈ ps → ∀ l, l ∈ locs (ev p.2) → h[l]? = h'[l]?) → pieces h ev z i ps = pieces h' ev z i ps
  | [], _, _ => rfl
  | (j, x) :: r, i, e => by
    simp only [pieces]
    rw [purify_local (ev x) (e (j, x) (by simp)), pieces_local r (i + 1) (fun p hp => e p (by simp [hp]))]
theorem locsL_evs (ev : Operand → AV) : ∀ (xs : List Operand) (l : Nat), l ∈ locsL (evs ev xs) → ∃ x, x ∈ xs ∧ l ∈ locs (ev x)
  | [], l, hl => by simp [evs, locsL] at hl
  | x :: xs, l, hl => by
    simp only [evs, locsL, List.mem_append] at hl
    rcases hl with hl | hl
    · exact ⟨x, by simp, hl⟩
    · obtain ⟨y, h1, h2⟩ := locsL_evs ev xs l hl
      exact ⟨y, by simp [h1], h2⟩
theorem locsL_append (a b : List AV) (l : Nat) : l ∈ locsL (a ++ b) ↔ l ∈ locsL a ∨ l ∈ locsL b := by
  induction a with
  | nil => simp [locsL]
  | cons x r ih => simp [locsL, ih, or_assoc]
theorem stepD_local {C : Cfg} {F : Tk → Res} {ev : Operand → AV} (o : Op) (e : ∀ x, x ∈ readsO o → ∀ l, l ∈ locs (ev x) → h[l]? = h'[l]?) : stepD C F ev h o = stepD C F ev h' o := by
  cases o with
  | load t a => simp only [stepD]; exact aLoad_local (e a (by simp [readsO]))
  | slice t x lo hi mx =>
    cases mx with
    | none => simp only [stepD]; exact sliceV_local (e x (by simp [readsO]))
    | some _ => rfl
  | indexAddr t x i => simp only [stepD]; exact indexP_local (e x (by simp [readsO]))
  | lookup t x i ok => simp only [stepD, lookupV]; rw [entriesOf_local (h := h) (h' := h') (e x (by simp [readsO]))]
  | buildSlice t n ps =>
    simp only [stepD]
    split
    · rw [pieces_local ps.toList 0 fun p hp => e p.2 (by simp only [readsO, List.mem_map]; exact ⟨p, hp, rfl⟩)]
    · rfl
  | call c =>
    simp only [stepD, callOpD]
    split
    · rename_i f hc
      unfold callD
      split
      · rename_i g caps hg
        rw [purifyL_local (h := h) (h' := h')]
        intro l hl
        rw [locsL_append] at hl
        rcases hl with hl | hl
        · obtain ⟨x, h1, h2⟩ := locsL_evs ev _ _ hl
          exact e x (by simp only [readsO, hc]; exact List.mem_cons_of_mem _ h1) l h2
        · exact e f (by simp [readsO, hc]) l (by rw [hg]; exact hl)
      · rfl
    · rfl
    · rfl
  | makeFunc f first captured => cases f <;> rfl
  | _ => rfl
theorem stepO_away {C : Cfg} {F : Tk → Res} {ev : Operand → AV} {x : AV} (o : Op) (e : stepO C F ev h o = some (x, h')) : h.length ≤ h'.length ∧ ∀ l, l < h.length → l ∉ touches ev h o → h'[l]? = h[l]? := by
  have quiet : ∀ {v : Option AV}, val h v = some (x, h') → h.length ≤ h'.length ∧ ∀ l, l < h.length → l ∉ touches ev h o → h'[l]? = h[l]? := fun {v} ev' => by
    cases v with
    | none => simp [val] at ev'
    | some v =>
      simp only [val, Option.some.injEq, Prod.mk.injEq] at ev'
      obtain ⟨_, rfl⟩ := ev'
      exact ⟨Nat.le_refl _, fun _ _ _ => rfl⟩
  have push : ∀ b : Blk, h' = h ++ [b] → h.length ≤ h'.length ∧ ∀ l, l < h.length → l ∉ touches ev h o → h'[l]? = h[l]? := fun b hb => by
    subst hb
    exact ⟨by simp, fun l hl _ => List.getElem?_append_left hl⟩
  have alo : ∀ {v : Option AV}, Go.Ab.alloc h v = some (x, h') → ∃ b, h' = h ++ [b] := fun {v} ea => by
    unfold Go.Ab.alloc at ea
    split at ea
    · split at ea
      · simp only [Option.some.injEq, Prod.mk.injEq] at ea
        exact ⟨_, ea.2.symm⟩
      · simp at ea
    · simp at ea
  have setl : ∀ (l0 : Nat) (b : Blk), h' = h.set l0 b → l0 ∈ touches ev h o → h.length ≤ h'.length ∧ ∀ l, l < h.length → l ∉ touches ev h o → h'[l]? = h[l]? := fun l0 b hb ht => by
    subst hb
    refine ⟨by simp, fun l hl hn => ?_⟩
    rw [List.getElem?_set_ne]
    intro e0
    subst e0
    exact hn ht
  have mset : ∀ {t : TypeId} {m k v : Operand}, (∀ l, ev m = .mp l → l ∈ touches ev h o) → vunit (mapSet C.P t h (ev m) (ev k) (ev v)) = some (x, h') → h.length ≤ h'.length ∧ ∀ l, l < h.length → l ∉ touches ev h o → h'[l]? = h[l]? := fun {t m k v} ht e => by
    simp only [vunit] at e
    split at e
    · rename_i h1 hs
      simp only [Option.some.injEq, Prod.mk.injEq] at e
      obtain ⟨_, rfl⟩ := e
      unfold mapSet at hs
      split at hs
      · rename_i l0 hp
        split at hs
        · split at hs
          · split at hs
            · simp only [Option.some.injEq] at hs
              exact setl l0 _ hs.symm (ht l0 hp)
            · simp at hs
          · simp at hs
        · simp at hs
      · simp at hs
    · simp at e
  cases o with
  | alloc t =>
    simp only [stepO] at e
    obtain ⟨x0, e0⟩ := allocT_some e
    obtain ⟨b, hb⟩ := alloc_push e0
    exact push b hb
  | box t y =>
    simp only [stepO] at e
    obtain ⟨b, hb⟩ := alo e
    exact push b hb
  | store t p v =>
    simp only [stepO, vunit] at e
    split at e
    · rename_i h1 hs
      simp only [Option.some.injEq, Prod.mk.injEq] at e
      obtain ⟨_, rfl⟩ := e
      unfold aStore at hs
      split at hs
      · rename_i l0 o0 hp
        split at hs
        · split at hs
          · split at hs
            · simp only [Option.some.injEq] at hs
              exact setl l0 _ hs.symm (by simp [touches, hp, locs])
            · simp at hs
          · simp at hs
        · simp at hs
      · rename_i l0 n0 i0 o0 hp
        split at hs
        · split at hs
          · split at hs
            · split at hs
              · split at hs
                · split at hs
                  · simp only [Option.some.injEq] at hs
                    exact setl l0 _ hs.symm (by simp [touches, hp, locs])
                  · simp at hs
                · simp at hs
              · simp at hs
            · simp at hs
          · simp at hs
        · simp at hs
      · simp at hs
    · simp at e
  | makeMap t r =>
    cases r with
    | none =>
      simp only [stepO, Option.some.injEq, Prod.mk.injEq] at e
      exact push _ e.2.symm
    | some _ => simp [stepO, stepD, val] at e
  | mapUpdate t m k v =>
    simp only [stepO] at e
    exact mset (fun l0 hp => by simp [touches, hp, locs]) e
  | insert t m k v =>
    simp only [stepO] at e
    exact mset (fun l0 hp => by simp [touches, hp, locs]) e
  | makeSlice t n m =>
    simp only [stepO] at e
    unfold makeSliceV at e
    split at e
    · split at e
      · split at e
        · split at e
          · unfold makeOf at e
            split at e
            · split at e
              · simp only [Option.some.injEq, Prod.mk.injEq] at e
                exact push _ e.2.symm
              · simp at e
            · simp at e
          · simp at e
        · simp at e
      · simp at e
    · simp at e
  | call c =>
    simp only [stepO, callOp] at e
    split at e
    · rename_i f hc
      unfold callV at e
      split at e
      · rename_i g caps hg
        unfold callBy at e
        split at e
        · rename_i pure hp
          unfold afterPure at e
          split at e
          · simp only [Option.some.injEq, Prod.mk.injEq] at e
            obtain ⟨_, rfl⟩ := e
            exact ⟨Nat.le_refl _, fun _ _ _ => rfl⟩
          · simp only [Option.some.injEq, Prod.mk.injEq] at e
            exact push _ e.2.symm
          · simp at e
        · rename_i hp
          split at e
          · rename_i args hca
            unfold callIn at e
            split at e
            · split at e
              · split at e
                · unfold afterIn at e
                  split at e
                  · split at e
                    · simp only [Option.some.injEq, Prod.mk.injEq] at e
                      obtain ⟨_, rfl⟩ := e
                      refine ⟨by rw [back_length]; exact Nat.le_refl _, fun l _ hn => back_old _ _ _ _ _ ?_⟩
                      simpa [touches, hc, touchesCall, hg, hp, hca] using hn
                    · split at e
                      · split at e
                        · simp only [Option.some.injEq, Prod.mk.injEq] at e
                          obtain ⟨_, rfl⟩ := e
                          refine ⟨by simp [back_length], fun l hl hn => ?_⟩
                          rw [List.getElem?_append_left (by rw [back_length]; exact hl)]
                          refine back_old _ _ _ _ _ ?_
                          simpa [touches, hc, touchesCall, hg, hp, hca] using hn
                        · simp at e
                      · simp at e
                  · simp at e
                · simp at e
              · simp at e
            · simp at e
          · simp at e
      · simp at e
    · rename_i hc
      unfold appendV at e
      split at e
      · rename_i xs ys hxy
        split at e
        · split at e
          · split at e
            · split at e
              · split at e
                · obtain ⟨xs', x', e, hlx⟩ := appendX_some e
                  unfold appendTo at e
                  split at e
                  · split at e
                    · simp only [Option.some.injEq, Prod.mk.injEq] at e
                      exact push _ e.2.symm
                    · simp at e
                  · split at e
                    · simp only [Option.some.injEq, Prod.mk.injEq] at e
                      exact push _ e.2.symm
                    · simp at e
                  · rename_i l0 n0
                    split at e
                    · split at e
                      · simp only [Option.some.injEq, Prod.mk.injEq] at e
                        exact setl l0 _ e.2.symm (by simp [touches, hc, hxy, locsL, ← hlx, locs])
                      · simp at e
                    · simp at e
                  · simp at e
                · simp at e
              · simp at e
            · simp at e
          · split at e
            · unfold appendS at e
              split at e
              · split at e
                · obtain ⟨xs', x', e, hlx⟩ := appendX_some e
                  unfold appendTo at e
                  split at e
                  · split at e
                    · simp only [Option.some.injEq, Prod.mk.injEq] at e
                      exact push _ e.2.symm
                    · simp at e
                  · split at e
                    · simp only [Option.some.injEq, Prod.mk.injEq] at e
                      exact push _ e.2.symm
                    · simp at e
                  · rename_i l0 n0
                    split at e
                    · split at e
                      · simp only [Option.some.injEq, Prod.mk.injEq] at e
                        exact setl l0 _ e.2.symm (by simp [touches, hc, hxy, locsL, ← hlx, locs])
                      · simp at e
                    · simp at e
                  · simp at e
                · simp at e
              · simp at e
            · simp at e
          · simp at e
        · simp at e
      · simp at e
    · exact quiet e
    · simp at e
  | _ => exact quiet (by simpa only [stepO] using e)
end
section
variable {Bs : World → Prop}
variable {P : Program} {h h' : Heap} {ev ev' : Operand → AV}
theorem evs_congr : ∀ (l : List Operand), (∀ x, x ∈ l → ev x = ev' x) → evs ev l = evs ev' l
  | [], _ => rfl
  | x :: r, e => by simp only [evs]; rw [e x (by simp), evs_congr r (fun y hy => e y (by simp [hy]))]
theorem evo_congr (x : Option Operand) (e : ∀ y, x = some y → ev y = ev' y) : evo ev x = evo ev' x := by
  cases x with
  | none => rfl
  | some y => simp only [evo]; rw [e y rfl]
theorem pieces_congr {z : Nat} : ∀ (ps : List (Nat × Operand)) (i : Nat), (∀ p, p ∈ ps → ev p.2 = ev' p.2) → pieces h ev z i ps = pieces h ev' z i ps
  | [], _, _ => rfl
  | (j, x) :: r, i, e => by
    simp only [pieces]
    rw [e (j, x) (by simp), pieces_congr r (i + 1) (fun p hp => e p (by simp [hp]))]
theorem fillBy_congr {place : Nat → Option (Nat × Nat)} : ∀ (ps : List (Nat × Operand)) (cs : List AV), (∀ p, p ∈ ps → ev p.2 = ev' p.2) → fillBy place ev cs ps = fillBy place ev' cs ps
  | [], _, _ => rfl
  | (j, x) :: r, cs, e => by
    have hx : ev x = ev' x := e (j, x) (by simp)
    have hr : ∀ cs, fillBy place ev cs r = fillBy place ev' cs r := fun cs => fillBy_congr r cs (fun p hp => e p (by simp [hp]))
    simp only [fillBy, hx, hr]
theorem buildV_congr {p : Option Plc} {z : Option AV} (ps : List (Nat × Operand)) (e : ∀ p, p ∈ ps → ev p.2 = ev' p.2) : buildV ev ps p z = buildV ev' ps p z := by
  unfold buildV
  split
  · exact fillBy_congr _ _ e
  · rfl
theorem stepD_congr {C : Cfg} {F : Tk → Res} (o : Op) (e : ∀ x, x ∈ o.operands → ev x = ev' x) : stepD C F ev h o = stepD C F ev' h o := by
  cases o with
  | build t ps =>
    simp only [stepD]
    exact buildV_congr _ fun p hp => e p.2 (by simp only [Op.operands]; simpa using ⟨p.1, by simpa using hp⟩)
  | buildSlice t n ps =>
    simp only [stepD]
    split
    · rw [pieces_congr ps.toList 0 fun p hp => e p.2 (by simp only [Op.operands]; simpa using ⟨p.1, by simpa using hp⟩)]
    · rfl
  | makeFunc f first captured =>
    cases f with
    | func g =>
      simp only [stepD]
      rw [evs_congr (ev := ev) (ev' := ev') captured.toList fun x hx => e x (by simp only [Op.operands]; simp; exact .inr (by simpa using hx))]
    | _ => rfl
  | slice t x lo hi mx =>
    cases mx with
    | none =>
      simp only [stepD]
      rw [e x (by simp [Op.operands]), evo_congr lo fun y hy => e y (by subst hy; simp [Op.operands]), evo_congr hi fun y hy => e y (by subst hy; simp [Op.operands])]
    | some _ => rfl
  | call c =>
    have hargs : evs ev c.args.toList = evs ev' c.args.toList := evs_congr _ fun x hx => e x (by simp only [Op.operands, Call.operands]; simp; exact .inr (by simpa using hx))
    simp only [stepD, callOpD, hargs]
    split
    · rename_i f hc
      rw [e f (by simp [Op.operands, Call.operands, hc])]
    · rfl
    · rfl
  | binOp op t x y t' =>
    simp only [stepD]
    rw [e x (by simp [Op.operands]), e y (by simp [Op.operands])]
  | pick c a b =>
    simp only [stepD]
    rw [e c (by simp [Op.operands]), e a (by simp [Op.operands]), e b (by simp [Op.operands])]
  | indexAddr t x i => simp only [stepD]; rw [e x (by simp [Op.operands]), e i (by simp [Op.operands])]
  | index t x i => simp only [stepD]; rw [e x (by simp [Op.operands]), e i (by simp [Op.operands])]
  | lookup t x i ok => simp only [stepD]; rw [e x (by simp [Op.operands]), e i (by simp [Op.operands])]
  | move x => simp only [stepD]; rw [e x (by simp [Op.operands])]
  | assign x => simp only [stepD]; rw [e x (by simp [Op.operands])]
  | load t x => simp only [stepD]; rw [e x (by simp [Op.operands])]
  | nilCheck x => simp only [stepD]; rw [e x (by simp [Op.operands])]
  | unOp op t x => simp only [stepD]; rw [e x (by simp [Op.operands])]
  | convert s t x => simp only [stepD]; rw [e x (by simp [Op.operands])]
  | makeInterface t x => simp only [stepD]; rw [e x (by simp [Op.operands])]
  | fieldAddr t x f => simp only [stepD]; rw [e x (by simp [Op.operands])]
  | field t x f => simp only [stepD]; rw [e x (by simp [Op.operands])]
  | extract x i => simp only [stepD]; rw [e x (by simp [Op.operands])]
  | _ => rfl
theorem stepO_congr {C : Cfg} {F : Tk → Res} (o : Op) (e : ∀ x, x ∈ o.operands → ev x = ev' x) : stepO C F ev h o = stepO C F ev' h o := by
  have hd := stepD_congr (C := C) (F := F) (h := h) o e
  cases o with
  | alloc t => rfl
  | box t x => simp only [stepO]; rw [e x (by simp [Op.operands])]
  | store t a v => simp only [stepO]; rw [e a (by simp [Op.operands]), e v (by simp [Op.operands])]
  | makeSlice t n m => simp only [stepO]; rw [e n (by simp [Op.operands]), e m (by simp [Op.operands])]
  | makeMap t r => cases r <;> rfl
  | mapUpdate t m k v => simp only [stepO]; rw [e m (by simp [Op.operands]), e k (by simp [Op.operands]), e v (by simp [Op.operands])]
  | insert t m k v => simp only [stepO]; rw [e m (by simp [Op.operands]), e k (by simp [Op.operands]), e v (by simp [Op.operands])]
  | call c =>
    have hargs : evs ev c.args.toList = evs ev' c.args.toList := evs_congr _ fun x hx => e x (by simp only [Op.operands, Call.operands]; simp; exact .inr (by simpa using hx))
    simp only [stepO, callOp, hargs]
    split
    · rename_i f hc
      rw [e f (by simp [Op.operands, Call.operands, hc])]
    · rfl
    · rfl
    · rfl
  | _ => simpa only [stepO] using congrArg (val h) hd
theorem stepA_congr {C : Cfg} {l : Nat} (o : Op) (e : ∀ x, x ∈ o.operands → ev x = ev' x) : stepA C ev h l o = stepA C ev' h l o := by
  cases o with
  | box t x => simp only [stepA]; rw [e x (by simp [Op.operands])]
  | _ => rfl
theorem touches_congr (o : Op) (e : ∀ x, x ∈ o.operands → ev x = ev' x) : touches ev h o = touches ev' h o := by
  cases o with
  | store t a v => simp only [touches]; rw [e a (by simp [Op.operands])]
  | mapUpdate t m k v => simp only [touches]; rw [e m (by simp [Op.operands])]
  | insert t m k v => simp only [touches]; rw [e m (by simp [Op.operands])]
  | call c =>
    have hargs : evs ev c.args.toList = evs ev' c.args.toList := evs_congr _ fun x hx => e x (by simp only [Op.operands, Call.operands]; simp; exact .inr (by simpa using hx))
    simp only [touches, hargs]
    split
    · rename_i f hc
      rw [e f (by simp [Op.operands, Call.operands, hc])]
    · rfl
  | _ => rfl
end
section
variable {Bs : World → Prop}
def evF (g : Nat → AV) : Operand → AV
  | .tmp t => g t
  | .const v => ofVal v
  | .func f => .fn f []
  | .global _ => .any
theorem ev_evF (fr : Fr) : ev fr = evF (get fr) := by funext x; cases x <;> rfl
def updF (g : Nat → AV) : Option Nat → AV → Nat → AV
  | some d, v => fun i => if d = i then v else g i
  | none, _ => g
theorem get_put (fr : Fr) (d : Option Nat) (v : AV) : get (put fr d v) = updF (get fr) d v := by
  cases d with
  | none => rfl
  | some d => funext i; rfl
theorem updF_other {g : Nat → AV} {d : Option Nat} {v : AV} {s : Nat} (h : d ≠ some s) : updF g d v s = g s := by
  cases d with
  | none => rfl
  | some d =>
    have : d ≠ s := fun e => h (by rw [e])
    simp [updF, this]
theorem updF_comm {g : Nat → AV} {d e : Option Nat} {v u : AV} (h : ∀ s, d = some s → e ≠ some s) : updF (updF g d v) e u = updF (updF g e u) d v := by
  cases d with
  | none => rfl
  | some d =>
    cases e with
    | none => rfl
    | some e =>
      have hne : d ≠ e := fun x => h d rfl (by rw [x])
      funext i
      simp only [updF]
      by_cases h1 : d = i
      · subst h1
        have : ¬ e = d := fun x => hne x.symm
        simp [this]
      · simp [h1]
def slotF (g : Nat → AV) : Option Nat → AV
  | some d => g d
  | none => .any
theorem slot_eq (fr : Fr) (d : Option Nat) : getO fr d = slotF (get fr) d := by cases d <;> rfl
def guardF (ops : Array Oper) (g : Nat → AV) (o : Oper) : Option Bool :=
  match o.guard with
  | none => some true
  | some (j, want) => match slotF g (slotOf ops.toList j) with
    | .bool b => some (decide (b = want))
    | .tup [] => some false
    | _ => none
def stepI (C : Cfg) (F : Tk → Res) (dy : List (Nat × Nat)) (pl : Nat → Nat) (ops : Array Oper) (i : Nat) (g : Nat → AV) (h : Heap) : Option (AV × Heap × List Nat) :=
  match ops[i]? with
  | none => none
  | some o => match guardF ops g o with
    | some true => match stepQ C F dy pl i (evF g) h o.op with
      | some (x, h') => some (x, h', touchesQ dy i (evF g) h o.op)
      | none => none
    | some false => some (.tup [], h, [])
    | none => none
end
section
variable {Bs : World → Prop}
variable {C : Cfg} {F : Tk → Res} {dy : List (Nat × Nat)} {pl : Nat → Nat} {ops : Array Oper} {i : Nat} {o : Oper} {g g' : Nat → AV} {h h' : Heap} {x : AV} {T : List Nat}
theorem evF_congr (e : ∀ t, t ∈ o.looksAt ops → g t = g' t) : ∀ y, y ∈ o.op.operands → evF g y = evF g' y := fun y hy => by
  cases y with
  | tmp t => exact e t (List.mem_append_left _ (List.mem_filterMap.2 ⟨.tmp t, by simpa using hy, rfl⟩))
  | _ => rfl
theorem guardF_congr (e : ∀ t, t ∈ o.looksAt ops → g t = g' t) : guardF ops g o = guardF ops g' o := by
  unfold guardF
  cases hg : o.guard with
  | none => rfl
  | some jw =>
    obtain ⟨j, want⟩ := jw
    have : slotF g (slotOf ops.toList j) = slotF g' (slotOf ops.toList j) := by
      unfold slotOf
      simp only [Array.getElem?_toList]
      cases hj : ops[j]? with
      | none => rfl
      | some oj =>
        simp only
        cases hd : oj.dst with
        | none => rfl
        | some d => exact e d (List.mem_append_right _ (by simp [hg, hj, hd]))
    simp only [this]
theorem stepQ_congr (e : ∀ t, t ∈ o.looksAt ops → g t = g' t) : stepQ C F dy pl i (evF g) h o.op = stepQ C F dy pl i (evF g') h o.op := by
  unfold stepQ
  rw [stepD_congr _ (evF_congr e), stepO_congr _ (evF_congr e), stepA_congr _ (evF_congr e)]
theorem stepI_congr (ho : ops[i]? = some o) (e : ∀ t, t ∈ o.looksAt ops → g t = g' t) : stepI C F dy pl ops i g h = stepI C F dy pl ops i g' h := by
  unfold stepI touchesQ
  simp only [ho]
  rw [guardF_congr e, stepQ_congr e, touches_congr _ (evF_congr e)]
theorem stepI_quiet (ho : ops[i]? = some o) (hq : isQ dy i o.op = true) (e : stepI C F dy pl ops i g h = some (x, h', T)) : h' = h ∧ T = [] := by
  unfold stepI at e
  simp only [ho] at e
  split at e
  · unfold stepQ touchesQ at e
    simp only [hq, if_true] at e
    cases hd : stepD C F (evF g) h o.op with
    | none => simp [hd, val] at e
    | some v =>
      simp only [hd, val, Option.some.injEq, Prod.mk.injEq] at e
      exact ⟨e.2.1.symm, e.2.2.symm⟩
  · simp only [Option.some.injEq, Prod.mk.injEq] at e
    exact ⟨e.2.1.symm, e.2.2.symm⟩
  · simp at e
mutual
theorem PRep.no_locs {M : Nat → Nat → Prop} {w : World} : ∀ (a : AV) (v : Value), PRep M w a v → locs a = []
  | .agg cs, _, r => by obtain ⟨vs, _, r⟩ := r; exact PRepL.no_locs cs vs r
  | .tup cs, _, r => by obtain ⟨vs, _, r⟩ := r; exact PRepL.no_locs cs vs r
  | .fn _ cs, _, r => by obtain ⟨vs, _, r⟩ := r; exact PRepL.no_locs cs vs r
  | .iface _ a, _, r => by obtain ⟨y, _, r⟩ := r; exact PRep.no_locs a y r
  | .ptr _ _, _, r => r.elim
  | .own _ _, _, r => r.elim
  | .optr _ _ _ _, _, r => r.elim
  | .mp _, _, r => r.elim
  | .tptr _ _ _, _, r => r.elim
  | .town _ _ _, _, r => r.elim
  | .int _ _, _, _ => rfl
  | .bool _, _, _ => rfl
  | .str _, _, _ => rfl
  | .nilp, _, _ => rfl
  | .nilf, _, _ => rfl
  | .nili, _, _ => rfl
  | .nilm, _, _ => rfl
  | .nils, _, _ => rfl
  | .rows _, _, _ => rfl
  | .lit _, _, _ => rfl
  | .rptr _ _, _, _ => rfl
  | .any, _, _ => rfl
theorem PRepL.no_locs {M : Nat → Nat → Prop} {w : World} : ∀ (l : List AV) (vs : List Value), PRepL M w l vs → locsL l = []
  | [], _, _ => rfl
  | a :: r, _, x => by
    obtain ⟨v, vr, _, h1, h2⟩ := x
    simp only [locsL]
    rw [PRep.no_locs a v h1, PRepL.no_locs r vr h2]
    rfl
end
theorem ofVal_locs (v : Value) : locs (ofVal v) = [] := PRep.no_locs (M := fun _ _ => True) (w := default) _ v (ofVal_rep v)
def readsT (o : Op) : List Nat := (readsO o).filterMap fun
  | .tmp t => some t
  | _ => none
theorem readsT_mem {o : Op} {t : Nat} (h : Operand.tmp t ∈ readsO o) : t ∈ readsT o := List.mem_filterMap.2 ⟨_, h, rfl⟩
theorem stepI_local (ho : ops[i]? = some o) (hq : isQ dy i o.op = true) (e : ∀ s, s ∈ readsT o.op → ∀ l, l ∈ locs (g s) → h[l]? = h'[l]?) (hs : stepI C F dy pl ops i g h = some (x, h, T)) : stepI C F dy pl ops i g h' = some (x, h', T) := by
  unfold stepI at hs ⊢
  simp only [ho] at hs ⊢
  cases hg : guardF ops g o with
  | none => simp [hg] at hs
  | some b =>
    cases b with
    | true =>
      simp only [hg] at hs ⊢
      unfold stepQ touchesQ at hs ⊢
      simp only [hq, if_true] at hs ⊢
      have : stepD C F (evF g) h o.op = stepD C F (evF g) h' o.op := stepD_local _ fun y hy l hl => by
        cases y with
        | tmp t => exact e t (readsT_mem hy) l hl
        | const v => rw [show evF g (.const v) = ofVal v from rfl, ofVal_locs] at hl; simp at hl
        | func f => simp [evF, locs, locsL] at hl
        | global _ => simp [evF, locs] at hl
      rw [← this]
      cases hd : stepD C F (evF g) h o.op with
      | none => simp [hd, val] at hs
      | some v =>
        simp only [hd, val, Option.some.injEq, Prod.mk.injEq] at hs
        simp only [val]
        rw [hs.1, hs.2.2]
    | false =>
      simp only [hg, Option.some.injEq, Prod.mk.injEq] at hs
      simp only
      rw [← hs.1, ← hs.2.2]
theorem stepA_spec {C : Cfg} {ev : Operand → AV} {h h' : Heap} {l : Nat} {o : Op} {x : AV} (e : stepA C ev h l o = some (x, h')) : ∃ b, h[l]? = some .hole ∧ h' = h.set l b ∧ ∀ h2 : Heap, h2[l]? = some .hole → stepA C ev h2 l o = some (x, h2.set l b) := by
  have core : ∀ {v : Option AV}, fill h l v = some (x, h') → ∃ b, h[l]? = some .hole ∧ h' = h.set l b ∧ ∀ h2 : Heap, h2[l]? = some .hole → fill h2 l v = some (x, h2.set l b) := by
    intro v e
    unfold fill at e
    split at e
    · split at e
      · rename_i a cs hcs hl
        simp only [Option.some.injEq, Prod.mk.injEq] at e
        obtain ⟨rfl, rfl⟩ := e
        exact ⟨.cells cs, hl, rfl, fun h2 hh => by simp only [fill, hcs, hh]⟩
      · simp at e
    · simp at e
  unfold stepA at e ⊢
  split at e
  · exact core e
  · exact core e
  · simp at e
theorem alo_noQ {dy : List (Nat × Nat)} {i : Nat} {o : Op} (h : alo o = true) : isQ dy i o = false := by
  unfold alo at h
  split at h
  · rfl
  · rfl
  · simp at h
theorem stepI_allo (ho : ops[i]? = some o) (ha : alo o.op = true) (e : stepI C F dy pl ops i g h = some (x, h', T)) :
    T = [] ∧ ((h' = h ∧ ∀ h2, stepI C F dy pl ops i g h2 = some (x, h2, [])) ∨ ∃ b, h[pl i]? = some .hole ∧ h' = h.set (pl i) b ∧ ∀ h2 : Heap, h2[pl i]? = some .hole → stepI C F dy pl ops i g h2 = some (x, h2.set (pl i) b, [])) := by
  have hT : touchesQ dy i (evF g) h o.op = [] := by
    unfold touchesQ
    split
    · rfl
    · unfold alo at ha
      split at ha
      · rename_i h1; rw [h1]; rfl
      · rename_i h1; rw [h1]; rfl
      · simp at ha
  have hT2 : ∀ h2, touchesQ dy i (evF g) h2 o.op = [] := fun h2 => by
    unfold touchesQ
    split
    · rfl
    · unfold alo at ha
      split at ha
      · rename_i h1; rw [h1]; rfl
      · rename_i h1; rw [h1]; rfl
      · simp at ha
  unfold stepI at e ⊢
  simp only [ho] at e ⊢
  cases hg : guardF ops g o with
  | none => simp [hg] at e
  | some b =>
    cases b with
    | false =>
      simp only [hg, Option.some.injEq, Prod.mk.injEq] at e
      obtain ⟨rfl, rfl, rfl⟩ := e
      exact ⟨rfl, .inl ⟨rfl, fun h2 => rfl⟩⟩
    | true =>
      simp only [hg] at e ⊢
      unfold stepQ at e ⊢
      simp only [alo_noQ ha, ha, if_true, Bool.false_eq_true, if_false, hT2] at e ⊢
      split at e
      · rename_i y h1 hs
        simp only [Option.some.injEq, Prod.mk.injEq] at e
        obtain ⟨rfl, rfl, rfl⟩ := e
        obtain ⟨b, h3, h4, h5⟩ := stepA_spec hs
        exact ⟨rfl, .inr ⟨b, h3, h4, fun h2 hh => by rw [h5 h2 hh]⟩⟩
      · simp at e
theorem stepI_away (e : stepI C F dy pl ops i g h = some (x, h', T)) : h.length ≤ h'.length ∧ ∀ l, l < h.length → l ∉ T → h[l]? ≠ some .hole → h'[l]? = h[l]? := by
  cases ho : ops[i]? with
  | none => simp [stepI, ho] at e
  | some o =>
    by_cases hq : isQ dy i o.op = true
    · obtain ⟨rfl, _⟩ := stepI_quiet ho hq e
      exact ⟨Nat.le_refl _, fun _ _ _ _ => rfl⟩
    · by_cases ha : alo o.op = true
      · obtain ⟨_, h1 | ⟨b, h1, h2, _⟩⟩ := stepI_allo ho ha e
        · obtain ⟨rfl, _⟩ := h1
          exact ⟨Nat.le_refl _, fun _ _ _ _ => rfl⟩
        · subst h2
          refine ⟨by simp, fun l hl _ hn => List.getElem?_set_ne fun e => ?_⟩
          subst e
          exact hn h1
      · unfold stepI at e
        simp only [ho] at e
        split at e
        · unfold stepQ touchesQ at e
          simp only [hq, ha] at e
          split at e
          · rename_i y h1 hs
            simp only [Option.some.injEq, Prod.mk.injEq] at e
            obtain ⟨rfl, rfl, rfl⟩ := e
            have := stepO_away _ (by simpa using hs)
            exact ⟨this.1, fun l h1 h2 _ => this.2 l h1 h2⟩
          · simp at e
        · simp only [Option.some.injEq, Prod.mk.injEq] at e
          obtain ⟨_, rfl, _⟩ := e
          exact ⟨Nat.le_refl _, fun _ _ _ _ => rfl⟩
        · simp at e
theorem stepI_alo (ho : ops[i]? = some o) (ha : alo o.op = true) (e : stepI C F dy pl ops i g h = some (x, h', T)) : T = [] := (stepI_allo ho ha e).1
end
section
variable {Bs : World → Prop}
def compat (dy : List (Nat × Nat)) (i j : Nat) (oi oj : Oper) : Bool :=
  if isQ dy i oi.op = true then (if isQ dy j oj.op = true then true else alo oj.op || (readsT oi.op).all fun s => dy.contains (j, s))
  else if isQ dy j oj.op = true then alo oi.op || (readsT oj.op).all fun s => dy.contains (i, s)
  else alo oi.op && alo oj.op
def bit (B : List (List Nat)) (j i : Nat) : Bool := (B.getD j []).contains i
structure Ordered (dy : List (Nat × Nat)) (ops : Array Oper) (B : List (List Nat)) : Prop where
  cert : ∀ (j : Nat) (o : Oper), ops[j]? = some o → ∀ i, bit B j i = true → ∃ e, e ∈ o.after ∧ Region.binds .any e = true ∧ (e.on = i ∨ bit B e.on i = true)
  pair : ∀ (i j : Nat) (oi oj : Oper), i < j → ops[i]? = some oi → ops[j]? = some oj → bit B j i = true ∨ (Oper.apart ops oi oj = true ∧ compat dy i j oi oj = true)
  dst : ∀ (i j : Nat) (oi oj : Oper) (d : Nat), ops[i]? = some oi → ops[j]? = some oj → oi.dst = some d → oj.dst = some d → i = j
  reads : ∀ (j : Nat) (o : Oper), ops[j]? = some o → ∀ s, s ∈ readsT o.op → ∀ (k : Nat) (ok : Oper), ops[k]? = some ok → ok.dst = some s → bit B j k = true
  lex : ∀ (j : Nat) (o : Oper), ops[j]? = some o → ∀ e, e ∈ o.after → Region.binds .any e = true → e.on < j
end
section
variable {Bs : World → Prop}
variable {μ : Mp Bs} {h : Heap} {w : World}
mutual
/-- No value names a place that is not filled yet. -/
theorem Rep.solid : ∀ (a : AV) (v : Value), Rep μ h w a v → ∀ l, l ∈ locs a → h[l]? ≠ some .hole
  | .agg cs, _, r, l, hl => by
    obtain ⟨vs, hv, r⟩ := r
    exact RepL.solid cs vs r l hl
  | .tup cs, _, r, l, hl => by
    obtain ⟨vs, hv, r⟩ := r
    exact RepL.solid cs vs r l hl
  | .fn _ cs, _, r, l, hl => by
    obtain ⟨vs, hv, r⟩ := r
    exact RepL.solid cs vs r l hl
  | .iface _ a, _, r, l, hl => by
    obtain ⟨x, hv, r⟩ := r
    exact Rep.solid a x r l hl
  | .ptr _ _, _, r, l, hl => by
    obtain ⟨cs, b, h1, _⟩ := r
    simp only [locs, List.mem_singleton] at hl
    subst hl
    rw [h1]; simp
  | .own _ _, _, r, l, hl => by
    obtain ⟨_, _, _, _, _, h1, _⟩ := r
    simp only [locs, List.mem_singleton] at hl
    subst hl
    rw [h1]; simp
  | .optr _ _ _ _, _, r, l, hl => by
    obtain ⟨_, _, _, _, h1, _⟩ := r
    simp only [locs, List.mem_singleton] at hl
    subst hl
    rw [h1]; simp
  | .mp _, _, r, l, hl => by
    obtain ⟨_, _, h1, _⟩ := r
    simp only [locs, List.mem_singleton] at hl
    subst hl
    rw [h1]; simp
  | .tptr _ _ _, _, r, l, hl => by
    obtain ⟨_, _, h1, _⟩ := r
    simp only [locs, List.mem_singleton] at hl
    subst hl
    rw [h1]; simp
  | .town _ _ _, _, r, l, hl => by
    obtain ⟨_, _, _, _, _, h1, _⟩ := r
    simp only [locs, List.mem_singleton] at hl
    subst hl
    rw [h1]; simp
  | .int _ _, _, _, _, hl => by simp [locs] at hl
  | .bool _, _, _, _, hl => by simp [locs] at hl
  | .str _, _, _, _, hl => by simp [locs] at hl
  | .nilp, _, _, _, hl => by simp [locs] at hl
  | .nilf, _, _, _, hl => by simp [locs] at hl
  | .nili, _, _, _, hl => by simp [locs] at hl
  | .nilm, _, _, _, hl => by simp [locs] at hl
  | .nils, _, _, _, hl => by simp [locs] at hl
  | .rows _, _, _, _, hl => by simp [locs] at hl
  | .lit _, _, _, _, hl => by simp [locs] at hl
  | .rptr _ _, _, _, _, hl => by simp [locs] at hl
  | .any, _, _, _, hl => by simp [locs] at hl
theorem RepL.solid : ∀ (c : List AV) (vs : List Value), RepL μ h w c vs → ∀ l, l ∈ locsL c → h[l]? ≠ some .hole
  | [], _, _, _, hl => by simp [locsL] at hl
  | a :: r, _, x, l, hl => by
    obtain ⟨v, vr, hv, h1, h2⟩ := x
    simp only [locsL, List.mem_append] at hl
    rcases hl with hl | hl
    · exact Rep.solid a v h1 l hl
    · exact RepL.solid r vr h2 l hl
end
end
section
variable {Bs : World → Prop}
variable {C : Cfg} {F : Tk → Res} {dy : List (Nat × Nat)} {pl : Nat → Nat} {ops : Array Oper} {B : List (List Nat)} {N : Nat}
def Real (Bs : World → Prop) (N : Nat) (g : Nat → AV) (h : Heap) : Prop := ∃ (μ : Mp Bs) (w : World) (t : Array Value), t.size = N ∧ Rel μ h w ∧ ∀ i, Rep μ h w (g i) (t.getD i undef)
theorem wp_extract {P : Program} {o : Oper} {a : Act} {w : World} {R : Prop} (h : o.wp P a w (fun _ _ => R) (fun _ _ _ => False)) : R := by
  unfold Oper.wp at h
  generalize (execOp a.eval o).run P w = r at h
  cases r with
  | ok n w' =>
    cases n with
    | value v => exact h
    | skip => exact h
    | defer d => exact h
    | enter f args =>
      obtain ⟨e, w'', fr, hR, _⟩ := h []
      cases e with
      | returned v => exact hR
      | panicked c => exact hR.elim
      | outgrown => obtain ⟨_, _, hf⟩ := hR; exact hf.elim
    | row row args =>
      obtain ⟨v, w'', hR, _⟩ := h (Frame.ofRow P row args .normal) []
      exact hR
    | _ => exact False.elim h
  | halt x w' => cases x <;> exact False.elim h
theorem stepQ_sound {a : Act} {o : Oper} {i : Nat} {ev : Operand → AV} {μ : Mp Bs} {h h' : Heap} {w : World} {x : AV} (hF : Knows Bs C.P F) (hr : Rel μ h w) (he : EvRep μ h w ev a.eval) (e : stepQ C F dy pl i ev h o.op = some (x, h')) : Goes C.P o a μ h w x h' := by
  unfold stepQ at e
  split at e
  · cases hd : stepD C F ev h o.op with
    | none => simp [hd, val] at e
    | some v =>
      simp only [hd, val, Option.some.injEq, Prod.mk.injEq] at e
      obtain ⟨rfl, rfl⟩ := e
      exact stepD_sound hF hr he hd
  · split at e
    · exact stepA_goes hr he e
    · exact stepO_sound hF hr he e
def FrG (μ : Mp Bs) (h : Heap) (w : World) (g : Nat → AV) (t : Array Value) : Prop := ∀ i, Rep μ h w (g i) (t.getD i undef)
theorem evG_rep {μ : Mp Bs} {h : Heap} {w : World} {g : Nat → AV} {a : Act} (hf : FrG μ h w g a.tmps) : EvRep μ h w (evF g) a.eval := fun y => by
  cases y with
  | tmp t => exact hf t
  | const v => exact Rep.pure _ _ (ofVal_rep v)
  | func f => exact ⟨[], rfl, rfl⟩
  | global g => trivial
theorem FrG.put {μ : Mp Bs} {h : Heap} {w : World} {g : Nat → AV} {a : Act} {d : Option Nat} {x : AV} {v : Value} (r : FrG μ h w g a.tmps) (hd : ∀ i, d = some i → i < a.tmps.size) (hx : Rep μ h w x v) : FrG μ h w (updF g d x) (a.put d v).tmps := by
  cases d with
  | none => exact r
  | some i =>
    intro j
    have hi := hd i rfl
    by_cases hij : i = j
    · subst hij
      simp only [updF, if_true, Act.put]
      simpa [Array.getD, hi] using hx
    · simp only [updF, if_neg hij, Act.put]
      have : (a.tmps.setIfInBounds i v).getD j undef = a.tmps.getD j undef := by
        simp only [Array.getD_eq_getD_getElem?]
        rw [Array.getElem?_setIfInBounds_ne hij]
      rw [this]
      exact r j
theorem FrG.ext {μ μ' : Mp Bs} {h h' : Heap} {w w' : World} (e : Ext μ h w μ' h' w') {g : Nat → AV} {t : Array Value} (r : FrG μ h w g t) : FrG μ' h' w' g t := fun i => Rep.ext e _ _ (r i)
theorem guard_wanted {μ : Mp Bs} {h : Heap} {w : World} {g : Nat → AV} {t : Array Value} {o : Oper} {b : Bool} (hf : FrG μ h w g t) (e : guardF ops g o = some b) : Region.wanted o (yielded ops t) = b := by
  unfold guardF at e
  unfold Region.wanted
  split at e
  · rename_i hg
    simp only [Option.some.injEq] at e
    subst e
    simp only [hg]
  · rename_i j want hg
    simp only [hg]
    have slot : ∀ {v : AV}, slotF g (slotOf ops.toList j) = v → v ≠ .any → ∃ oj d, ops[j]? = some oj ∧ oj.dst = some d ∧ g d = v := by
      intro v hv hne
      unfold slotOf at hv
      simp only [Array.getElem?_toList] at hv
      cases hj : ops[j]? with
      | none => simp [hj, slotF] at hv; exact absurd hv.symm hne
      | some oj =>
        simp only [hj] at hv
        cases hd : oj.dst with
        | none => simp [hd, slotF] at hv; exact absurd hv.symm hne
        | some d => simp only [hd, slotF] at hv; exact ⟨oj, d, rfl, hd, hv⟩
    split at e
    · rename_i c hc
      simp only [Option.some.injEq] at e
      subst e
      obtain ⟨oj, d, h1, h2, h3⟩ := slot hc (by simp)
      have h4 := hf d
      rw [h3] at h4
      have h5 : t.getD d undef = .bool c := h4
      have hy : yielded ops t j = some c := by
        unfold yielded
        rw [Array.getD_eq_getD_getElem?] at h5
        cases hv : t[d]? with
        | none => simp [hv, undef] at h5
        | some v =>
          simp only [hv, Option.getD_some] at h5
          subst h5
          simp [h1, h2, hv]
      rw [hy]
      cases c <;> cases want <;> rfl
    · rename_i hc
      simp only [Option.some.injEq] at e
      subst e
      obtain ⟨oj, d, h1, h2, h3⟩ := slot hc (by simp)
      have h4 := hf d
      rw [h3] at h4
      obtain ⟨vs, h5, h6⟩ := h4
      have h6' : vs = [] := h6
      subst h6'
      have hy : yielded ops t j = none := by
        unfold yielded
        rw [Array.getD_eq_getD_getElem?] at h5
        cases hv : t[d]? with
        | none => simp [h1, h2, hv]
        | some v =>
          simp only [hv, Option.getD_some] at h5
          subst h5
          simp [h1, h2, hv]
      rw [hy]
      rfl
    · simp at e
theorem stepI_wp {a : Act} {o : Oper} {i : Nat} {g : Nat → AV} {h h' : Heap} {μ : Mp Bs} {w : World} {x : AV} {T : List Nat} {Q : Exit → Act → World → Prop} {K : Act → World → Prop} (hF : Knows Bs C.P F) (ho : ops[i]? = some o)
    (hfit : ∀ d, o.dst = some d → d < a.tmps.size) (hr : Rel μ h w) (hf : FrG μ h w g a.tmps) (e : stepI C F dy pl ops i g h = some (x, h', T))
    (hK : ∀ v μ' w', Rel μ' h' w' → Ext μ h w μ' h' w' → FrG μ' h' w' (updF g o.dst x) (a.put o.dst v).tmps → K (a.put o.dst v) w') : wpOp C.P ops Q i K a w := by
  unfold stepI at e
  simp only [ho] at e
  unfold wpOp
  simp only [ho]
  cases hg : guardF ops g o with
  | none => simp [hg] at e
  | some b =>
    rw [guard_wanted hf hg]
    cases b with
    | true =>
      simp only [hg] at e
      split at e
      · rename_i y h1 hs
        simp only [Option.some.injEq, Prod.mk.injEq] at e
        obtain ⟨rfl, rfl, _⟩ := e
        refine .inl (stepQ_sound hF hr (evG_rep hf) hs _ _ ?_)
        intro v μ' w' q1 q2 q3
        exact hK v μ' w' q1 q2 ((hf.ext q2).put hfit q3)
      · simp at e
    | false =>
      simp only [hg, Option.some.injEq, Prod.mk.injEq] at e
      obtain ⟨rfl, rfl, _⟩ := e
      exact hK undef μ w hr (Ext.refl _ _ _) (hf.put hfit undef_rep)
theorem Real.step {i : Nat} {o : Oper} {g : Nat → AV} {h h' : Heap} {x : AV} {T : List Nat} (hF : Knows Bs C.P F) (ho : ops[i]? = some o) (hfit : OpsFit N ops) (r : Real Bs N g h) (e : stepI C F dy pl ops i g h = some (x, h', T)) : Real Bs N (updF g o.dst x) h' := by
  obtain ⟨μ, w, t, hN, hr, hf⟩ := r
  have := stepI_wp (Q := fun _ _ _ => False) (K := fun _ _ => Real Bs N (updF g o.dst x) h') (a := ⟨t, []⟩) hF ho (by rw [hN]; exact hfit i o ho) hr hf e
    (fun v μ' w' q1 q2 q3 => ⟨μ', w', _, by rw [act_put_size]; exact hN, q1, q3⟩)
  unfold wpOp at this
  simp only [ho] at this
  split at this
  · rcases this with h1 | ⟨_, _, _, h1⟩
    · exact wp_extract h1
    · exact h1.elim
  · exact this
theorem Real.solid {g : Nat → AV} {h : Heap} (r : Real Bs N g h) {s l : Nat} (hl : l ∈ locs (g s)) : h[l]? ≠ some .hole := by
  obtain ⟨μ, w, t, _, _, hf⟩ := r
  exact Rep.solid _ _ (hf s) l hl
theorem Real.lt {g : Nat → AV} {h : Heap} (r : Real Bs N g h) {s l : Nat} (hl : l ∈ locs (g s)) : l < h.length := by
  obtain ⟨μ, w, t, _, _, hf⟩ := r
  exact Rep.locs_lt _ _ (hf s) l hl
def Closed (B : List (List Nat)) (L : Array Bool) : Prop := ∀ k, L.getD k false = true → ∀ i, bit B k i = true → L.getD i false = true
theorem listed_not {L : Array Bool} {i : Nat} (h : L.getD i true = false) : L.getD i false = false := by
  rcases Nat.lt_or_ge i L.size with h' | h'
  · simp [h'] at h ⊢; exact h
  · simp [Array.getElem?_eq_none h'] at h
theorem ready_bits (hO : Ordered dy ops B) {L : Array Bool} (hc : Closed B L) {j i : Nat} (hj : j ∈ Region.ready .any ops L) (hb : bit B j i = true) : L.getD i false = true := by
  obtain ⟨_, o, ho, hall⟩ := mem_ready.1 hj
  obtain ⟨e, he, hbi, h⟩ := hO.cert j o ho i hb
  have hl := hall e he hbi
  rcases h with h | h
  · rw [← h]; exact hl
  · exact hc _ hl i h
theorem not_bit (hO : Ordered dy ops B) {L : Array Bool} (hc : Closed B L) {j i : Nat} (hj : j ∈ Region.ready .any ops L) (hi : i ∈ Region.ready .any ops L) : bit B j i = false := by
  cases hb : bit B j i with
  | false => rfl
  | true =>
    have h1 := ready_bits hO hc hj hb
    rw [listed_not (mem_ready.1 hi).1] at h1
    cases h1
theorem Closed.step (hO : Ordered dy ops B) {L : Array Bool} (hc : Closed B L) {j : Nat} (hj : j ∈ Region.ready .any ops L) : Closed B (L.setIfInBounds j true) := by
  intro k hk i hb
  by_cases hkj : j = k
  · subst hkj
    exact getD_set_true (ready_bits hO hc hj hb)
  · rw [getD_set_ne false hkj] at hk
    exact getD_set_true (hc k hk i hb)
theorem unordered (hO : Ordered dy ops B) {L : Array Bool} (hc : Closed B L) {i j : Nat} {oi oj : Oper} (hi : i ∈ Region.ready .any ops L) (hj : j ∈ Region.ready .any ops L) (hij : i ≠ j) (ho : ops[i]? = some oi) (ho' : ops[j]? = some oj) :
    (∀ d, oi.dst = some d → d ∉ oj.looksAt ops) ∧ (∀ d, oi.dst = some d → oj.dst ≠ some d) ∧ (∀ d, oj.dst = some d → d ∉ oi.looksAt ops) ∧ (compat dy i j oi oj = true ∨ compat dy j i oj oi = true) := by
  rcases Nat.lt_or_gt_of_ne hij with h | h
  · rcases hO.pair i j oi oj h ho ho' with h1 | ⟨h1, h2⟩
    · rw [not_bit hO hc hj hi] at h1; cases h1
    · obtain ⟨a1, a2, a3⟩ := Oper.apart_spec h1
      exact ⟨a1, a2, a3, .inl h2⟩
  · rcases hO.pair j i oj oi h ho' ho with h1 | ⟨h1, h2⟩
    · rw [not_bit hO hc hi hj] at h1; cases h1
    · obtain ⟨a1, a2, a3⟩ := Oper.apart_spec h1
      exact ⟨a3, fun d hd he => a2 d he hd, a1, .inr h2⟩
inductive Mix (dy : List (Nat × Nat)) (i j : Nat) (oi oj : Oper) : Prop where
  | both (h1 : isQ dy i oi.op = true) (h2 : isQ dy j oj.op = true)
  | left (h1 : isQ dy i oi.op = true) (h2 : alo oj.op = true ∨ ∀ s, s ∈ readsT oi.op → (j, s) ∈ dy)
  | right (h1 : isQ dy j oj.op = true) (h2 : alo oi.op = true ∨ ∀ s, s ∈ readsT oj.op → (i, s) ∈ dy)
  | makes (h1 : alo oi.op = true) (h2 : alo oj.op = true)
theorem mix_of {i j : Nat} {oi oj : Oper} (h : compat dy i j oi oj = true) : Mix dy i j oi oj := by
  unfold compat at h
  split at h
  · rename_i h1
    split at h
    · rename_i h2; exact .both h1 h2
    · simp only [Bool.or_eq_true, List.all_eq_true, List.contains_iff_mem] at h
      exact .left h1 h
  · split at h
    · rename_i h2
      simp only [Bool.or_eq_true, List.all_eq_true, List.contains_iff_mem] at h
      exact .right h2 h
    · simp only [Bool.and_eq_true] at h
      exact .makes h.1 h.2
theorem Mix.swap {i j : Nat} {oi oj : Oper} (h : Mix dy i j oi oj) : Mix dy j i oj oi := by
  cases h with
  | both h1 h2 => exact .both h2 h1
  | left h1 h2 => exact .right h1 h2
  | right h1 h2 => exact .left h1 h2
  | makes h1 h2 => exact .makes h2 h1
def PlInj (pl : Nat → Nat) (ops : Array Oper) : Prop := ∀ (i j : Nat) (oi oj : Oper), ops[i]? = some oi → ops[j]? = some oj → alo oi.op = true → alo oj.op = true → i ≠ j → pl i ≠ pl j
theorem diamond {i j : Nat} (hpl : PlInj pl ops) (hij : i ≠ j) {oi oj : Oper} {g : Nat → AV} {h h' h'' : Heap} {x y : AV} {T T' : List Nat} (ho : ops[i]? = some oi) (ho' : ops[j]? = some oj)
    (a1 : ∀ d, oi.dst = some d → d ∉ oj.looksAt ops) (a3 : ∀ d, oj.dst = some d → d ∉ oi.looksAt ops) (hm : Mix dy i j oi oj) (hr : Real Bs N g h)
    (h1 : stepI C F dy pl ops i g h = some (x, h', T)) (h2 : stepI C F dy pl ops j (updF g oi.dst x) h' = some (y, h'', T'))
    (ci : ∀ s, (i, s) ∈ dy → s ∈ readsT oj.op → ∀ l, l ∈ locs (g s) → l ∉ T) (cj : ∀ s, (j, s) ∈ dy → s ∈ readsT oi.op → ∀ l, l ∈ locs (g s) → l ∉ T') :
    ∃ h2, stepI C F dy pl ops j g h = some (y, h2, T') ∧ stepI C F dy pl ops i (updF g oj.dst y) h2 = some (x, h'', T) := by
  have fj : ∀ h, stepI C F dy pl ops j (updF g oi.dst x) h = stepI C F dy pl ops j g h := fun h => stepI_congr ho' fun t ht => updF_other fun e => a1 t e ht
  have fi : ∀ h, stepI C F dy pl ops i (updF g oj.dst y) h = stepI C F dy pl ops i g h := fun h => stepI_congr ho fun t ht => updF_other fun e => a3 t e ht
  rw [fj] at h2
  have case1 : isQ dy i oi.op = true → (isQ dy j oj.op = true ∨ alo oj.op = true ∨ ∀ s, s ∈ readsT oi.op → (j, s) ∈ dy) → ∃ h2, stepI C F dy pl ops j g h = some (y, h2, T') ∧ stepI C F dy pl ops i (updF g oj.dst y) h2 = some (x, h'', T) := by
    intro q hc
    obtain ⟨rfl, rfl⟩ := stepI_quiet ho q h1
    refine ⟨h'', h2, ?_⟩
    rw [fi]
    rcases hc with q' | hc
    · obtain ⟨rfl, rfl⟩ := stepI_quiet ho' q' h2
      exact h1
    · refine stepI_local ho q (fun s hs l hl => ?_) h1
      refine ((stepI_away h2).2 l (hr.lt hl) ?_ (hr.solid hl)).symm
      rcases hc with hc | hc
      · rw [stepI_alo ho' hc h2]; simp
      · exact cj s (hc s hs) hs l hl
  cases hm with
  | both q q' => exact case1 q (.inl q')
  | left q hc => exact case1 q (.inr hc)
  | right q hc =>
    obtain ⟨rfl, rfl⟩ := stepI_quiet ho' q h2
    have h3 : stepI C F dy pl ops j g h = some (y, h, []) := by
      refine stepI_local ho' q (fun s hs l hl => ?_) h2
      refine (stepI_away h1).2 l (hr.lt hl) ?_ (hr.solid hl)
      rcases hc with hc | hc
      · rw [stepI_alo ho hc h1]; simp
      · exact ci s (hc s hs) hs l hl
    exact ⟨h, h3, by rw [fi]; exact h1⟩
  | makes ai aj =>
    obtain ⟨rfl, c1⟩ := stepI_allo ho ai h1
    obtain ⟨rfl, c2⟩ := stepI_allo ho' aj h2
    have hne := hpl i j oi oj ho ho' ai aj hij
    rcases c1 with ⟨rfl, s1⟩ | ⟨b1, p1, rfl, s1⟩
    · exact ⟨h'', h2, by rw [fi]; exact s1 _⟩
    · rcases c2 with ⟨rfl, s2⟩ | ⟨b2, p2, rfl, s2⟩
      · exact ⟨h, s2 h, by rw [fi]; exact h1⟩
      · rw [List.getElem?_set_ne hne] at p2
        refine ⟨h.set (pl j) b2, s2 h p2, ?_⟩
        rw [fi, s1 _ (by rw [List.getElem?_set_ne (fun e => hne e.symm)]; exact p1), List.set_comm _ _ (fun e => hne e.symm)]
def ClearG (dy : List (Nat × Nat)) (i : Nat) (G : Nat → AV) (T : List Nat) : Prop := ∀ s, (i, s) ∈ dy → ∀ l, l ∈ locs (G s) → l ∉ T
def aAny (C : Cfg) (F : Tk → Res) (dy : List (Nat × Nat)) (pl : Nat → Nat) (ops : Array Oper) (G : Nat → AV) (H : Heap) : Nat → Array Bool → (Nat → AV) → Heap → Prop
  | 0, L, g, h => Region.ready .any ops L = [] ∧ g = G ∧ h = H
  | n + 1, L, g, h => (Region.ready .any ops L = [] → g = G ∧ h = H) ∧ ∀ i, i ∈ Region.ready .any ops L → ∀ o, ops[i]? = some o →
      ∃ x h' T, stepI C F dy pl ops i g h = some (x, h', T) ∧ ClearG dy i G T ∧ aAny C F dy pl ops G H n (L.setIfInBounds i true) (updF g o.dst x) h'
theorem aAny_keep {G : Nat → AV} {H : Heap} {s : Nat} : ∀ (n : Nat) (L : Array Bool) (g : Nat → AV) (h : Heap), aAny C F dy pl ops G H n L g h → (∀ (k : Nat) (o : Oper), ops[k]? = some o → o.dst = some s → L.getD k true = true) → G s = g s
  | 0, L, g, h, ha, _ => by rw [ha.2.1]
  | n + 1, L, g, h, ha, hs => by
    by_cases hr : Region.ready .any ops L = []
    · rw [(ha.1 hr).1]
    · obtain ⟨i, hi⟩ : ∃ i, i ∈ Region.ready .any ops L := by
        cases hl : Region.ready .any ops L with
        | nil => exact absurd hl hr
        | cons i r => exact ⟨i, by simp⟩
      obtain ⟨h0, o, ho, _⟩ := mem_ready.1 hi
      obtain ⟨x, h', T, _, _, h3⟩ := ha.2 i hi o ho
      have := aAny_keep n _ _ _ h3 fun k ok hk hd => by
        by_cases hik : i = k
        · subst hik
          rcases Nat.lt_or_ge i L.size with h' | h'
          · simp [h']
          · simp [Array.getElem?_eq_none h']
        · rw [getD_set_ne true hik]; exact hs k ok hk hd
      rw [this]
      refine updF_other fun e => ?_
      have := hs i o ho e
      rw [h0] at this
      cases this
theorem slots_done (hO : Ordered dy ops B) {L : Array Bool} (hc : Closed B L) {j : Nat} {oj : Oper} (hj : j ∈ Region.ready .any ops L) (ho : ops[j]? = some oj) {s : Nat} (hs : s ∈ readsT oj.op) :
    ∀ (k : Nat) (o : Oper), ops[k]? = some o → o.dst = some s → L.getD k true = true := fun k o hk hd => by
  have h1 := ready_bits hO hc hj (hO.reads j oj ho s hs k o hk hd)
  rcases Nat.lt_or_ge k L.size with h' | h'
  · simp [h'] at h1 ⊢; exact h1
  · simp [Array.getElem?_eq_none h'] at h1
theorem aAny_first (hF : Knows Bs C.P F) (hpl : PlInj pl ops) (hO : Ordered dy ops B) (hfit : OpsFit N ops) {G : Nat → AV} {H : Heap} {i : Nat} {oi : Oper} (ho : ops[i]? = some oi) :
    ∀ (n : Nat) (L : Array Bool) (g : Nat → AV) (h h' : Heap) (x : AV) (T : List Nat), i ∈ Region.ready .any ops L → Closed B L → Real Bs N g h → stepI C F dy pl ops i g h = some (x, h', T) → ClearG dy i G T →
      aAny C F dy pl ops G H n (L.setIfInBounds i true) (updF g oi.dst x) h' → aAny C F dy pl ops G H (n + 1) L g h := by
  intro n
  induction n with
  | zero =>
    intro L g h h' x T hi hc hr hs hcl ha
    refine ⟨fun e => by rw [e] at hi; simp at hi, fun j hj oj hoj => ?_⟩
    by_cases hji : j = i
    · subst hji
      rw [ho] at hoj
      simp only [Option.some.injEq] at hoj
      subst hoj
      exact ⟨x, h', T, hs, hcl, ha⟩
    · have := ready_mono hj hji
      rw [ha.1] at this
      simp at this
  | succ n ih =>
    intro L g h h' x T hi hc hr hs hcl ha
    refine ⟨fun e => by rw [e] at hi; simp at hi, fun j hj oj hoj => ?_⟩
    by_cases hji : j = i
    · subst hji
      rw [ho] at hoj
      simp only [Option.some.injEq] at hoj
      subst hoj
      exact ⟨x, h', T, hs, hcl, ha⟩
    · obtain ⟨y, h'', T', h1, h2, h3⟩ := ha.2 j (ready_mono hj hji) oj hoj
      obtain ⟨a1, a2, a3, hm⟩ := unordered hO hc hi hj (fun e => hji e.symm) ho hoj
      have hmix : Mix dy i j oi oj := hm.elim mix_of fun hm => (mix_of hm).swap
      have keep : ∀ {k : Nat} {ok : Oper}, k ∈ Region.ready .any ops L → ops[k]? = some ok → ∀ s, s ∈ readsT ok.op → G s = g s := fun {k ok} hk hok s hsr => by
        have hd := slots_done hO hc hk hok hsr
        have h4 := aAny_keep (n + 1) _ _ _ ha (s := s) fun q o hq hqd => by
          by_cases hiq : i = q
          · subst hiq
            rcases Nat.lt_or_ge i L.size with h' | h'
            · simp [h']
            · simp [Array.getElem?_eq_none h']
          · rw [getD_set_ne true hiq]; exact hd q o hq hqd
        rw [h4]
        refine updF_other fun e => ?_
        have := hd i oi ho e
        rw [(mem_ready.1 hi).1] at this
        cases this
      obtain ⟨h4, h5, h6⟩ := diamond hpl (fun e => hji e.symm) ho hoj a1 a3 hmix hr hs h1
        (fun s hsd hsr l hl => hcl s hsd l (by rw [keep hj hoj s hsr]; exact hl)) (fun s hsd hsr l hl => h2 s hsd l (by rw [keep hi ho s hsr]; exact hl))
      refine ⟨y, h4, T', h5, h2, ih (L.setIfInBounds j true) _ h4 h'' x T (ready_mono hi (fun e => hji e.symm)) (hc.step hO hj) (hr.step hF hoj hfit h5) h6 hcl ?_⟩
      rw [Array.setIfInBounds_comm _ _ hji, updF_comm (g := g) (d := oj.dst) (e := oi.dst) fun s hsd he => a2 s he hsd]
      exact h3
theorem any_wp (hF : Knows Bs C.P F) {G : Nat → AV} {H : Heap} {Q : Exit → Act → World → Prop} : ∀ (n : Nat) (L : Array Bool) (g : Nat → AV) (h : Heap) (a : Act) (μ : Mp Bs) (w : World),
    aAny C F dy pl ops G H n L g h → OpsFit a.tmps.size ops → Rel μ h w → FrG μ h w g a.tmps →
    (∀ a' μ' w', Rel μ' H w' → Ext μ h w μ' H w' → FrG μ' H w' G a'.tmps → a'.tmps.size = a.tmps.size → a'.defers = a.defers → Q .normal a' w') → wpAny C.P .any ops Q n L a w
  | 0, L, g, h, a, μ, w, ha, _, hr, hf, hQ => by
    obtain ⟨h1, rfl, rfl⟩ := ha
    exact ⟨h1, hQ a μ w hr (Ext.refl _ _ _) hf rfl rfl⟩
  | n + 1, L, g, h, a, μ, w, ha, hfit, hr, hf, hQ => by
    refine ⟨fun e => ?_, fun i hi => ?_⟩
    · obtain ⟨rfl, rfl⟩ := ha.1 e
      exact hQ a μ w hr (Ext.refl _ _ _) hf rfl rfl
    · obtain ⟨_, o, ho, _⟩ := mem_ready.1 hi
      obtain ⟨x, h', T, h1, _, h3⟩ := ha.2 i hi o ho
      refine stepI_wp hF ho (hfit i o ho) hr hf h1 ?_
      intro v μ' w' q1 q2 q3
      refine any_wp hF n _ _ h' (a.put o.dst v) μ' w' h3 (by rw [act_put_size]; exact hfit) q1 q3 ?_
      intro a' μ2 w2 p1 p2 p3 p4 p5
      exact hQ a' μ2 w2 p1 (q2.trans p2) p3 (by rw [p4, act_put_size]) (by rw [p5, act_put_defers])
def upTo (N : Nat) (k : Nat) : Array Bool := ((List.range N).map fun i => decide (i < k)).toArray
theorem upTo_get {M k i : Nat} (d : Bool) (h : i < M) : (upTo M k).getD i d = decide (i < k) := by
  simp [upTo, h]
theorem upTo_zero (M : Nat) : upTo M 0 = Array.replicate M false := by
  apply Array.ext
  · simp [upTo]
  · intro i h1 h2; simp [upTo]
theorem upTo_step {M k : Nat} : (upTo M k).setIfInBounds k true = upTo M (k + 1) := by
  apply Array.ext
  · simp [upTo]
  · intro i h1 h2
    have hi : i < M := by simpa [upTo] using h2
    by_cases hik : k = i
    · subst hik
      simp [upTo]
    · rw [Array.getElem_setIfInBounds_ne (by simpa [upTo] using hi) hik]
      simp [upTo]
      omega
theorem ready_lex (hO : Ordered dy ops B) {k : Nat} {o : Oper} (ho : ops[k]? = some o) : k ∈ Region.ready .any ops (upTo ops.size k) := by
  have hk : k < ops.size := (Array.getElem?_eq_some_iff.1 ho).1
  refine mem_ready.2 ⟨by rw [upTo_get _ hk]; simp, o, ho, fun e he hb => ?_⟩
  have := hO.lex k o ho e he hb
  rw [upTo_get _ (by omega)]
  simpa using this
theorem ready_end {k : Nat} (hk : ops.size ≤ k) : Region.ready .any ops (upTo ops.size k) = [] := by
  apply List.eq_nil_iff_forall_not_mem.2
  intro i hi
  obtain ⟨h1, o, ho, _⟩ := mem_ready.1 hi
  have hlt : i < ops.size := (Array.getElem?_eq_some_iff.1 ho).1
  rw [upTo_get _ hlt] at h1
  simp at h1
  omega
theorem closed_lex (hO : Ordered dy ops B) : ∀ k, k ≤ ops.size → Closed B (upTo ops.size k)
  | 0, _ => fun i hi => by
    exfalso
    rcases Nat.lt_or_ge i ops.size with h' | h'
    · rw [upTo_get _ h'] at hi; simp at hi
    · have : (upTo ops.size 0).size ≤ i := by simpa [upTo] using h'
      simp [Array.getElem?_eq_none this] at hi
  | k + 1, hk => by
    rw [← upTo_step]
    exact (closed_lex hO k (by omega)).step hO (ready_lex hO (Array.getElem?_eq_getElem (by omega)))
theorem clears_spec {fr : Fr} {T : List Nat} {i : Nat} : ∀ {d : List (Nat × Nat)}, clears d i fr T = true → ClearG d i (get fr) T
  | [], _, s, hs, _, _ => by simp at hs
  | (j, s') :: r, e, s, hs, l, hl => by
    simp only [clears, Bool.and_eq_true] at e
    rcases List.mem_cons.1 hs with h | h
    · simp only [Prod.mk.injEq] at h
      obtain ⟨rfl, rfl⟩ := h
      have e1 := e.1
      simp only [if_true, Bool.not_eq_true', List.any_eq_false, List.contains_iff_mem] at e1
      exact e1 l hl
    · exact clears_spec e.2 s h l hl
theorem lex_any (hF : Knows Bs C.P F) (hpl : PlInj pl ops) (hO : Ordered dy ops B) (hfit : OpsFit N ops) {G : Fr} {H : Heap} : ∀ (rest : List Oper) (k : Nat) (fr : Fr) (h : Heap) (l : List (Nat × List Nat)),
    ops.toList.drop k = rest → k ≤ ops.size → Real Bs N (get fr) h → aOpsD C F dy pl ops.toList k rest fr h = some (G, H, l) → clearAll dy G l = true → aAny C F dy pl ops (get G) H (ops.size - k) (upTo ops.size k) (get fr) h
  | [], k, fr, h, l, hd, hk, hr, e, hcl => by
    have hn : ops.size ≤ k := by
      have := congrArg List.length hd
      simp at this
      omega
    have : ops.size - k = 0 := by omega
    rw [this]
    simp only [aOpsD, Option.some.injEq, Prod.mk.injEq] at e
    obtain ⟨rfl, rfl, _⟩ := e
    exact ⟨ready_end hn, rfl, rfl⟩
  | o :: rest, k, fr, h, l, hd, hk, hr, e, hcl => by
    have hlt : k < ops.size := by
      have := congrArg List.length hd
      simp at this
      omega
    have ho : ops[k]? = some o := by
      have := congrArg (fun l => l[0]?) hd
      simp only [List.getElem?_drop, Nat.add_zero, List.getElem?_cons_zero, Array.getElem?_toList] at this
      exact this
    have hd' : ops.toList.drop (k + 1) = rest := by
      have := congrArg List.tail hd
      simpa [List.tail_drop] using this
    have hsz : ops.size - k = (ops.size - (k + 1)) + 1 := by omega
    rw [hsz]
    have step : ∀ {x : AV} {h' : Heap} {T : List Nat} {l' : List (Nat × List Nat)}, stepI C F dy pl ops k (get fr) h = some (x, h', T) → aOpsD C F dy pl ops.toList (k + 1) rest (put fr o.dst x) h' = some (G, H, l') → clearAll dy G l' = true → ClearG dy k (get G) T →
        aAny C F dy pl ops (get G) H (ops.size - (k + 1) + 1) (upTo ops.size k) (get fr) h := by
      intro x h' T l' hs hn hcl' hc
      refine aAny_first hF hpl hO hfit ho _ _ _ _ h' x T (ready_lex hO ho) (closed_lex hO k hk) hr hs hc ?_
      rw [upTo_step, ← get_put]
      refine lex_any hF hpl hO hfit rest (k + 1) _ h' l' hd' hlt ?_ hn hcl'
      rw [get_put]
      exact hr.step hF ho hfit hs
    have go : ∀ (hg : guardF ops (get fr) o = some true), (match stepQ C F dy pl k (ev fr) h o.op with
        | some (v, h') => match aOpsD C F dy pl ops.toList (k + 1) rest (put fr o.dst v) h' with
          | some (fr', h'', l) => some (fr', h'', (k, touchesQ dy k (ev fr) h o.op) :: l)
          | none => none
        | none => none) = some (G, H, l) → aAny C F dy pl ops (get G) H (ops.size - (k + 1) + 1) (upTo ops.size k) (get fr) h := by
      intro hg e
      split at e
      · rename_i v h' hs
        split at e
        · rename_i fr' h'' l' hn
          simp only [Option.some.injEq, Prod.mk.injEq] at e
          obtain ⟨rfl, rfl, rfl⟩ := e
          simp only [clearAll, Bool.and_eq_true] at hcl
          refine step (T := touchesQ dy k (ev fr) h o.op) ?_ hn hcl.2 (clears_spec hcl.1)
          rw [ev_evF] at hs ⊢
          unfold stepI
          simp only [ho, hg, hs]
        · simp at e
      · simp at e
    have skip : ∀ (hg : guardF ops (get fr) o = some false), aOpsD C F dy pl ops.toList (k + 1) rest (put fr o.dst (.tup [])) h = some (G, H, l) → aAny C F dy pl ops (get G) H (ops.size - (k + 1) + 1) (upTo ops.size k) (get fr) h := by
      intro hg e
      refine step (x := .tup []) (h' := h) (T := []) ?_ e hcl (fun _ _ _ _ => by simp)
      unfold stepI
      simp only [ho, hg]
    simp only [aOpsD] at e
    split at e
    · rename_i hg
      exact go (by unfold guardF; simp only [hg]) e
    · rename_i j want hg
      split at e
      · rename_i b hb
        rw [slot_eq] at hb
        split at e
        · rename_i hbw
          exact go (by unfold guardF; simp only [hg, hb, hbw, decide_true]) e
        · rename_i hbw
          exact skip (by unfold guardF; simp only [hg, hb, hbw, decide_false]) e
      · rename_i hb
        rw [slot_eq] at hb
        exact skip (by unfold guardF; simp only [hg, hb]) e
      · simp at e
theorem numA_take_lt : ∀ (l : List Oper) (i j : Nat) (o : Oper), l[i]? = some o → alo o.op = true → i < j → numA (l.take i) < numA (l.take j)
  | [], i, j, o, e, _, _ => by simp at e
  | a :: l, 0, j, o, e, ha, hj => by
    simp only [List.getElem?_cons_zero, Option.some.injEq] at e
    subst e
    obtain ⟨j, rfl⟩ : ∃ k, j = k + 1 := ⟨j - 1, by omega⟩
    simp only [List.take_zero, List.take_succ_cons, numA, ha, if_true]
    omega
  | a :: l, i + 1, j, o, e, ha, hj => by
    obtain ⟨j, rfl⟩ : ∃ k, j = k + 1 := ⟨j - 1, by omega⟩
    simp only [List.take_succ_cons, numA]
    have := numA_take_lt l i j o (by simpa using e) ha (by omega)
    omega
theorem plOf_inj (n : Nat) : PlInj (plOf n ops.toList) ops := fun i j oi oj hi hj ai aj hij => by
  have hi' : ops.toList[i]? = some oi := by simpa using hi
  have hj' : ops.toList[j]? = some oj := by simpa using hj
  unfold plOf
  rcases Nat.lt_or_gt_of_ne hij with h | h
  · have := numA_take_lt ops.toList i j oi hi' ai h
    omega
  · have := numA_take_lt ops.toList j i oj hj' aj h
    omega
theorem holes_rel {μ : Mp Bs} {w : World} : ∀ (n : Nat) (h : Heap), Rel μ h w → ∃ μ', Rel μ' (h ++ List.replicate n .hole) w ∧ Ext μ h w μ' (h ++ List.replicate n .hole) w
  | 0, h, hr => ⟨μ, by simpa using hr, by simpa using Ext.refl μ h w⟩
  | n + 1, h, hr => by
    have hp := Ext.push hr .hole none
    have hr' : Rel (μ.set h.length none) (h ++ [.hole]) w := Rel.push hr .hole none (set_same _ _)
    obtain ⟨μ', h1, h2⟩ := holes_rel n (h ++ [.hole]) hr'
    have e : h ++ [.hole] ++ List.replicate n Blk.hole = h ++ List.replicate (n + 1) .hole := by simp [List.replicate_succ]
    rw [e] at h1 h2
    exact ⟨μ', h1, hp.trans h2⟩
theorem draw_sound (hF : Knows Bs C.P F) (hO : Ordered dy ops B) {Q : Exit → Act → World → Prop} {id : Nat} {fr fr' : Fr} {h h' : Heap} {a : Act} {μ : Mp Bs} {w : World} (hm : C.P.follows .mixedOrders = true) (hfit : OpsFit a.tmps.size ops) (hr : Rel μ h w) (hf : FrRel μ h w fr a.tmps)
    (e : shutD dy (aOpsD C F dy (plOf h.length ops.toList) ops.toList 0 ops.toList fr (h ++ List.replicate (numA ops.toList) .hole)) = some (fr', h')) (hQ : Ends μ h w a fr' h' Q) : (Code.region id ops true).wp C.P Q a w := by
  unfold shutD at e
  split at e
  · rename_i fr1 h1 l hl
    split at e
    · rename_i hcl
      simp only [Option.some.injEq, Prod.mk.injEq] at e
      obtain ⟨rfl, rfl⟩ := e
      refine wp_region_any hm ?_
      obtain ⟨μ1, hr1, ex1⟩ := holes_rel (numA ops.toList) h hr
      have hf1 : FrRel μ1 (h ++ List.replicate (numA ops.toList) .hole) w fr a.tmps := FrRel.ext ex1 hf
      have hr' := drew_rel hr1
      have ex := drew_ext (μ := μ1) (h := h ++ List.replicate (numA ops.toList) .hole) (w := w)
      have hf' : FrG μ1 (h ++ List.replicate (numA ops.toList) .hole) (drewW w) (get fr) a.tmps := FrRel.ext ex hf1
      have hreal : Real Bs a.tmps.size (get fr) (h ++ List.replicate (numA ops.toList) .hole) := ⟨μ1, w, a.tmps, rfl, hr1, hf1⟩
      have := lex_any hF (plOf_inj h.length) hO hfit ops.toList 0 fr _ l (by simp) (by omega) hreal hl hcl
      rw [upTo_zero, Nat.sub_zero] at this
      refine any_wp hF ops.size _ _ _ a μ1 (drewW w) this hfit hr' hf' ?_
      intro a' μ' w' q1 q2 q3 q4 q5
      exact hQ a' μ' w' q1 (ex1.trans (ex.trans q2)) q3 q4 q5
    · simp at e
  · simp at e
end
section
variable {Bs : World → Prop}
variable {P : Program} {μ μ' μ0 : Mp Bs} {h h' h0 : Heap} {w w' w0 : World}
theorem Ext.length_le (e : Ext μ h w μ' h' w') : h.length ≤ h'.length := e.len
mutual
theorem ren_id : ∀ a : AV, ren (fun l => l) a = a
  | .agg cs => by simp only [ren, renL_id cs]
  | .tup cs => by simp only [ren, renL_id cs]
  | .fn _ cs => by simp only [ren, renL_id cs]
  | .iface _ a => by simp only [ren, ren_id a]
  | .ptr _ _ => rfl
  | .own _ _ => rfl
  | .optr _ _ _ _ => rfl
  | .mp _ => rfl
  | .tptr _ _ _ => rfl
  | .town _ _ _ => rfl
  | .int _ _ => rfl
  | .bool _ => rfl
  | .str _ => rfl
  | .nilp => rfl
  | .nilf => rfl
  | .nili => rfl
  | .nilm => rfl
  | .nils => rfl
  | .rows _ => rfl
  | .lit _ => rfl
  | .rptr _ _ => rfl
  | .any => rfl
theorem renL_id : ∀ l : List AV, renL (fun l => l) l = l
  | [] => rfl
  | a :: r => by simp only [renL, ren_id a, renL_id r]
end
theorem renB_id (b : Blk) : renB (fun l => l) b = b := by
  cases b with
  | cells cs => simp only [renB, renL_id]
  | rows z rs wr => rfl
  | hole => rfl
  | map es => rfl
theorem take_at {n l : Nat} (hl : l < n) : (h.take n)[l]? = h[l]? := by rw [List.getElem?_take, if_pos hl]
theorem take_some {n l : Nat} {k : Blk} (e : (h.take n)[l]? = some k) : l < n ∧ h[l]? = some k := by
  rw [List.getElem?_take] at e
  split at e
  · rename_i hl; exact ⟨hl, e⟩
  · simp at e
theorem cut_mut {n b o : Nat} (hm : Mut μ (h.take n) b o) : Mut μ h b o := by
  rcases hm with ho | ⟨l, k, hl, hm, ho⟩
  · exact .inl ho
  · exact .inr ⟨l, k, (take_some hl).2, hm, ho⟩
theorem cut_keeps {n : Nat} : Keeps (Mut μ h) w (Mut μ (h.take n)) w := fun _ _ _ hc hm => ⟨hc, fun hx => hm (cut_mut hx)⟩
theorem cut_at {n l : Nat} (hl : l < n) : KeepsAt μ h μ (h.take n) (fun l => l) l := fun k hk => ⟨by rw [renB_id]; show (h.take n)[l]? = some k; rw [take_at hl]; exact hk, rfl⟩
theorem Rep.cut {n : Nat} {a : AV} {v : Value} (hn : ∀ l, l ∈ locs a → l < n) (r : Rep μ h w a v) : Rep μ (h.take n) w a v := by
  have := Rep.ren (μ' := μ) (h' := h.take n) (σ := fun l => l) (fun b o hx => cut_mut hx) a v (fun l hl => cut_at (hn l hl)) r
  rwa [ren_id] at this
theorem RepL.cut {n : Nat} {a : List AV} {v : List Value} (hn : ∀ l, l ∈ locsL a → l < n) (r : RepL μ h w a v) : RepL μ (h.take n) w a v := by
  have := RepL.ren (μ' := μ) (h' := h.take n) (σ := fun l => l) (fun b o hx => cut_mut hx) a v (fun l hl => cut_at (hn l hl)) r
  rwa [renL_id] at this
theorem Rel.cut {n : Nat} (hr : Rel μ h w) (hu : under n (locsH (h.take n)) = true) : Rel μ (h.take n) w where
  inj := fun l l' b hl hl' => hr.inj l l' b (by simp at hl; omega) (by simp at hl'; omega)
  blk := fun l k hl => by
    obtain ⟨hlt, hl'⟩ := take_some hl
    have := hr.blk l k hl'
    cases k with
    | cells cs =>
      obtain ⟨b, vs, T, h1, h2, h3, h4⟩ := this
      exact ⟨b, vs, T, h1, h2, h3, RepL.cut (fun i hi => under_mem hu i (locsH_at hl i hi)) h4⟩
    | rows z rs wr =>
      rcases this with h1 | ⟨b, vs, T, h1, h2, h3, h4⟩
      · exact .inl h1
      · exact .inr ⟨b, vs, T, h1, h2, h3, h4.keep cut_keeps⟩
    | hole => exact this
    | map es =>
      obtain ⟨b, ms, c, h1, h2, h3⟩ := this
      exact ⟨b, ms, c, h1, h2, h3.keep cut_keeps⟩
  apart := fun l b o hl => hr.apart l b o (by simp at hl; omega)
  old := hr.old
  still := fun b hb => ⟨(hr.still b hb).1, fun l hl => (hr.still b hb).2 l (by simp at hl; omega)⟩
  base := hr.base
theorem Ext.cut {n : Nat} (e : Ext μ0 h0 w0 μ h w) (hn : h0.length ≤ n) : Ext μ0 h0 w0 μ (h.take n) w where
  out := e.out
  still := e.still
  os := e.os
  tape := e.tape
  output := e.output
  size := e.size
  keep := fun b o v hc hm => by
    obtain ⟨h1, h2⟩ := e.keep b o v hc hm
    exact ⟨h1, fun hx => h2 (cut_mut hx)⟩
  outside := fun b hb ho => by
    obtain ⟨h1, h2⟩ := e.outside b hb ho
    exact ⟨h1, fun l hl => h2 l (by simp at hl; omega)⟩
  cells := fun l cs hl => by
    obtain ⟨⟨cs', h1⟩, h2⟩ := e.cells l cs hl
    have := (List.getElem?_eq_some_iff.1 hl).1
    exact ⟨⟨cs', by rw [take_at (by omega)]; exact h1⟩, h2⟩
  rows := fun l z rs wr hl => by
    obtain ⟨rs', wr', h1, h2⟩ := e.rows l z rs wr hl
    have := (List.getElem?_eq_some_iff.1 hl).1
    exact ⟨rs', wr', by rw [take_at (by omega)]; exact h1, h2⟩
  len := by
    have := e.len
    simp
    omega
  maps := fun l es hl => by
    obtain ⟨⟨es', h1⟩, h2⟩ := e.maps l es hl
    have := (List.getElem?_eq_some_iff.1 hl).1
    exact ⟨⟨es', by rw [take_at (by omega)]; exact h1⟩, h2⟩
  sizes := e.sizes
theorem FrRel.cut {n : Nat} {fr : Fr} {t : Array Value} (hu : under n (locsF fr) = true) (hf : FrRel μ h w fr t) : FrRel μ (h.take n) w fr t := fun i => by
  refine Rep.cut (fun l hl => under_mem hu l ?_) (hf i)
  exact get_locs fr i l hl
where
  get_locs : ∀ (fr : Fr) (i l : Nat), l ∈ locs (get fr i) → l ∈ locsF fr
    | [], i, l, hl => by simp [get, locs] at hl
    | (j, v) :: r, i, l, hl => by
      simp only [get] at hl
      simp only [locsF, List.mem_append]
      split at hl
      · exact .inl hl
      · exact .inr (get_locs r i l hl)
theorem restr_get (fr : Fr) : ∀ (l : List Nat) (i : Nat), get (restr fr l) i = get fr i ∨ get (restr fr l) i = .any
  | [], i => .inr rfl
  | j :: r, i => by
    simp only [restr, get]
    split
    · rename_i h; subst h; exact .inl rfl
    · exact restr_get fr r i
theorem FrRel.restr {fr : Fr} {t : Array Value} (l : List Nat) (hf : FrRel μ h w fr t) : FrRel μ h w (Go.Ab.restr fr l) t := fun i => by
  rcases restr_get fr l i with e | e
  · rw [e]; exact hf i
  · rw [e]; exact trivial
theorem own_done {l n : Nat} {v : Value} {z : Nat} {rs : List (List AV)} {wr : Bool} {M' : Nat → Nat → Prop} (hr : Rel μ h w) (hl : h[l]? = some (.rows z rs wr)) (hn : rs.length = n) (hv : OwnRep μ h w l n v)
    (hM : ∀ b o, M' b o → Mut μ h b o) (hno : ∀ b o, μ l = some b → o < rs.length * z → ¬ M' b o) : PRep M' w (.rows rs) v := by
  obtain ⟨z', rs', wr', base, cap, hl', _, rfl, hv⟩ := hv
  rw [hl] at hl'
  simp only [Option.some.injEq, Blk.rows.injEq] at hl'
  obtain ⟨rfl, rfl, rfl⟩ := hl'
  obtain ⟨hc, _, hb⟩ := hv hn.symm
  refine ⟨base, cap, by rw [hn], by omega, ?_⟩
  rcases hb with ⟨rfl, rfl⟩ | ⟨b, vs, T, rfl, hm, hw, _⟩
  · left; exact List.length_eq_zero_iff.1 (by omega)
  · rcases hr.blk l _ hl with ⟨h0, _⟩ | ⟨b', vs', T', hm', ⟨fz, hw', _⟩, hlen, hin⟩
    · exact .inl h0
    · have e : b' = b := by rw [hm] at hm'; simpa using hm'.symm
      subst e
      right
      refine ⟨b', 0, z, rfl, PRows.of_at rs 0 fun i row hrow => ?_⟩
      obtain ⟨h1, hs1, h3⟩ := hin i row hrow
      refine ⟨h1, hs1, PMem.of_at row _ fun c a ha => ?_⟩
      obtain ⟨u, hu, hp⟩ := h3 c a ha
      have hi : i < rs.length := (List.getElem?_eq_some_iff.1 hrow).1
      have hcl : c < z := by rw [← h1]; exact (List.getElem?_eq_some_iff.1 ha).1
      refine ⟨u, by simp only [World.cell?, hw']; simpa using hu, hno _ _ hm' ?_, PRep.keep (fun b o v hc hm => ⟨hc, fun hx => hm (hM b o hx)⟩) _ _ hp⟩
      have : i * z + z ≤ rs.length * z := by rw [← Nat.succ_mul]; exact Nat.mul_le_mul_right z hi
      omega
theorem own_left {k l n : Nat} {v : Value} {z : Nat} {rs : List (List AV)} {wr : Bool} (hr : Rel μ h w) (hl : h[l]? = some (.rows z rs wr)) (hn : rs.length = n) (hk : k ≤ l ∨ wr = false) (hv : OwnRep μ h w l n v) :
    PRep (Mut μ (h.take k)) w (.rows rs) v := by
  refine own_done hr hl hn hv (fun b o hx => cut_mut hx) fun b o hm' hlt2 => ?_
  rintro (ho | ⟨l2, k2, hk2, hm2, ho⟩)
  · exact hr.apart l b _ (List.getElem?_eq_some_iff.1 hl).1 hm' ho
  obtain ⟨hlk, hk2⟩ := take_some hk2
  have hlt : l2 < h.length := (List.getElem?_eq_some_iff.1 hk2).1
  have hlt' : l < h.length := (List.getElem?_eq_some_iff.1 hl).1
  have e := hr.inj l2 l b hlt hlt' hm2 hm'
  subst e
  rw [hl] at hk2
  simp only [Option.some.injEq] at hk2
  subst hk2
  rcases hk with hk | hk
  · omega
  · rcases ho with ho | ho
    · rw [hk] at ho; simp at ho
    · rw [Nat.mul_comm] at ho
      omega
theorem hole_mut {l b o : Nat} (hl : l < h.length) (hx : Mut (μ.set l none) (h.set l .hole) b o) : Mut μ h b o := by
  rcases hx with ho | ⟨l', k, hk, hm, ho⟩
  · exact .inl ho
  · by_cases hll : l = l'
    · subst hll
      rw [set_same] at hm
      simp at hm
    · rw [set_other _ (fun e => hll e.symm)] at hm
      rw [List.getElem?_set_ne hll] at hk
      exact .inr ⟨l', k, hk, hm, ho⟩
theorem hole_at {l l' : Nat} (hll : l' ≠ l) : KeepsAt μ h (μ.set l none) (h.set l .hole) (fun l => l) l' := fun k hk => by
  refine ⟨?_, set_other _ hll⟩
  rw [renB_id, List.getElem?_set_ne (fun e => hll e.symm)]
  exact hk
theorem hole_rep {l : Nat} (hl : l < h.length) {a : AV} {v : Value} (hn : l ∉ locs a) (r : Rep μ h w a v) : Rep (μ.set l none) (h.set l .hole) w a v := by
  have := Rep.ren (μ' := μ.set l none) (h' := h.set l .hole) (σ := fun l => l) (fun b o hx => hole_mut hl hx) a v (fun l' hl' => hole_at fun e => hn (e ▸ hl')) r
  rwa [ren_id] at this
theorem hole_repL {l : Nat} (hl : l < h.length) {a : List AV} {v : List Value} (hn : l ∉ locsL a) (r : RepL μ h w a v) : RepL (μ.set l none) (h.set l .hole) w a v := by
  have := RepL.ren (μ' := μ.set l none) (h' := h.set l .hole) (σ := fun l => l) (fun b o hx => hole_mut hl hx) a v (fun l' hl' => hole_at fun e => hn (e ▸ hl')) r
  rwa [renL_id] at this
theorem hole_keeps {l : Nat} (hl : l < h.length) : Keeps (Mut μ h) w (Mut (μ.set l none) (h.set l .hole)) w := fun _ _ _ hc hm => ⟨hc, fun hx => hm (hole_mut hl hx)⟩
theorem Rel.toHole {l : Nat} (hr : Rel μ h w) (hl : l < h.length) (hn : l ∉ locsH h) : Rel (μ.set l none) (h.set l .hole) w where
  inj := fun l1 l2 b hl1 hl2 hm1 hm2 => by
    simp only [List.length_set] at hl1 hl2
    by_cases h1 : l1 = l
    · subst h1; rw [set_same] at hm1; simp at hm1
    · by_cases h2 : l2 = l
      · subst h2; rw [set_same] at hm2; simp at hm2
      · rw [set_other _ h1] at hm1
        rw [set_other _ h2] at hm2
        exact hr.inj l1 l2 b hl1 hl2 hm1 hm2
  blk := fun l' k hk => by
    by_cases hll : l = l'
    · subst hll
      rw [List.getElem?_set_self hl] at hk
      simp only [Option.some.injEq] at hk
      subst hk
      exact set_same _ _
    · have hne : l' ≠ l := fun e => hll e.symm
      rw [List.getElem?_set_ne hll] at hk
      have := hr.blk l' k hk
      cases k with
      | cells cs =>
        obtain ⟨b, vs, T, h1, h2, h3, h4⟩ := this
        exact ⟨b, vs, T, by rw [set_other _ hne]; exact h1, h2, h3, hole_repL hl (fun hx => hn (locsH_at hk _ hx)) h4⟩
      | rows z rs wr =>
        rcases this with h1 | ⟨b, vs, T, h1, h2, h3, h4⟩
        · exact .inl ⟨h1.1, by rw [set_other _ hne]; exact h1.2⟩
        · exact .inr ⟨b, vs, T, by rw [set_other _ hne]; exact h1, h2, h3, h4.keep (hole_keeps hl)⟩
      | hole =>
        show (μ.set l none) l' = none
        rw [set_other _ hne]; exact this
      | map es =>
        obtain ⟨b, ms, c, h1, h2, h3⟩ := this
        exact ⟨b, ms, c, by rw [set_other _ hne]; exact h1, h2, h3.keep (hole_keeps hl)⟩
  apart := fun l' b o hl' hm ho => by
    by_cases h1 : l' = l
    · subst h1; rw [set_same] at hm; simp at hm
    · rw [set_other _ h1] at hm
      exact hr.apart l' b o (by simpa using hl') hm ho
  old := hr.old
  still := fun b hb => ⟨(hr.still b hb).1, fun l' hl' hm => by
    by_cases h1 : l' = l
    · subst h1; rw [set_same] at hm; simp at hm
    · rw [set_other _ h1] at hm
      exact (hr.still b hb).2 l' (by simpa using hl') hm⟩
  base := hr.base
theorem Ext.toHole {l : Nat} (e : Ext μ0 h0 w0 μ h w) (hl : l < h.length) (hk : h0.length ≤ l) : Ext μ0 h0 w0 (μ.set l none) (h.set l .hole) w where
  out := e.out
  still := e.still
  os := e.os
  tape := e.tape
  output := e.output
  size := e.size
  len := by simpa using e.len
  keep := fun b o v hc hm => by
    obtain ⟨h1, h2⟩ := e.keep b o v hc hm
    exact ⟨h1, fun hx => h2 (hole_mut hl hx)⟩
  outside := fun b hb ho => by
    obtain ⟨h1, h2⟩ := e.outside b hb ho
    refine ⟨h1, fun l' hl' => ?_⟩
    by_cases h3 : l' = l
    · subst h3; rw [set_same]; simp
    · rw [set_other _ h3]; exact h2 l' (by simpa using hl')
  cells := fun l' cs hl' => by
    obtain ⟨⟨cs', h1⟩, h2⟩ := e.cells l' cs hl'
    have := (List.getElem?_eq_some_iff.1 hl').1
    exact ⟨⟨cs', by rw [List.getElem?_set_ne (by omega)]; exact h1⟩, by rw [set_other _ (by omega)]; exact h2⟩
  rows := fun l' z rs wr hl' => by
    obtain ⟨rs', wr', h1, h2, h3⟩ := e.rows l' z rs wr hl'
    have := (List.getElem?_eq_some_iff.1 hl').1
    exact ⟨rs', wr', by rw [List.getElem?_set_ne (by omega)]; exact h1, h2, fun q => by rw [set_other _ (by omega)]; exact h3 q⟩
  maps := fun l' es hl' => by
    obtain ⟨⟨es', h1⟩, h2⟩ := e.maps l' es hl'
    have := (List.getElem?_eq_some_iff.1 hl').1
    exact ⟨⟨es', by rw [List.getElem?_set_ne (by omega)]; exact h1⟩, by rw [set_other _ (by omega)]; exact h2⟩
  sizes := e.sizes
theorem frz_sound {t : Array Value} {k : Nat} {live : List Nat} (hk : h0.length = k) : ∀ (is : List Nat) (fr fr' : Fr) (h h' : Heap) (μ : Mp Bs), Rel μ h w → Ext μ0 h0 w0 μ h w → FrRel μ h w fr t → frz k live is fr h = some (fr', h') → ∃ μ', Rel μ' h' w ∧ Ext μ0 h0 w0 μ' h' w ∧ FrRel μ' h' w fr' t
  | [], fr, fr', h, h', μ, hr, ex, hf, e => by
    simp only [frz, Option.some.injEq, Prod.mk.injEq] at e
    obtain ⟨rfl, rfl⟩ := e
    exact ⟨μ, hr, ex, hf⟩
  | i :: is, fr, fr', h, h', μ, hr, ex, hf, e => by
    have cons : ∀ {rs : List (List AV)}, PRep (Mut μ h) w (.rows rs) (t.getD i undef) → FrRel μ h w ((i, .rows rs) :: fr) t := fun {rs} hp j => by
      simp only [get]
      split
      · rename_i hij; subst hij; exact Rep.pure _ _ hp
      · exact hf j
    simp only [frz] at e
    split at e
    · rename_i l n hx
      split at e
      · rename_i z rs wr hl
        split at e
        · rename_i hc
          obtain ⟨c1, c2, c3, c4⟩ := hc
          have hlt : l < h.length := (List.getElem?_eq_some_iff.1 hl).1
          have c3' : l ∉ locsF (restr ((i, .rows rs) :: fr) live) := by simpa using c3
          have c4' : l ∉ locsH h := by simpa using c4
          have hv := hf i
          rw [hx] at hv
          have hp : PRep (Mut (μ.set l none) (h.set l .hole)) w (.rows rs) (t.getD i undef) := own_done hr hl c1 hv (fun b o hx => hole_mut hlt hx) fun b o hm _ hx => by
            rcases hx with ho | ⟨l', k', hk', hm', _⟩
            · exact hr.apart l b o hlt hm ho
            · by_cases h1 : l' = l
              · subst h1; rw [set_same] at hm'; simp at hm'
              · rw [set_other _ h1] at hm'
                rw [List.getElem?_set_ne (fun e => h1 e.symm)] at hk'
                exact h1 (hr.inj l' l b (List.getElem?_eq_some_iff.1 hk').1 hlt hm' hm)
          refine frz_sound hk is _ _ _ _ _ (hr.toHole hlt c4') (ex.toHole hlt (by omega)) (fun j => ?_) e
          have hj : l ∉ locs (get (restr ((i, .rows rs) :: fr) live) j) := fun hx => c3' (FrRel.cut.get_locs _ _ _ hx)
          rcases restr_get ((i, .rows rs) :: fr) live j with e1 | e1
          · rw [e1] at hj ⊢
            simp only [get] at hj ⊢
            split
            · rename_i hij; subst hij; exact Rep.pure _ _ hp
            · rename_i hij
              simp only [hij, if_false] at hj
              exact hole_rep hlt hj (hf j)
          · rw [e1]; exact trivial
        · simp at e
      · simp at e
    · rename_i hx
      have hv := hf i
      rw [hx] at hv
      have hv' : t.getD i undef = .slice none 0 0 := hv
      exact frz_sound hk is _ _ _ _ _ hr ex ((cons (rs := []) ⟨none, 0, hv', Nat.le_refl _, .inl rfl⟩).restr live) e
    · rename_i rs hx
      have hv := hf i
      rw [hx] at hv
      obtain ⟨base, hv', hb⟩ := hv
      exact frz_sound hk is _ _ _ _ _ hr ex ((cons ⟨base, rs.length, hv', Nat.le_refl _, hb⟩).restr live) e
    · exact frz_sound hk is _ _ _ _ _ hr ex hf e
mutual
theorem leave_sound (hr : Rel μ h w) {keep : Bool} {k : Nat} : ∀ (a a' : AV) (v : Value), leave keep k h a = some a' → Rep μ h w a v → Rep μ (h.take k) w a' v
  | .own l n, a', v, e, r => by
    simp only [leave] at e
    split at e
    · rename_i z rs wr hl
      split at e
      · rename_i hc
        simp only [Option.some.injEq] at e
        subst e
        exact Rep.pure _ _ (own_left hr hl hc.1 hc.2 r)
      · simp at e
    · simp at e
  | .nils, a', v, e, r => by
    simp only [leave, Option.some.injEq] at e
    subst e
    have : v = .slice none 0 0 := r
    subst this
    cases keep with
    | true => exact rfl
    | false => exact ⟨none, 0, rfl, Nat.le_refl _, .inl rfl⟩
  | .lit rs, a', v, e, r => by
    simp only [leave, Option.some.injEq] at e
    subst e
    obtain ⟨base, hv, hb⟩ := PRep.keep (cut_keeps (n := k)) (.lit rs) v r
    exact ⟨base, rs.length, hv, Nat.le_refl _, hb⟩
  | .agg cs, a', v, e, r => by
    simp only [leave] at e
    split at e
    · rename_i cs' hcs
      simp only [Option.some.injEq] at e
      subst e
      obtain ⟨vs, hv, r⟩ := r
      exact ⟨vs, hv, leaveL_sound hr cs cs' vs hcs r⟩
    · simp at e
  | .tup cs, a', v, e, r => by
    simp only [leave] at e
    split at e
    · rename_i cs' hcs
      simp only [Option.some.injEq] at e
      subst e
      obtain ⟨vs, hv, r⟩ := r
      exact ⟨vs, hv, leaveL_sound hr cs cs' vs hcs r⟩
    · simp at e
  | .fn _ cs, a', v, e, r => by
    simp only [leave] at e
    split at e
    · rename_i cs' hcs
      simp only [Option.some.injEq] at e
      subst e
      obtain ⟨vs, hv, r⟩ := r
      exact ⟨vs, hv, leaveL_sound hr cs cs' vs hcs r⟩
    · simp at e
  | .iface _ a, a', v, e, r => by
    simp only [leave] at e
    split at e
    · rename_i a1 ha
      simp only [Option.some.injEq] at e
      subst e
      obtain ⟨x, hv, r⟩ := r
      exact ⟨x, hv, leave_sound hr a a1 x ha r⟩
    · simp at e
  | .ptr l o, a', v, e, r => by
    simp only [leave] at e
    split at e
    · rename_i hl
      simp only [Option.some.injEq] at e
      subst e
      exact Rep.cut (fun i hi => by simp [locs] at hi; omega) r
    · simp at e
  | .town _ _ _, _, _, e, _ => by simp [leave] at e
  | .tptr t l o, a', v, e, r => by
    simp only [leave] at e
    split at e
    · rename_i hl
      simp only [Option.some.injEq] at e
      subst e
      exact Rep.cut (fun i hi => by simp [locs] at hi; omega) r
    · simp at e
  | .mp l, a', v, e, r => by
    simp only [leave] at e
    split at e
    · rename_i hl
      simp only [Option.some.injEq] at e
      subst e
      exact Rep.cut (fun i hi => by simp [locs] at hi; omega) r
    · simp at e
  | .optr _ _ _ _, _, _, e, _ => by simp [leave] at e
  | .int _ _, _, _, e, r => by simp only [leave, Option.some.injEq] at e; subst e; exact r
  | .bool _, _, _, e, r => by simp only [leave, Option.some.injEq] at e; subst e; exact r
  | .str _, _, _, e, r => by simp only [leave, Option.some.injEq] at e; subst e; exact r
  | .nilp, _, _, e, r => by simp only [leave, Option.some.injEq] at e; subst e; exact r
  | .nilf, _, _, e, r => by simp only [leave, Option.some.injEq] at e; subst e; exact r
  | .nili, _, _, e, r => by simp only [leave, Option.some.injEq] at e; subst e; exact r
  | .nilm, _, _, e, r => by simp only [leave, Option.some.injEq] at e; subst e; exact r
  | .rows rs, _, v, e, r => by simp only [leave, Option.some.injEq] at e; subst e; exact PRep.keep cut_keeps (.rows rs) v r
  | .rptr row o, _, v, e, r => by simp only [leave, Option.some.injEq] at e; subst e; exact PRep.keep cut_keeps (.rptr row o) v r
  | .any, _, _, e, _ => by simp only [leave, Option.some.injEq] at e; subst e; exact trivial
theorem leaveL_sound (hr : Rel μ h w) {keep : Bool} {k : Nat} : ∀ (l l' : List AV) (vs : List Value), leaveL keep k h l = some l' → RepL μ h w l vs → RepL μ (h.take k) w l' vs
  | [], _, _, e, r => by simp only [leaveL, Option.some.injEq] at e; subst e; exact r
  | a :: r, l', vs, e, x => by
    simp only [leaveL] at e
    split at e
    · rename_i a1 h1
      split at e
      · rename_i r1 h2
        simp only [Option.some.injEq] at e
        subst e
        obtain ⟨v, vr, hv, x1, x2⟩ := x
        exact ⟨v, vr, hv, leave_sound hr a a1 v h1 x1, leaveL_sound hr r r1 vr h2 x2⟩
      · simp at e
    · simp at e
end
theorem fresh_left {k l n : Nat} {v : Value} {z : Nat} {rs : List (List AV)} {wr : Bool} (hr : Rel μ h w) (e : Ext μ0 h0 w0 μ h w) (hk0 : h0.length = k) (hu : under k (locsH (h.take k)) = true) (hl : h[l]? = some (.rows z rs wr)) (hn : rs.length = n) (hk : k ≤ l) (hv : OwnRep μ h w l n v) :
    ∃ μ', Rel μ' (h.take k ++ [.rows z rs wr]) w ∧ Ext μ0 h0 w0 μ' (h.take k ++ [.rows z rs wr]) w ∧ Rep μ' (h.take k ++ [.rows z rs wr]) w (.own k n) v := by
  have hlt : l < h.length := (List.getElem?_eq_some_iff.1 hl).1
  have hlen : (h.take k).length = k := by simp; omega
  have hat : ∀ i, i < k → (h.take k ++ [Blk.rows z rs wr])[i]? = (h.take k)[i]? := fun i hi => List.getElem?_append_left (by omega)
  have hnew : (h.take k ++ [Blk.rows z rs wr])[k]? = some (.rows z rs wr) := by
    rw [List.getElem?_append_right (by omega), hlen]; simp
  have hmut : ∀ b o, Mut (μ.set k (μ l)) (h.take k ++ [Blk.rows z rs wr]) b o → Mut μ h b o := by
    rintro b o (ho | ⟨i, b', hi, hm, ho⟩)
    · exact .inl ho
    · by_cases hik : i = k
      · subst hik
        rw [set_same] at hm
        rw [hnew] at hi
        simp only [Option.some.injEq] at hi
        subst hi
        exact .inr ⟨l, _, hl, hm, ho⟩
      · have hi' : i < k := by
          have := (List.getElem?_eq_some_iff.1 hi).1
          simp only [List.length_append, hlen, List.length_singleton] at this
          omega
        rw [hat i hi'] at hi
        rw [set_other _ hik] at hm
        exact .inr ⟨i, b', (take_some hi).2, hm, ho⟩
  have hkeeps : Keeps (Mut μ h) w (Mut (μ.set k (μ l)) (h.take k ++ [Blk.rows z rs wr])) w := fun b o v hc hm => ⟨hc, fun hx => hm (hmut b o hx)⟩
  have hka : ∀ i, i < k → KeepsAt μ h (μ.set k (μ l)) (h.take k ++ [Blk.rows z rs wr]) (fun l => l) i := fun i hi k' hk' =>
    ⟨by rw [renB_id]; show (h.take k ++ [Blk.rows z rs wr])[i]? = some k'; rw [hat i hi, take_at hi]; exact hk', set_other (l := k) (i := i) _ (by omega)⟩
  refine ⟨μ.set k (μ l), ⟨?_, ?_, ?_, ?_, ?_, hr.base⟩, ?_, ?_⟩
  · intro i j b hi hj hmi hmj
    simp only [List.length_append, hlen, List.length_singleton] at hi hj
    by_cases h1 : i = k <;> by_cases h2 : j = k
    · omega
    · subst h1
      rw [set_same] at hmi
      rw [set_other _ h2] at hmj
      have := hr.inj l j b hlt (by omega) hmi hmj
      omega
    · subst h2
      rw [set_same] at hmj
      rw [set_other _ h1] at hmi
      have := hr.inj l i b hlt (by omega) hmj hmi
      omega
    · rw [set_other _ h1] at hmi
      rw [set_other _ h2] at hmj
      exact hr.inj i j b (by omega) (by omega) hmi hmj
  · intro i b' hi
    by_cases hik : i = k
    · subst hik
      rw [hnew] at hi
      simp only [Option.some.injEq] at hi
      subst hi
      rcases hr.blk l _ hl with ⟨h1, h2⟩ | ⟨b, vs, T, h1, h2, h3, h4⟩
      · exact .inl ⟨h1, by rw [set_same]; exact h2⟩
      · exact .inr ⟨b, vs, T, by rw [set_same]; exact h1, h2, h3, h4.keep hkeeps⟩
    · have hi' : i < k := by
        have := (List.getElem?_eq_some_iff.1 hi).1
        simp only [List.length_append, hlen, List.length_singleton] at this
        omega
      rw [hat i hi'] at hi
      have hi2 := (take_some hi).2
      have := hr.blk i b' hi2
      cases b' with
      | cells cs =>
        obtain ⟨b, vs, T, h1, h2, h3, h4⟩ := this
        refine ⟨b, vs, T, by rw [set_other _ hik]; exact h1, h2, h3, ?_⟩
        have := RepL.ren (μ' := μ.set k (μ l)) (h' := h.take k ++ [Blk.rows z rs wr]) (σ := fun l => l) hmut cs vs (fun j hj => hka j (under_mem hu j (locsH_at hi j hj))) h4
        rwa [renL_id] at this
      | rows z' rs' wr' =>
        rcases this with h1 | ⟨b, vs, T, h1, h2, h3, h4⟩
        · exact .inl ⟨h1.1, by rw [set_other _ hik]; exact h1.2⟩
        · exact .inr ⟨b, vs, T, by rw [set_other _ hik]; exact h1, h2, h3, h4.keep hkeeps⟩
      | hole =>
        show (μ.set k (μ l)) i = none
        rw [set_other _ hik]; exact this
      | map es =>
        obtain ⟨b, ms, c, h1, h2, h3⟩ := this
        exact ⟨b, ms, c, by rw [set_other _ hik]; exact h1, h2, h3.keep hkeeps⟩
  · intro i b o hi hm ho
    simp only [List.length_append, hlen, List.length_singleton] at hi
    by_cases hik : i = k
    · subst hik
      rw [set_same] at hm
      exact hr.apart l b o hlt hm ho
    · rw [set_other _ hik] at hm
      exact hr.apart i b o (by omega) hm ho
  · exact hr.old
  · intro b hb
    refine ⟨(hr.still b hb).1, fun i hi => ?_⟩
    simp only [List.length_append, hlen, List.length_singleton] at hi
    by_cases hik : i = k
    · subst hik
      rw [set_same]; exact (hr.still b hb).2 l hlt
    · rw [set_other _ hik]; exact (hr.still b hb).2 i (by omega)
  · have e1 := e.cut (n := k) (by omega)
    exact {
      out := e1.out
      still := e1.still
      os := e1.os
      tape := e1.tape
      output := e1.output
      size := e1.size
      keep := fun b o v hc hm => by
        obtain ⟨h1, h2⟩ := e.keep b o v hc hm
        exact ⟨h1, fun hx => h2 (hmut b o hx)⟩
      outside := fun b hb ho => by
        obtain ⟨h1, h2⟩ := e.outside b hb ho
        refine ⟨h1, fun i hi => ?_⟩
        simp only [List.length_append, hlen, List.length_singleton] at hi
        by_cases hik : i = k
        · subst hik
          rw [set_same]; exact h2 l hlt
        · rw [set_other _ hik]; exact h2 i (by omega)
      cells := fun i cs hi => by
        obtain ⟨⟨cs', h1⟩, h2⟩ := e1.cells i cs hi
        have := (List.getElem?_eq_some_iff.1 hi).1
        exact ⟨⟨cs', by rw [hat i (by omega)]; exact h1⟩, by rw [set_other _ (by omega)]; exact h2⟩
      rows := fun i z rs wr hi => by
        obtain ⟨rs', wr', h1, h2, h3⟩ := e1.rows i z rs wr hi
        have := (List.getElem?_eq_some_iff.1 hi).1
        exact ⟨rs', wr', by rw [hat i (by omega)]; exact h1, h2, fun q => by rw [set_other _ (by omega)]; exact h3 q⟩
      len := by simp only [List.length_append, hlen, List.length_singleton]; omega
      maps := fun i es hi => by
        obtain ⟨⟨es', h1⟩, h2⟩ := e1.maps i es hi
        have := (List.getElem?_eq_some_iff.1 hi).1
        exact ⟨⟨es', by rw [hat i (by omega)]; exact h1⟩, by rw [set_other _ (by omega)]; exact h2⟩
      sizes := e1.sizes }
  · obtain ⟨z', rs', wr', base, cap, hl', hle, rfl, hv⟩ := hv
    rw [hl] at hl'
    simp only [Option.some.injEq, Blk.rows.injEq] at hl'
    obtain ⟨rfl, rfl, rfl⟩ := hl'
    refine ⟨z, rs, wr, base, cap, hnew, hle, rfl, fun q => ?_⟩
    obtain ⟨h1, h2, h3⟩ := hv q
    refine ⟨h1, h2, ?_⟩
    rcases h3 with h3 | ⟨b, vs, T, h3, h4, h5⟩
    · exact .inl h3
    · exact .inr ⟨b, vs, T, h3, by rw [set_same]; exact h4, h5⟩
end
section
variable {Bs : World → Prop}
def CodeOk (C : Cfg) (f n : Nat) : Code → Prop
  | .region id ops draw => OpsFit n ops ∧ (draw = true → ∃ B, Ordered (C.dyn f id) ops B)
  | .seq a b => CodeOk C f n a ∧ CodeOk C f n b
  | .cond _ a b => CodeOk C f n a ∧ CodeOk C f n b
  | .block _ c => CodeOk C f n c
  | .loop c => CodeOk C f n c
  | _ => True
def GoodF (C : Cfg) (f : Nat) : Prop := ∃ fn c, C.P.funcs[f]? = some fn ∧ fn.body = some c ∧ (fn.name == "runtime.NumGoroutine") = false ∧ CodeOk C f fn.ntmps c
structure CfgOk (Bs : World → Prop) (C : Cfg) : Prop where
  prim : ∀ f args v, C.prim f args = some v → Go.Proofs.Enters C.P f ∧ Called Bs C.P f args [] v []
  primH : ∀ f args h r h', C.primH f args h = some (r, h') → Go.Proofs.Enters C.P f ∧ Called Bs C.P f args h r h'
  good : ∀ f, C.good f = true → GoodF C f
  mixed : C.P.follows .mixedOrders = true
def ItOk (C : Cfg) (f n : Nat) : It → Prop
  | .code c => CodeOk C f n c
  | .blk _ _ => True
  | .lp c _ _ => CodeOk C f n c
def ItsOk (C : Cfg) (f n : Nat) (ks : List It) : Prop := ∀ x, x ∈ ks → ItOk C f n x
def items : List It → List Item
  | [] => []
  | .code c :: ks => .code c :: items ks
  | .blk id _ :: ks => .inBlock id :: items ks
  | .lp c _ _ :: ks => .inLoop c :: items ks
theorem unwind_items {id n : Nat} : ∀ {ks ks' : List It}, Go.Ab.unwind id ks = some (n, ks') → exitTo id (items ks) = some (items ks') ∧ ∀ x, x ∈ ks' → x ∈ ks
  | [], _, e => by simp [Go.Ab.unwind] at e
  | .blk j m :: ks, ks', e => by
    simp only [Go.Ab.unwind] at e
    by_cases hj : j = id
    · simp only [hj, if_true, Option.some.injEq, Prod.mk.injEq] at e
      obtain ⟨_, rfl⟩ := e
      exact ⟨by simp [items, exitTo, hj], fun x hx => List.mem_cons_of_mem _ hx⟩
    · simp only [hj, if_false] at e
      obtain ⟨h1, h2⟩ := unwind_items e
      exact ⟨by simp [items, exitTo, hj, h1], fun x hx => List.mem_cons_of_mem _ (h2 x hx)⟩
  | .code c :: ks, ks', e => by
    simp only [Go.Ab.unwind] at e
    obtain ⟨h1, h2⟩ := unwind_items e
    exact ⟨by simp [items, exitTo, h1], fun x hx => List.mem_cons_of_mem _ (h2 x hx)⟩
  | .lp c _ _ :: ks, ks', e => by
    simp only [Go.Ab.unwind] at e
    obtain ⟨h1, h2⟩ := unwind_items e
    exact ⟨by simp [items, exitTo, h1], fun x hx => List.mem_cons_of_mem _ (h2 x hx)⟩
def Ran (P : Program) (fn : Func) (m : Machine) (b : Frame) (cs : List Frame) (μ0 : Mp Bs) (h0 : Heap) (w0 : World) (r : AV) (h' : Heap) : Prop :=
  ∃ (a' : Act) (todo : List Item) (w' : World) (v : Value) (μ' : Mp Bs), Steps P m (lone { b.at a' todo with mode := .returning } cs w') ∧ a'.defers = [] ∧ (results fn a'.tmps).run P w' = .ok v w' ∧ Rel μ' h' w' ∧ Ext μ0 h0 w0 μ' h' w' ∧ Rep μ' h' w' r v
theorem Ran.of_steps {P : Program} {fn : Func} {m m' : Machine} {b : Frame} {cs : List Frame} {μ0 : Mp Bs} {h0 : Heap} {w0 : World} {r : AV} {h' : Heap} (hs : Steps P m m') (h : Ran P fn m' b cs μ0 h0 w0 r h') : Ran P fn m b cs μ0 h0 w0 r h' := by
  obtain ⟨a', todo, w', v, μ', h1, h2⟩ := h
  exact ⟨a', todo, w', v, μ', hs.trans h1, h2⟩
def Runs (Bs : World → Prop) (C : Cfg) (F : Tk → Res) : Prop :=
  ∀ f k ks fr h r h', F (.run f k ks fr h) = some (r, h') → ∀ fn, C.P.funcs[f]? = some fn → ItsOk C f fn.ntmps ks → ∀ (b : Frame) (cs : List Frame) (a : Act) (μ : Mp Bs) (w : World) (μ0 : Mp Bs) (h0 : Heap) (w0 : World),
    h0.length = k → Rel μ h w → Ext μ0 h0 w0 μ h w → FrRel μ h w fr a.tmps → fn.ntmps ≤ a.tmps.size → a.defers = [] → Ran C.P fn (lone (b.at a (items ks)) cs w) b cs μ0 h0 w0 r h'
end
section
variable {Bs : World → Prop}
variable {C : Cfg} {F : Tk → Res} {μ μ0 : Mp Bs} {h h0 h' : Heap} {w w0 : World}
theorem ok_cast {P : Program} {t : TypeId} {v u : Value} (e : (Instr.loadAt t v).run P w = .ok u w) : (do loadVar t (← asAddr v) : Sem Value).run P w = .ok u w := by
  cases v with
  | pointer p =>
    cases p with
    | some a => simpa [Instr.loadAt, Instr.sureAddr, asAddr] using e
    | none => simp [Instr.loadAt, Instr.sureAddr, stuck] at e
  | _ => simp [Instr.loadAt, Instr.sureAddr, stuck] at e
def resOne (t : Array Value) : ResultVar → Sem Value
  | .tmp i => pure (t.getD i undef)
  | .cell a ty => do loadVar ty (← asAddr (t.getD a undef))
theorem resL_sound {P : Program} {fr : Fr} {t : Array Value} (hr : Rel μ h w) (hf : FrRel μ h w fr t) : ∀ (l : List ResultVar) (vs : List AV), resL P fr h l = some vs → ∃ us : List Value, RepL μ h w vs us ∧ (l.mapM (resOne t)).run P w = .ok us w
  | [], vs, e => by
    simp only [resL, Option.some.injEq] at e
    subst e
    exact ⟨[], rfl, by simp⟩
  | x :: l, vs, e => by
    simp only [resL] at e
    split at e
    · rename_i v hv
      split at e
      · rename_i vs' hvs
        simp only [Option.some.injEq] at e
        subst e
        obtain ⟨us, h1, h2⟩ := resL_sound hr hf l vs' hvs
        cases x with
        | tmp i =>
          simp only [resV, Option.some.injEq] at hv
          subst hv
          exact ⟨_ :: us, ⟨_, us, rfl, hf i, h1⟩, by simp [List.mapM_cons, resOne, h2]⟩
        | cell i t' =>
          simp only [resV] at hv
          obtain ⟨u, h3, h4⟩ := aLoad_sound hr hv (hf i)
          have h5 := ok_cast h3
          refine ⟨u :: us, ⟨u, us, rfl, h4, h1⟩, ?_⟩
          have h6 : (resOne t (.cell i t')).run P w = .ok u w := h5
          simp [List.mapM_cons, h6, h2]
      · simp at e
    · simp at e
theorem tup_rep {vs : List AV} {us : List Value} (r : RepL μ h w vs us) : Rep μ h w (tupOf vs) (if h : us.toArray.size = 1 then us.toArray[0] else .tuple us.toArray) := by
  match vs, us, r with
  | [], us, r =>
    have : us = [] := r
    subst this
    exact ⟨[], rfl, rfl⟩
  | [a], us, r =>
    obtain ⟨v, vr, rfl, h1, h2⟩ := r
    have : vr = [] := h2
    subst this
    simpa [tupOf] using h1
  | a :: b :: l, us, r =>
    obtain ⟨v, vr, rfl, h1, v', vr', rfl, h2, h3⟩ := r
    have : ¬ ((v :: v' :: vr').toArray.size = 1) := by simp
    rw [dif_neg this]
    exact ⟨_, rfl, v, _, rfl, h1, v', _, rfl, h2, h3⟩
theorem results_sound {P : Program} {fn : Func} {fr : Fr} {t : Array Value} {vs : List AV} (hr : Rel μ h w) (hf : FrRel μ h w fr t) (e : resL P fr h fn.results.toList = some vs) : ∃ v, (results fn t).run P w = .ok v w ∧ Rep μ h w (tupOf vs) v := by
  obtain ⟨us, h1, h2⟩ := resL_sound hr hf _ _ e
  refine ⟨_, ?_, tup_rep h1⟩
  have : results fn t = (do
      let vs ← fn.results.mapM (resOne t)
      pure (if h : vs.size = 1 then vs[0] else .tuple vs)) := rfl
  rw [this, Array.mapM_eq_mapM_toList]
  simp [h2]
theorem ret_sound {f k : Nat} {fr : Fr} {r : AV} {fn : Func} {b : Frame} {cs : List Frame} {a : Act} {todo : List Item} (hfn : C.P.funcs[f]? = some fn) (e : retOf C f k fr h = some (r, h')) (hk : h0.length = k) (hr : Rel μ h w) (ex : Ext μ0 h0 w0 μ h w) (hf : FrRel μ h w fr a.tmps) (hd : a.defers = []) :
    Ran C.P fn (lone { b.at a todo with mode := .returning } cs w) b cs μ0 h0 w0 r h' := by
  unfold retOf at e
  simp only [hfn] at e
  unfold leaving at e
  split at e
  · rename_i vs hvs
    obtain ⟨v, h1, h2⟩ := results_sound hr hf hvs
    split at e
    · rename_i hu
      have cutEnd : ∀ {keep : Bool}, leaveR k h (leave keep k h (tupOf vs)) = some (r, h') → Ran C.P fn (lone { b.at a todo with mode := .returning } cs w) b cs μ0 h0 w0 r h' := by
        intro keep e
        unfold leaveR at e
        split at e
        · rename_i a1 ha
          simp only [Option.some.injEq, Prod.mk.injEq] at e
          obtain ⟨rfl, rfl⟩ := e
          exact ⟨a, todo, w, v, μ, .refl _ _, hd, h1, hr.cut hu, ex.cut (by omega), leave_sound hr _ _ v ha h2⟩
        · simp at e
      split at e
      · exact cutEnd e
      · unfold freshOf at e
        split at e
        · rename_i l n hx
          rw [hx] at h2
          split at e
          · rename_i z rs wr hl
            split at e
            · rename_i hc
              simp only [Option.some.injEq, Prod.mk.injEq] at e
              obtain ⟨rfl, rfl⟩ := e
              obtain ⟨μ', q1, q2, q3⟩ := fresh_left hr ex hk hu hl hc.1 hc.2 h2
              exact ⟨a, todo, w, v, μ', .refl _ _, hd, h1, q1, q2, q3⟩
            · simp at e
          · simp at e
        · rename_i rs hx
          rw [hx] at h2
          simp only [Option.some.injEq, Prod.mk.injEq] at e
          obtain ⟨rfl, rfl⟩ := e
          exact ⟨a, todo, w, v, μ, .refl _ _, hd, h1, hr.cut hu, ex.cut (by omega), PRep.keep (cut_keeps (n := k)) (.lit rs) v h2⟩
        · rename_i hx
          rw [hx] at h2
          simp only [Option.some.injEq, Prod.mk.injEq] at e
          obtain ⟨rfl, rfl⟩ := e
          have hcut := hr.cut hu
          have hlen : (h.take k).length = k := by
            have := ex.length_le
            simp
            omega
          have hp := Ext.push hcut (.rows 0 [] false) none
          have hv : v = .slice none 0 0 := h2
          refine ⟨a, todo, w, v, _, .refl _ _, hd, h1, Rel.push hcut (.rows 0 [] false) none (.inl ⟨rfl, set_same _ _⟩), (ex.cut (by omega)).trans hp, ?_⟩
          have hnew : (h.take k ++ [Blk.rows 0 [] false])[k]? = some (.rows 0 [] false) := by
            rw [List.getElem?_append_right (by omega), hlen]; simp
          exact ⟨0, [], false, none, 0, hnew, Nat.le_refl _, hv, fun _ => ⟨Nat.le_refl _, fun _ => rfl, .inl ⟨rfl, rfl⟩⟩⟩
        · simp at e
      · exact cutEnd e
    · simp at e
  · simp at e
theorem RepL.set {x : AV} : ∀ (cs : List AV) (vs : List Value) (j : Nat), RepL μ h w cs vs → (∀ v, vs[j]? = some v → Rep μ h w x v) → RepL μ h w (cs.set j x) vs
  | [], vs, j, r, _ => r
  | c :: cs, vs, j, r, hx => by
    obtain ⟨v, vr, rfl, h1, h2⟩ := r
    cases j with
    | zero => exact ⟨v, vr, rfl, hx v rfl, h2⟩
    | succ j => exact ⟨v, vr, rfl, h1, RepL.set cs vr j h2 fun u hu => hx u (by simpa using hu)⟩
theorem singles_set {x : AV} (hx : single x = true) : ∀ (cs : List AV) (j : Nat), singles cs = true → singles (cs.set j x) = true
  | [], _, _ => rfl
  | c :: cs, j, e => by
    simp only [singles, Bool.and_eq_true] at e
    cases j with
    | zero => simp [singles, hx, e.2]
    | succ j => simp [singles, e.1, singles_set hx cs j e.2]
theorem owned_sound {t : Array Value} : ∀ (os : List (Nat × Option Nat × Nat × Bool)) (fr fr' : Fr) (h h' : Heap) (μ : Mp Bs), Rel μ h w → FrRel μ h w fr t → owned fr h os = (fr', h') → ∃ μ', Rel μ' h' w ∧ Ext μ h w μ' h' w ∧ FrRel μ' h' w fr' t
  | [], fr, fr', h, h', μ, hr, hf, e => by
    simp only [owned, Prod.mk.injEq] at e
    obtain ⟨rfl, rfl⟩ := e
    exact ⟨μ, hr, Ext.refl _ _ _, hf⟩
  | (i, some d, z, q) :: os, fr, fr', h, h', μ, hr, hf, e => by
    have rest : owned fr h os = (fr', h') → ∃ μ', Rel μ' h' w ∧ Ext μ h w μ' h' w ∧ FrRel μ' h' w fr' t := owned_sound os _ _ _ _ _ hr hf
    simp only [owned] at e
    split at e
    · split at e
      · rename_i l o hx _ cs hl
        split at e
        · rename_i hn
          have hp := Ext.push hr (.rows z [] q) none
          have hr1 : Rel (μ.set h.length none) (h ++ [Blk.rows z [] q]) w := Rel.push hr (.rows z [] q) none (.inl ⟨rfl, set_same _ _⟩)
          have hlt := (List.getElem?_eq_some_iff.1 hl).1
          have hl1 : (h ++ [Blk.rows z [] q])[l]? = some (.cells cs) := by rw [List.getElem?_append_left hlt]; exact hl
          obtain ⟨b, vs, T, h1, h2, h3, h4⟩ := hr1.blk l _ hl1
          have hu : Ext (μ.set h.length none) (h ++ [Blk.rows z [] q]) w (μ.set h.length none) ((h ++ [Blk.rows z [] q]).set l (.cells (cs.set (o + d) (.own h.length 0)))) w :=
            Ext.update hr1 hl1 h1 h2 h2 (fun _ _ => rfl) rfl rfl rfl (Nat.le_refl _) rfl (fun _ _ hv _ => hv) (fun _ _ => trivial) trivial
          have hlen : h.length ≠ l := by omega
          have hr2 : Rel (μ.set h.length none) ((h ++ [Blk.rows z [] q]).set l (.cells (cs.set (o + d) (.own h.length 0)))) w := by
            refine Rel.update hr1 hl1 h1 (fun _ _ => rfl) hu ⟨b, vs, T, h1, h2, singles_set rfl _ _ h3, RepL.set cs vs (o + d) (RepL.ext hu _ _ h4) fun v hv => ?_⟩
            have h5 := (RepL.at cs vs h4).2 (o + d) .nils hn
            obtain ⟨v', h6, h7⟩ := h5
            have : v' = v := by
              have h6' : vs[o + d]? = some v' := h6
              rw [h6'] at hv
              simpa using hv
            subst this
            have hv' : v' = .slice none 0 0 := h7
            exact ⟨z, [], q, none, 0, by rw [List.getElem?_set_ne (fun e => hlen e.symm)]; simp, Nat.le_refl _, hv', fun _ => ⟨Nat.le_refl _, fun _ => rfl, .inl ⟨rfl, rfl⟩⟩⟩
          obtain ⟨μ', q1, q2, q3⟩ := owned_sound os _ _ _ _ _ hr2 (FrRel.ext (hp.trans hu) hf) e
          exact ⟨μ', q1, (hp.trans hu).trans q2, q3⟩
        · exact rest e
      · exact rest e
    · exact rest e
  | (i, none, z, q) :: os, fr, fr', h, h', μ, hr, hf, e => by
    simp only [owned] at e
    split at e
    · rename_i hx
      have hp := Ext.push hr (.rows z [] q) none
      have hr' : Rel (μ.set h.length none) (h ++ [.rows z [] q]) w := Rel.push hr (.rows z [] q) none (.inl ⟨rfl, set_same _ _⟩)
      have hv := hf i
      rw [hx] at hv
      have hv' : t.getD i undef = .slice none 0 0 := hv
      have hf' : FrRel (μ.set h.length none) (h ++ [.rows z [] q]) w ((i, .own h.length 0) :: fr) t := fun j => by
        simp only [get]
        split
        · rename_i hij
          subst hij
          exact ⟨z, [], q, none, 0, by simp, Nat.le_refl _, hv', fun _ => ⟨Nat.le_refl _, fun _ => rfl, .inl ⟨rfl, rfl⟩⟩⟩
        · exact Rep.ext hp _ _ (hf j)
      obtain ⟨μ', h1, h2, h3⟩ := owned_sound os _ _ _ _ _ hr' hf' e
      exact ⟨μ', h1, hp.trans h2, h3⟩
    · exact owned_sound os _ _ _ _ _ hr hf e
theorem ownedB_sound {t : Array Value} {fr : Fr} : ∀ (os : List (Nat × Nat × TypeId)) (h : Heap) (μ : Mp Bs), Rel μ h w → FrRel μ h w fr t → ∃ μ', Rel μ' (ownedB fr h os) w ∧ Ext μ h w μ' (ownedB fr h os) w ∧ FrRel μ' (ownedB fr h os) w fr t
  | [], h, μ, hr, hf => ⟨μ, hr, Ext.refl _ _ _, hf⟩
  | (i, d, ty) :: os, h, μ, hr, hf => by
    have rest : ∃ μ', Rel μ' (ownedB fr h os) w ∧ Ext μ h w μ' (ownedB fr h os) w ∧ FrRel μ' (ownedB fr h os) w fr t := ownedB_sound os h μ hr hf
    simp only [ownedB]
    split
    · rename_i ty' l o hx
      split
      · rename_i cs hl
        split
        · rename_i hn
          have hp := Ext.push hr (.rows 1 [] false) none
          have hr1 : Rel (μ.set h.length none) (h ++ [Blk.rows 1 [] false]) w := Rel.push hr (.rows 1 [] false) none (.inl ⟨rfl, set_same _ _⟩)
          have hlt := (List.getElem?_eq_some_iff.1 hl).1
          have hl1 : (h ++ [Blk.rows 1 [] false])[l]? = some (.cells cs) := by rw [List.getElem?_append_left hlt]; exact hl
          obtain ⟨b, vs, T, h1, h2, h3, h4⟩ := hr1.blk l _ hl1
          have hu : Ext (μ.set h.length none) (h ++ [Blk.rows 1 [] false]) w (μ.set h.length none) ((h ++ [Blk.rows 1 [] false]).set l (.cells (cs.set (o + d) (.town ty h.length 0)))) w :=
            Ext.update hr1 hl1 h1 h2 h2 (fun _ _ => rfl) rfl rfl rfl (Nat.le_refl _) rfl (fun _ _ hv _ => hv) (fun _ _ => trivial) trivial
          have hlen : h.length ≠ l := by omega
          have hr2 : Rel (μ.set h.length none) ((h ++ [Blk.rows 1 [] false]).set l (.cells (cs.set (o + d) (.town ty h.length 0)))) w := by
            refine Rel.update hr1 hl1 h1 (fun _ _ => rfl) hu ⟨b, vs, T, h1, h2, singles_set rfl _ _ h3, RepL.set cs vs (o + d) (RepL.ext hu _ _ h4) fun v hv => ?_⟩
            have h5 := (RepL.at cs vs h4).2 (o + d) .nils hn
            obtain ⟨v', h6, h7⟩ := h5
            have : v' = v := by
              have h6' : vs[o + d]? = some v' := h6
              rw [h6'] at hv
              simpa using hv
            subst this
            have hv' : v' = .slice none 0 0 := h7
            exact ⟨1, [], false, none, 0, by rw [List.getElem?_set_ne (fun e => hlen e.symm)]; simp, Nat.le_refl _, hv', fun _ => ⟨Nat.le_refl _, fun _ => rfl, .inl ⟨rfl, rfl⟩⟩⟩
          obtain ⟨μ', q1, q2, q3⟩ := ownedB_sound os _ _ hr2 (FrRel.ext (hp.trans hu) hf)
          exact ⟨μ', q1, (hp.trans hu).trans q2, q3⟩
        · exact rest
      · exact rest
    · exact rest
theorem OpsFit.mono {n m : Nat} {ops : Array Oper} (h : OpsFit n ops) (hn : n ≤ m) : OpsFit m ops := fun i o ho d hd => Nat.lt_of_lt_of_le (h i o ho d hd) hn
theorem region_sound (hC : CfgOk Bs C) (hF : Knows Bs C.P F) {f id n : Nat} {ops : Array Oper} {draw : Bool} {fr fr' : Fr} {a : Act} (hok : CodeOk C f n (.region id ops draw)) (hn : n ≤ a.tmps.size) (hr : Rel μ h w) (hf : FrRel μ h w fr a.tmps)
    (e : regionV C F f id ops.toList draw fr h = some (fr', h')) : (Code.region id ops draw).wp C.P (fun x a' w' => x = .normal ∧ ∃ μ', Rel μ' h' w' ∧ Ext μ h w μ' h' w' ∧ FrRel μ' h' w' fr' a'.tmps ∧ a'.tmps.size = a.tmps.size ∧ a'.defers = a.defers) a w := by
  obtain ⟨hfit, hdraw⟩ := hok
  have hE : Ends μ h w a fr' h' (fun x a' w' => x = .normal ∧ ∃ μ', Rel μ' h' w' ∧ Ext μ h w μ' h' w' ∧ FrRel μ' h' w' fr' a'.tmps ∧ a'.tmps.size = a.tmps.size ∧ a'.defers = a.defers) :=
    fun a' μ' w' q1 q2 q3 q4 q5 => ⟨rfl, μ', q1, q2, q3, q4, q5⟩
  cases draw with
  | false =>
    simp only [regionV] at e
    refine wp_region ?_
    have := aOps_sound hF ops.toList 0 fr fr' h h' a μ w (by simp) (hfit.mono hn) hr hf e hE
    simpa [List.range_eq_range'] using this
  | true =>
    simp only [regionV] at e
    obtain ⟨B, hO⟩ := hdraw rfl
    exact draw_sound hF hO hC.mixed (hfit.mono hn) hr hf e hE
end
section
variable {Bs : World → Prop}
variable {C : Cfg} {F : Tk → Res}
theorem ItsOk.cons {f n : Nat} {x : It} {ks : List It} (h : ItOk C f n x) (hs : ItsOk C f n ks) : ItsOk C f n (x :: ks) := fun y hy => by
  rcases List.mem_cons.1 hy with rfl | hy
  · exact h
  · exact hs y hy
theorem ItsOk.tail {f n : Nat} {x : It} {ks : List It} (h : ItsOk C f n (x :: ks)) : ItsOk C f n ks := fun y hy => h y (List.mem_cons_of_mem _ hy)
theorem ItsOk.head {f n : Nat} {x : It} {ks : List It} (h : ItsOk C f n (x :: ks)) : ItOk C f n x := h x (by simp)
theorem entry_get : ∀ (args : List AV) (vs : List Value) (n i : Nat) {μ : Mp Bs} {h : Heap} {w : World}, RepL μ h w args vs → Rep μ h w (get (entry n args) (n + i)) (vs.getD i undef)
  | [], vs, n, i, _, _, _, r => by
    have : vs = [] := r
    subst this
    simp [entry, get, Rep, PRep]
  | a :: r, vs, n, i, μ, h, w, x => by
    obtain ⟨v, vr, rfl, h1, h2⟩ := x
    simp only [entry, get]
    cases i with
    | zero => simpa using h1
    | succ i =>
      have : ¬ n = n + (i + 1) := by omega
      rw [if_neg this]
      have := entry_get r vr (n + 1) i h2
      rw [show n + (i + 1) = n + 1 + i by omega]
      simpa using this
theorem entry_any : ∀ (args : List AV) (n i : Nat), n + args.length ≤ i → get (entry n args) i = .any
  | [], _, _, _ => rfl
  | a :: r, n, i, hi => by
    simp only [List.length_cons] at hi
    simp only [entry, get]
    rw [if_neg (by omega)]
    exact entry_any r (n + 1) i (by omega)
theorem RepL.length {μ : Mp Bs} {h : Heap} {w : World} : ∀ {l : List AV} {vs : List Value}, RepL μ h w l vs → l.length = vs.length
  | [], vs, r => by
    have : vs = [] := r
    subst this; rfl
  | a :: r, vs, x => by
    obtain ⟨v, vr, rfl, _, h2⟩ := x
    simp [RepL.length h2]
theorem entry_rel {args : List AV} {vs : List Value} {μ : Mp Bs} {h : Heap} {w : World} (m : Nat) (r : RepL μ h w args vs) : FrRel μ h w (entry 0 args) (vs.toArray ++ Array.replicate (m - vs.toArray.size) undef) := fun i => by
  rcases Nat.lt_or_ge i args.length with hi | hi
  · have := entry_get args vs 0 i r
    rw [Nat.zero_add] at this
    have hlen := r.length
    rw [Array.getD_eq_getD_getElem?, Array.getElem?_append_left (by simp; omega)]
    simpa [List.getD_eq_getElem?_getD] using this
  · rw [entry_any args 0 i (by omega)]
    exact trivial
theorem enter_called {f : Nat} {args : List AV} {h h' : Heap} {r : AV} (hC : CfgOk Bs C) (hR : Runs Bs C F) (hg : C.good f = true) {os : List (Nat × Nat × TypeId)} (e : enter F f args h os C.P.funcs[f]? = some (r, h')) : Go.Proofs.Enters C.P f ∧ Called Bs C.P f args h r h' := by
  obtain ⟨fn, c, hfn, hb, hname, hok⟩ := hC.good f hg
  refine ⟨Go.Proofs.enters_of hfn hname hb, fun μ w vs hr ha cs => ?_⟩
  unfold enter at e
  simp only [hfn, hb] at e
  let b : Frame := { (default : Frame) with fn := f, kind := .normal }
  have henter : Frame.enter C.P f vs.toArray .normal = b.at { tmps := vs.toArray ++ Array.replicate (fn.ntmps - vs.toArray.size) undef, defers := [] } [.code c] := by
    simp [Frame.enter, Frame.at, hfn, hb, b]
  obtain ⟨μ1, q1, q2, q3⟩ := ownedB_sound os h μ hr (entry_rel (fn.ntmps) ha)
  obtain ⟨a', todo, w', v, μ', h1, h2, h3, h4, h5, h6⟩ := hR f _ [.code c] _ _ r h' e fn hfn (ItsOk.cons hok (fun _ hx => by simp at hx)) b cs
    { tmps := vs.toArray ++ Array.replicate (fn.ntmps - vs.toArray.size) undef, defers := [] } μ1 w μ1 _ w rfl q1 (Ext.refl _ _ _) q3 (by simp; omega) rfl
  refine ⟨.returned v, w', { b.at a' todo with mode := .returning }, ⟨v, μ', rfl, h4, q2.trans h5, h6⟩, ?_, rfl, rfl, h2, rfl, fn, hfn, h3⟩
  rw [henter]
  exact h1
theorem out_runs (hR : Runs Bs C F) {f k : Nat} {ks : List It} {n : Nat} {fr : Fr} {h h' : Heap} {r : AV} {o : Option (List Nat)} (e : outOf F f k ks n fr h o = some (r, h')) {fn : Func} (hfn : C.P.funcs[f]? = some fn) (hks : ItsOk C f fn.ntmps ks) {b : Frame} {cs : List Frame} {a : Act} {μ : Mp Bs} {w : World} {μ0 : Mp Bs} {h0 : Heap} {w0 : World}
    (hk : h0.length = k) (hr : Rel μ h w) (ex : Ext μ0 h0 w0 μ h w) (hf : FrRel μ h w fr a.tmps) (hn : fn.ntmps ≤ a.tmps.size) (hd : a.defers = []) : Ran C.P fn (lone (b.at a (items ks)) cs w) b cs μ0 h0 w0 r h' := by
  cases o with
  | none => exact hR f k ks fr h r h' e fn hfn hks b cs a μ w μ0 h0 w0 hk hr ex hf hn hd
  | some l =>
    simp only [outOf] at e
    split at e
    · rename_i hc
      simp only [Bool.and_eq_true, decide_eq_true_eq] at hc
      obtain ⟨h1, h2, h3⟩ := hc
      exact hR f k ks _ _ r h' e fn hfn hks b cs a μ w μ0 h0 w0 hk (hr.cut h3) (ex.cut (by omega)) (FrRel.cut h2 (hf.restr l)) hn hd
    · simp at e
theorem code_runs (hC : CfgOk Bs C) (hF : Knows Bs C.P F) (hR : Runs Bs C F) : Runs Bs C (stepT C F) := by
  intro f k ks fr h r h' e fn hfn hks b cs a μ w μ0 h0 w0 hk hr ex hf hn hd
  match ks, hks, e with
  | [], _, e => exact Ran.of_steps (.one step_end) (ret_sound hfn e hk hr ex hf hd)
  | .blk id n :: ks, hks, e => exact Ran.of_steps (.one step_inBlock) (out_runs hR e hfn hks.tail hk hr ex hf hn hd)
  | .lp c none n :: ks, hks, e => exact Ran.of_steps (.one step_inLoop) (hR f k _ fr h r h' e fn hfn (ItsOk.cons hks.head hks) b cs a μ w μ0 h0 w0 hk hr ex hf hn hd)
  | .lp c (some live) n :: ks, hks, e =>
    simp only [stepT, onRound, onTurn] at e
    split at e
    · rename_i fr1 h1 hz
      obtain ⟨μ1, q1, q2, q3⟩ := frz_sound hk live.2 _ _ _ _ _ hr ex (hf.restr live.1) hz
      split at e
      · rename_i hc
        simp only [Bool.and_eq_true, decide_eq_true_eq] at hc
        obtain ⟨c1, c2, c3⟩ := hc
        exact Ran.of_steps (.one step_inLoop) (hR f k _ _ _ r h' e fn hfn (ItsOk.cons hks.head hks) b cs a μ1 w μ0 h0 w0 hk (q1.cut c3) (q2.cut (by omega)) (FrRel.cut c2 q3) hn hd)
      · simp at e
    · simp at e
  | .code c :: ks, hks, e =>
    have hc : CodeOk C f fn.ntmps c := hks.head
    cases c with
    | skip => exact Ran.of_steps (.one step_skip) (hR f k ks fr h r h' e fn hfn hks.tail b cs a μ w μ0 h0 w0 hk hr ex hf hn hd)
    | seq x y => exact Ran.of_steps (.one step_seq) (hR f k _ fr h r h' e fn hfn (ItsOk.cons hc.1 (ItsOk.cons hc.2 hks.tail)) b cs a μ w μ0 h0 w0 hk hr ex hf hn hd)
    | region id ops draw =>
      simp only [stepT, onReg] at e
      split at e
      · rename_i fr1 h1 hreg
        obtain ⟨x, a1, w1, ⟨rfl, μ1, q1, q2, q3, q4, q5⟩, harr⟩ := region_sound hC hF hc hn hr hf hreg b (items ks) cs
        exact Ran.of_steps harr (hR f k ks fr1 h1 r h' e fn hfn hks.tail b cs a1 μ1 w1 μ0 h0 w0 hk q1 (ex.trans q2) q3 (by omega) (by rw [q5]; exact hd))
      · simp at e
    | cond x p q =>
      simp only [stepT, onCond] at e
      split at e
      · rename_i t ht
        have hx := ev_rep hf x
        rw [ht] at hx
        have hx' : a.eval x = .bool t := hx
        have hstep := step_cond (P := C.P) (b := b) (k := items ks) (cs := cs) (w := w) (x := p) (y := q) hx'
        cases t with
        | true => exact Ran.of_steps (.one hstep) (hR f k _ fr h r h' e fn hfn (ItsOk.cons hc.1 hks.tail) b cs a μ w μ0 h0 w0 hk hr ex hf hn hd)
        | false => exact Ran.of_steps (.one hstep) (hR f k _ fr h r h' (by simpa using e) fn hfn (ItsOk.cons (x := .code q) hc.2 hks.tail) b cs a μ w μ0 h0 w0 hk hr ex hf hn hd)
      · simp at e
    | block id c =>
      have plain : F (.run f k (.code c :: .blk id h.length :: ks) fr h) = some (r, h') → Ran C.P fn (lone (b.at a (items (.code (.block id c) :: ks))) cs w) b cs μ0 h0 w0 r h' := fun e =>
        Ran.of_steps (.one step_block) (hR f k _ fr h r h' e fn hfn (ItsOk.cons (x := .code c) hc (ItsOk.cons (x := .blk id h.length) trivial hks.tail)) b cs a μ w μ0 h0 w0 hk hr ex hf hn hd)
      simp only [stepT, onBlock] at e
      split at e
      · rename_i live os fz hl
        split at e
        · rename_i c'
          unfold onLoop at e
          split at e
          · rename_i fr2 h2 hz
            obtain ⟨μ1, q1, q2, q3⟩ := owned_sound os fr _ h _ μ hr hf rfl
            obtain ⟨μ2, p1, p2, p3⟩ := frz_sound hk fz _ _ _ _ _ q1 (ex.trans q2) (q3.restr live) hz
            exact Ran.of_steps (.head step_block (.one step_loop)) (hR f k _ _ _ r h' e fn hfn (ItsOk.cons (x := .code c') hc (ItsOk.cons (x := .lp c' _ _) hc (ItsOk.cons (x := .blk id _) trivial hks.tail))) b cs a μ2 w μ0 h0 w0 hk p1 p2 p3 hn hd)
          · simp at e
        · exact plain e
      · exact plain e
    | loop c => exact Ran.of_steps (.one step_loop) (hR f k _ fr h r h' e fn hfn (ItsOk.cons (x := .code c) hc (ItsOk.cons (x := .lp c none 0) hc hks.tail)) b cs a μ w μ0 h0 w0 hk hr ex hf hn hd)
    | exit id =>
      simp only [stepT, onUnw] at e
      split at e
      · rename_i n ks' hu
        obtain ⟨h1, h2⟩ := unwind_items hu
        exact Ran.of_steps (.one (step_exit h1)) (out_runs hR e hfn (fun x hx => hks x (List.mem_cons_of_mem _ (h2 x hx))) hk hr ex hf hn hd)
      · simp at e
    | ret => exact Ran.of_steps (.one step_ret) (ret_sound hfn e hk hr ex hf hd)
    | _ => simp [stepT] at e
theorem calls_known (hC : CfgOk Bs C) (hR : Runs Bs C F) : Knows Bs C.P (stepT C F) := by
  intro f args h r h' e
  simp only [stepT] at e
  split at e
  · rename_i v hv
    split at e
    · simp only [Option.some.injEq, Prod.mk.injEq] at e
      obtain ⟨rfl, rfl⟩ := e
      exact hC.prim f args _ hv
    · simp at e
  · split at e
    · rename_i x hx
      simp only [Option.some.injEq] at e
      subst e
      exact hC.primH f args h _ _ hx
    · split at e
      · rename_i hg
        exact enter_called hC hR hg e
      · simp at e
theorem run_known (hC : CfgOk Bs C) : ∀ n, Knows Bs C.P (Go.Ab.runN C n) ∧ Runs Bs C (Go.Ab.runN C n)
  | 0 => ⟨fun _ _ _ _ _ e => by simp [Go.Ab.runN] at e, fun _ _ _ _ _ _ _ e => by simp [Go.Ab.runN] at e⟩
  | n + 1 => by
    obtain ⟨h1, h2⟩ := run_known hC n
    exact ⟨calls_known hC h2, code_runs hC h1 h2⟩
end
section
variable {Bs : World → Prop}
def lo {α : Type} (a b : Option α) : Prop := a = none ∨ a = b
theorem lo.map {α β : Type} {a b : Option α} (g : Option α → Option β) (h0 : g none = none) (h : lo a b) : lo (g a) (g b) := by
  rcases h with h | h
  · exact .inl (by rw [h, h0])
  · exact .inr (by rw [h])
def leF (F F' : Tk → Res) : Prop := ∀ t, lo (F t) (F' t)
end
section
variable {Bs : World → Prop}
variable {C : Cfg} {F F' : Tk → Res} {h : Heap} {ev : Operand → AV}
theorem callD_lo (hF : leF F F') (args : List AV) (f : AV) : lo (callD F h args f) (callD F' h args f) := by
  unfold callD
  split
  · split
    · exact (hF _).map afterD rfl
    · exact .inr rfl
  · exact .inr rfl
theorem callIn_lo (hF : leF F F') (g : Nat) (ls : List Nat) (args : List AV) : lo (callIn F g h ls args) (callIn F' g h ls args) := by
  unfold callIn
  split
  · split
    · split
      · exact (hF _).map (afterIn h ls) rfl
      · exact .inr rfl
    · exact .inr rfl
  · exact .inr rfl
theorem callV_lo (hF : leF F F') (args : List AV) (f : AV) : lo (callV F h args f) (callV F' h args f) := by
  unfold callV
  split
  · unfold callBy
    split
    · exact (hF _).map (afterPure h) rfl
    · split
      · exact callIn_lo hF _ _ _
      · exact .inr rfl
  · exact .inr rfl
theorem stepD_lo (hF : leF F F') (o : Op) : lo (stepD C F ev h o) (stepD C F' ev h o) := by
  cases o with
  | call c =>
    simp only [stepD, callOpD]
    split
    · exact callD_lo hF _ _
    · exact .inr rfl
    · exact .inr rfl
  | makeFunc f first captured => cases f <;> exact .inr rfl
  | slice t x lo hi mx => cases mx <;> exact .inr rfl
  | _ => exact .inr rfl
theorem stepO_lo (hF : leF F F') (o : Op) : lo (stepO C F ev h o) (stepO C F' ev h o) := by
  have hd : lo (val h (stepD C F ev h o)) (val h (stepD C F' ev h o)) := (stepD_lo hF o).map (val h) rfl
  cases o with
  | call c =>
    simp only [stepO, callOp]
    split
    · exact callV_lo hF _ _
    · exact .inr rfl
    · exact .inr rfl
    · exact .inr rfl
  | alloc t => exact .inr rfl
  | box t x => exact .inr rfl
  | store t a v => exact .inr rfl
  | makeSlice t n m => exact .inr rfl
  | makeMap t r => cases r <;> exact .inr rfl
  | mapUpdate t m k v => exact .inr rfl
  | insert t m k v => exact .inr rfl
  | _ => simpa only [stepO] using hd
theorem stepQ_lo (hF : leF F F') (dy : List (Nat × Nat)) (pl : Nat → Nat) (i : Nat) (o : Op) : lo (stepQ C F dy pl i ev h o) (stepQ C F' dy pl i ev h o) := by
  unfold stepQ
  split
  · exact (stepD_lo hF o).map (val h) rfl
  · split
    · exact .inr rfl
    · exact stepO_lo hF o
theorem aOps_lo (hF : leF F F') (all : List Oper) : ∀ (l : List Oper) (fr : Fr) (h : Heap), lo (aOps C F all l fr h) (aOps C F' all l fr h)
  | [], _, _ => .inr rfl
  | o :: l, fr, h => by
    have step : lo (match stepO C F (ev fr) h o.op with
        | some (v, h) => aOps C F all l (put fr o.dst v) h
        | none => none) (match stepO C F' (ev fr) h o.op with
        | some (v, h) => aOps C F' all l (put fr o.dst v) h
        | none => none) := by
      rcases stepO_lo (C := C) (ev := ev fr) (h := h) hF o.op with e | e
      · rw [e]; exact .inl rfl
      · rw [e]
        split
        · exact aOps_lo hF all l _ _
        · exact .inr rfl
    simp only [aOps]
    split
    · exact step
    · split
      · split
        · exact step
        · exact aOps_lo hF all l _ _
      · exact aOps_lo hF all l _ _
      · exact .inr rfl
theorem aOpsD_lo (hF : leF F F') (dy : List (Nat × Nat)) (pl : Nat → Nat) (all : List Oper) : ∀ (l : List Oper) (i : Nat) (fr : Fr) (h : Heap), lo (aOpsD C F dy pl all i l fr h) (aOpsD C F' dy pl all i l fr h)
  | [], _, _, _ => .inr rfl
  | o :: l, i, fr, h => by
    have step : lo (match stepQ C F dy pl i (ev fr) h o.op with
        | some (v, h') => match aOpsD C F dy pl all (i + 1) l (put fr o.dst v) h' with
          | some (fr', h'', l) => some (fr', h'', (i, touchesQ dy i (ev fr) h o.op) :: l)
          | none => none
        | none => none) (match stepQ C F' dy pl i (ev fr) h o.op with
        | some (v, h') => match aOpsD C F' dy pl all (i + 1) l (put fr o.dst v) h' with
          | some (fr', h'', l) => some (fr', h'', (i, touchesQ dy i (ev fr) h o.op) :: l)
          | none => none
        | none => none) := by
      rcases stepQ_lo (C := C) (ev := ev fr) (h := h) hF dy pl i o.op with e | e
      · rw [e]; exact .inl rfl
      · rw [e]
        split
        · rename_i v h' _
          rcases aOpsD_lo hF dy pl all l (i + 1) (put fr o.dst v) h' with e2 | e2
          · rw [e2]; exact .inl rfl
          · rw [e2]; exact .inr rfl
        · exact .inr rfl
    simp only [aOpsD]
    split
    · exact step
    · split
      · split
        · exact step
        · exact aOpsD_lo hF dy pl all l _ _ _
      · exact aOpsD_lo hF dy pl all l _ _ _
      · exact .inr rfl
theorem outOf_lo (hF : leF F F') (f k : Nat) (ks : List It) (n : Nat) (fr : Fr) (h : Heap) (o : Option (List Nat)) : lo (outOf F f k ks n fr h o) (outOf F' f k ks n fr h o) := by
  cases o with
  | none => exact hF _
  | some l =>
    simp only [outOf]
    split
    · exact hF _
    · exact .inr rfl
theorem stepT_lo (hF : leF F F') (t : Tk) : lo (stepT C F t) (stepT C F' t) := by
  match t with
  | .call f args h =>
    simp only [stepT]
    split
    · exact .inr rfl
    · split
      · exact .inr rfl
      · split
        · unfold enter
          split
          · split
            · exact hF _
            · exact .inr rfl
          · exact .inr rfl
        · exact .inr rfl
  | .run f k [] fr h => exact .inr rfl
  | .run f k (.blk _ _ :: ks) fr h => exact outOf_lo hF _ _ _ _ _ _ _
  | .run f k (.lp c none n :: ks) fr h => exact hF _
  | .run f k (.lp c (some live) n :: ks) fr h =>
    simp only [stepT, onRound]
    unfold onTurn
    split
    · split
      · exact hF _
      · exact .inr rfl
    · exact .inr rfl
  | .run f k (.code c :: ks) fr h =>
    cases c with
    | skip => exact hF _
    | seq a b => exact hF _
    | region id ops draw =>
      simp only [stepT]
      have : lo (regionV C F f id ops.toList draw fr h) (regionV C F' f id ops.toList draw fr h) := by
        cases draw with
        | false => exact aOps_lo hF _ _ _ _
        | true => exact (aOpsD_lo hF _ _ _ _ _ _ _).map (shutD _) rfl
      rcases this with e | e
      · rw [e]; exact .inl rfl
      · rw [e]
        unfold onReg
        split
        · exact hF _
        · exact .inr rfl
    | cond x a b =>
      simp only [stepT, onCond]
      split
      · split
        · exact hF _
        · exact hF _
      · exact .inr rfl
    | block id c =>
      simp only [stepT, onBlock]
      split
      · split
        · unfold onLoop
          split
          · exact hF _
          · exact .inr rfl
        · exact hF _
      · exact hF _
    | loop c => exact hF _
    | exit id =>
      simp only [stepT, onUnw]
      split
      · exact outOf_lo hF _ _ _ _ _ _ _
      · exact .inr rfl
    | ret => exact .inr rfl
    | _ => exact .inr rfl
theorem lo.trans {α : Type} {a b c : Option α} (h : lo a b) (h' : lo b c) : lo a c := by
  rcases h with h | h
  · exact .inl h
  · rw [h]; exact h'
theorem runN_succ : ∀ (n : Nat) (t : Tk), lo (Go.Ab.runN C n t) (Go.Ab.runN C (n + 1) t)
  | 0, _ => .inl rfl
  | n + 1, t => stepT_lo (C := C) (F := Go.Ab.runN C n) (F' := Go.Ab.runN C (n + 1)) (runN_succ n) t
theorem runN_add (n : Nat) (t : Tk) : ∀ k, lo (Go.Ab.runN C n t) (Go.Ab.runN C (n + k) t)
  | 0 => .inr rfl
  | k + 1 => (runN_add n t k).trans (runN_succ (n + k) t)
theorem runN_up {n m : Nat} (hm : n ≤ m) {t : Tk} {r : AV × Heap} (e : Go.Ab.runN C n t = some r) : Go.Ab.runN C m t = some r := by
  have := runN_add (C := C) n t (m - n)
  rw [show n + (m - n) = m by omega] at this
  rcases this with h | h
  · rw [h] at e; simp at e
  · rw [← h]; exact e
open Classical in
noncomputable def R (C : Cfg) (t : Tk) : Res := if h : ∃ n r, Go.Ab.runN C n t = some r then some h.choose_spec.choose else none
theorem R_of_runN {n : Nat} {t : Tk} {r : AV × Heap} (e : Go.Ab.runN C n t = some r) : R C t = some r := by
  have h : ∃ n r, Go.Ab.runN C n t = some r := ⟨n, r, e⟩
  unfold R
  rw [dif_pos h]
  have h1 := runN_up (Nat.le_max_left n h.choose) e
  have h2 := runN_up (Nat.le_max_right n h.choose) h.choose_spec.choose_spec
  rw [h1] at h2
  exact h2.symm
theorem runN_of_R {t : Tk} {r : AV × Heap} (e : R C t = some r) : ∃ n, Go.Ab.runN C n t = some r := by
  unfold R at e
  split at e
  · rename_i h
    simp only [Option.some.injEq] at e
    exact ⟨_, e ▸ h.choose_spec.choose_spec⟩
  · simp at e
theorem runN_no {t : Tk} (e : R C t = none) (n : Nat) : Go.Ab.runN C n t = none := by
  cases h : Go.Ab.runN C n t with
  | none => rfl
  | some r => rw [R_of_runN h] at e; simp at e
def Ev {α : Type} (C : Cfg) (G : (Tk → Res) → α) : Prop := ∃ n, ∀ m, n ≤ m → G (Go.Ab.runN C m) = G (R C)
theorem Ev.ask (t : Tk) : Ev C fun F => F t := by
  cases e : R C t with
  | none => exact ⟨0, fun m _ => by show Go.Ab.runN C m t = R C t; rw [e, runN_no e m]⟩
  | some r =>
    obtain ⟨n, h⟩ := runN_of_R e
    exact ⟨n, fun m hm => by show Go.Ab.runN C m t = R C t; rw [e, runN_up hm h]⟩
theorem Ev.no {α : Type} (x : α) : Ev C fun _ => x := ⟨0, fun _ _ => rfl⟩
theorem Ev.map {α β : Type} {G : (Tk → Res) → α} (h : Ev C G) (f : α → β) : Ev C fun F => f (G F) := by
  obtain ⟨n, h⟩ := h
  exact ⟨n, fun m hm => congrArg f (h m hm)⟩
theorem Ev.bind {α β : Type} {G : (Tk → Res) → α} (h : Ev C G) (H : α → (Tk → Res) → β) (h' : ∀ a, Ev C (H a)) : Ev C fun F => H (G F) F := by
  obtain ⟨n, h⟩ := h
  obtain ⟨k, h'⟩ := h' (G (R C))
  exact ⟨n + k, fun m hm => by show H (G _) _ = H (G _) _; rw [h m (by omega), h' m (by omega)]⟩
theorem callD_ev (args : List AV) (f : AV) : Ev C fun F => callD F h args f := by
  unfold callD
  split
  · split
    · exact (Ev.ask _).map afterD
    · exact Ev.no _
  · exact Ev.no _
theorem callIn_ev (g : Nat) (ls : List Nat) (args : List AV) : Ev C fun F => callIn F g h ls args := by
  unfold callIn
  split
  · split
    · split
      · exact (Ev.ask _).map (afterIn h ls)
      · exact Ev.no _
    · exact Ev.no _
  · exact Ev.no _
theorem callV_ev (args : List AV) (f : AV) : Ev C fun F => callV F h args f := by
  unfold callV
  split
  · unfold callBy
    split
    · exact (Ev.ask _).map (afterPure h)
    · split
      · exact callIn_ev _ _ _
      · exact Ev.no _
  · exact Ev.no _
theorem stepD_ev (o : Op) : Ev C fun F => stepD C F ev h o := by
  cases o with
  | call c =>
    simp only [stepD, callOpD]
    split
    · exact callD_ev _ _
    · exact Ev.no _
    · exact Ev.no _
  | makeFunc f first captured => cases f <;> exact Ev.no _
  | slice t x lo hi mx => cases mx <;> exact Ev.no _
  | _ => exact Ev.no _
theorem stepO_ev (o : Op) : Ev C fun F => stepO C F ev h o := by
  have hd : Ev C fun F => val h (stepD C F ev h o) := (stepD_ev o).map (val h)
  cases o with
  | call c =>
    simp only [stepO, callOp]
    split
    · exact callV_ev _ _
    · exact Ev.no _
    · exact Ev.no _
    · exact Ev.no _
  | alloc t => exact Ev.no _
  | box t x => exact Ev.no _
  | store t a v => exact Ev.no _
  | makeSlice t n m => exact Ev.no _
  | makeMap t r => cases r <;> exact Ev.no _
  | mapUpdate t m k v => exact Ev.no _
  | insert t m k v => exact Ev.no _
  | _ => simpa only [stepO] using hd
theorem stepQ_ev (dy : List (Nat × Nat)) (pl : Nat → Nat) (i : Nat) (o : Op) : Ev C fun F => stepQ C F dy pl i ev h o := by
  unfold stepQ
  split
  · exact (stepD_ev o).map (val h)
  · split
    · exact Ev.no _
    · exact stepO_ev o
theorem aOps_ev (all : List Oper) : ∀ (l : List Oper) (fr : Fr) (h : Heap), Ev C fun F => aOps C F all l fr h
  | [], _, _ => Ev.no _
  | o :: l, fr, h => by
    have step : Ev C fun F => (match stepO C F (Go.Ab.ev fr) h o.op with
        | some (v, h) => aOps C F all l (put fr o.dst v) h
        | none => none) := by
      refine Ev.bind (stepO_ev (ev := Go.Ab.ev fr) (h := h) o.op) (fun (x : Option (AV × Heap)) (F : Tk → Res) => (match x with
        | some (v, h) => aOps C F all l (put fr o.dst v) h
        | none => none : Option (Fr × Heap))) ?_
      rintro (_ | ⟨v, h'⟩)
      · exact Ev.no _
      · exact aOps_ev all l _ _
    simp only [aOps]
    split
    · exact step
    · split
      · split
        · exact step
        · exact aOps_ev all l _ _
      · exact aOps_ev all l _ _
      · exact Ev.no _
theorem aOpsD_ev (dy : List (Nat × Nat)) (pl : Nat → Nat) (all : List Oper) : ∀ (l : List Oper) (i : Nat) (fr : Fr) (h : Heap), Ev C fun F => aOpsD C F dy pl all i l fr h
  | [], _, _, _ => Ev.no _
  | o :: l, i, fr, h => by
    have step : Ev C fun F => (match stepQ C F dy pl i (Go.Ab.ev fr) h o.op with
        | some (v, h') => match aOpsD C F dy pl all (i + 1) l (put fr o.dst v) h' with
          | some (fr', h'', l) => some (fr', h'', (i, touchesQ dy i (Go.Ab.ev fr) h o.op) :: l)
          | none => none
        | none => none) := by
      refine Ev.bind (stepQ_ev (ev := Go.Ab.ev fr) (h := h) dy pl i o.op) (fun (x : Option (AV × Heap)) (F : Tk → Res) => (match x with
        | some (v, h') => match aOpsD C F dy pl all (i + 1) l (put fr o.dst v) h' with
          | some (fr', h'', l) => some (fr', h'', (i, touchesQ dy i (Go.Ab.ev fr) h o.op) :: l)
          | none => none
        | none => none : Option (Fr × Heap × List (Nat × List Nat)))) ?_
      rintro (_ | ⟨v, h'⟩)
      · exact Ev.no _
      · exact (aOpsD_ev dy pl all l (i + 1) (put fr o.dst v) h').map fun x => match x with
          | some (fr', h'', l) => some (fr', h'', (i, touchesQ dy i (Go.Ab.ev fr) h o.op) :: l)
          | none => none
    simp only [aOpsD]
    split
    · exact step
    · split
      · split
        · exact step
        · exact aOpsD_ev dy pl all l _ _ _
      · exact aOpsD_ev dy pl all l _ _ _
      · exact Ev.no _
theorem outOf_ev (f k : Nat) (ks : List It) (n : Nat) (fr : Fr) (h : Heap) (o : Option (List Nat)) : Ev C fun F => outOf F f k ks n fr h o := by
  cases o with
  | none => exact Ev.ask _
  | some l =>
    simp only [outOf]
    split
    · exact Ev.ask _
    · exact Ev.no _
theorem stepT_ev (t : Tk) : Ev C fun F => stepT C F t := by
  match t with
  | .call f args h =>
    simp only [stepT]
    split
    · exact Ev.no _
    · split
      · exact Ev.no _
      · split
        · unfold enter
          split
          · split
            · exact Ev.ask _
            · exact Ev.no _
          · exact Ev.no _
        · exact Ev.no _
  | .run f k [] fr h => exact Ev.no _
  | .run f k (.blk _ _ :: ks) fr h => exact outOf_ev _ _ _ _ _ _ _
  | .run f k (.lp c none n :: ks) fr h => exact Ev.ask _
  | .run f k (.lp c (some live) n :: ks) fr h =>
    simp only [stepT, onRound]
    unfold onTurn
    split
    · split
      · exact Ev.ask _
      · exact Ev.no _
    · exact Ev.no _
  | .run f k (.code c :: ks) fr h =>
    cases c with
    | skip => exact Ev.ask _
    | seq a b => exact Ev.ask _
    | region id ops draw =>
      simp only [stepT]
      have : Ev C fun F => regionV C F f id ops.toList draw fr h := by
        cases draw with
        | false => exact aOps_ev _ _ _ _
        | true => exact (aOpsD_ev _ _ _ _ _ _ _).map (shutD _)
      refine Ev.bind this (fun x F => onReg F f k ks x) ?_
      rintro (_ | ⟨fr', h'⟩)
      · exact Ev.no _
      · exact Ev.ask _
    | cond x a b =>
      simp only [stepT, onCond]
      split
      · split
        · exact Ev.ask _
        · exact Ev.ask _
      · exact Ev.no _
    | block id c =>
      simp only [stepT, onBlock]
      split
      · split
        · unfold onLoop
          split
          · exact Ev.ask _
          · exact Ev.no _
        · exact Ev.ask _
      · exact Ev.ask _
    | loop c => exact Ev.ask _
    | exit id =>
      simp only [stepT, onUnw]
      split
      · exact outOf_ev _ _ _ _ _ _ _
      · exact Ev.no _
    | ret => exact Ev.no _
    | _ => exact Ev.no _
theorem R_eq (t : Tk) : R C t = stepT C (R C) t := by
  obtain ⟨n, h⟩ := stepT_ev (C := C) t
  cases e : stepT C (R C) t with
  | some r => exact R_of_runN (n := n + 1) ((h n (Nat.le_refl _)).trans e)
  | none =>
    cases e2 : R C t with
    | none => rfl
    | some r =>
      obtain ⟨m, hm⟩ := runN_of_R e2
      have h1 := runN_up (show m ≤ n + m + 1 by omega) hm
      have h2 : Go.Ab.runN C (n + m + 1) t = none := (h (n + m) (by omega)).trans e
      rw [h1] at h2
      simp at h2
theorem R_sound (hC : CfgOk Bs C) {f : Nat} {args : List AV} {h h' : Heap} {r : AV} (e : R C (.call f args h) = some (r, h')) : Go.Proofs.Enters C.P f ∧ Called Bs C.P f args h r h' := by
  obtain ⟨n, e⟩ := runN_of_R e
  exact (run_known hC n).1 f args h r h' e
end
def subs (acc : List (List Nat)) : List Edge → List Nat
  | [] => []
  | e :: r => if Region.binds .any e = true then e.on :: (acc.getD e.on [] ++ subs acc r) else subs acc r
def uniq : List Nat → List Nat
  | [] => []
  | x :: r => if (uniq r).contains x = true then uniq r else x :: uniq r
def closeB (acc : List (List Nat)) : List Oper → List (List Nat)
  | [] => acc
  | o :: r => closeB (acc ++ [uniq (subs acc o.after.toList)]) r
def sameDst (i j : Nat) (oi oj : Oper) : Bool :=
  match oi.dst, oj.dst with
  | some d, some d' => !(d == d') || i == j
  | _, _ => true
def isDst (s : Nat) (o : Oper) : Bool :=
  match o.dst with
  | some d => d == s
  | none => false
def pairB (dy : List (Nat × Nat)) (ops : Array Oper) (B : List (List Nat)) (j : Nat) (oj : Oper) (i : Nat) (oi : Oper) : Bool :=
  (!(decide (i < j)) || (bit B j i || (Oper.apart ops oi oj && compat dy i j oi oj))) && (sameDst i j oi oj && (readsT oj.op).all fun s => !(isDst s oi) || bit B j i)
def operB (dy : List (Nat × Nat)) (ops : Array Oper) (B : List (List Nat)) (j : Nat) (oj : Oper) : Bool :=
  ((B.getD j []).all fun i => oj.after.toList.any fun e => Region.binds .any e && (e.on == i || bit B e.on i)) &&
  ((oj.after.toList.all fun e => !(Region.binds .any e) || decide (e.on < j)) &&
  (List.range ops.size).all fun i => match ops[i]? with
    | none => true
    | some oi => pairB dy ops B j oj i oi)
def ordB (dy : List (Nat × Nat)) (ops : Array Oper) (B : List (List Nat)) : Bool :=
  (List.range ops.size).all fun j => match ops[j]? with
    | none => true
    | some oj => operB dy ops B j oj
def fitB (n : Nat) (ops : List Oper) : Bool := ops.all fun o => match o.dst with
  | some d => decide (d < n)
  | none => true
def codeB (dy : Nat → List (Nat × Nat)) (n : Nat) : Code → Bool
  | .region id ops draw => fitB n ops.toList && (!draw || ordB (dy id) ops (closeB [] ops.toList))
  | .seq a b => codeB dy n a && codeB dy n b
  | .cond _ a b => codeB dy n a && codeB dy n b
  | .block _ c => codeB dy n c
  | .loop c => codeB dy n c
  | _ => true
def goodB (P : Program) (dyn : Nat → Nat → List (Nat × Nat)) (f : Nat) : Bool :=
  match P.funcs[f]? with
  | some fn => match fn.body with
    | some c => (fn.name == "runtime.NumGoroutine") == false && codeB (dyn f) fn.ntmps c
    | none => false
  | none => false
theorem ordB_ok {dy : List (Nat × Nat)} {ops : Array Oper} {B : List (List Nat)} (h : ordB dy ops B = true) : Ordered dy ops B := by
  have one : ∀ (j : Nat) (oj : Oper), ops[j]? = some oj → operB dy ops B j oj = true := fun j oj hj => by
    have := List.all_eq_true.1 h j (List.mem_range.2 (Array.getElem?_eq_some_iff.1 hj).1)
    simpa only [hj] using this
  have two : ∀ (i j : Nat) (oi oj : Oper), ops[i]? = some oi → ops[j]? = some oj → pairB dy ops B j oj i oi = true := fun i j oi oj hi hj => by
    have := one j oj hj
    simp only [operB, Bool.and_eq_true] at this
    have := List.all_eq_true.1 this.2.2 i (List.mem_range.2 (Array.getElem?_eq_some_iff.1 hi).1)
    simpa only [hi] using this
  refine ⟨?_, ?_, ?_, ?_, ?_⟩
  · intro j o hj i hb
    have := one j o hj
    simp only [operB, Bool.and_eq_true] at this
    have h1 := List.all_eq_true.1 this.1 i (by simpa [bit] using hb)
    obtain ⟨e, he, h2⟩ := List.any_eq_true.1 h1
    simp only [Bool.and_eq_true, Bool.or_eq_true, beq_iff_eq] at h2
    exact ⟨e, by simpa using he, h2.1, h2.2⟩
  · intro i j oi oj hij hi hj
    have := two i j oi oj hi hj
    simp only [pairB, Bool.and_eq_true, Bool.or_eq_true, Bool.not_eq_true', decide_eq_false_iff_not] at this
    rcases this.1 with h1 | h1
    · exact absurd hij h1
    · exact h1
  · intro i j oi oj d hi hj hd hd'
    have := two i j oi oj hi hj
    simp only [pairB, Bool.and_eq_true] at this
    have h1 := this.2.1
    simp only [sameDst, hd, hd', Bool.or_eq_true, Bool.not_eq_true', beq_self_eq_true, Bool.true_eq_false, false_or, beq_iff_eq] at h1
    exact h1
  · intro j o hj s hs k ok hk hd
    have := two k j ok o hk hj
    simp only [pairB, Bool.and_eq_true] at this
    have h1 := List.all_eq_true.1 this.2.2 s hs
    simpa [isDst, hd] using h1
  · intro j o hj e he hb
    have := one j o hj
    simp only [operB, Bool.and_eq_true] at this
    have h1 := List.all_eq_true.1 this.2.1 e (by simpa using he)
    simpa [hb] using h1
theorem fitB_ok {n : Nat} {ops : Array Oper} (h : fitB n ops.toList = true) : OpsFit n ops := fun i o ho d hd => by
  have := List.all_eq_true.1 h o (by simpa using Array.mem_of_getElem? ho)
  simpa [hd] using this
theorem codeB_ok {C : Cfg} {f n : Nat} : ∀ c : Code, codeB (C.dyn f) n c = true → CodeOk C f n c
  | .region id ops draw, h => by
    simp only [codeB, Bool.and_eq_true, Bool.or_eq_true, Bool.not_eq_true'] at h
    refine ⟨fitB_ok h.1, fun hd => ?_⟩
    subst hd
    exact ⟨_, ordB_ok (h.2.resolve_left (by simp))⟩
  | .seq a b, h => by
    simp only [codeB, Bool.and_eq_true] at h
    exact ⟨codeB_ok a h.1, codeB_ok b h.2⟩
  | .cond _ a b, h => by
    simp only [codeB, Bool.and_eq_true] at h
    exact ⟨codeB_ok a h.1, codeB_ok b h.2⟩
  | .block _ c, h => codeB_ok c h
  | .loop c, h => codeB_ok c h
  | .skip, _ => trivial
  | .rangeFunc _ _ _ _, _ => trivial
  | .exit _, _ => trivial
  | .scope _, _ => trivial
  | .label _, _ => trivial
  | .goto _, _ => trivial
  | .ret, _ => trivial
  | .refuse _, _ => trivial
theorem goodB_ok {C : Cfg} {f : Nat} (h : goodB C.P C.dyn f = true) : GoodF C f := by
  unfold goodB at h
  split at h
  · rename_i fn hfn
    split at h
    · rename_i c hc
      simp only [Bool.and_eq_true, beq_iff_eq] at h
      exact ⟨fn, c, hfn, hc, h.1, codeB_ok c h.2⟩
    · simp at h
  · simp at h
section
variable {C : Cfg} {F : Tk → Res}
theorem R_call {f : Nat} {args : List AV} {h : Heap} {fn : Func} {c : Code} (hp : C.prim f args = none) (hp2 : C.primH f args h = none) (hg : C.good f = true) (ho : C.ownA f = []) (hf : C.P.funcs[f]? = some fn) (hb : fn.body = some c) :
    R C (.call f args h) = R C (.run f h.length [.code c] (entry 0 args) h) := by
  rw [R_eq]
  simp only [stepT, hp, hp2, hg, ho, if_true, hf, enter, hb, ownedB]
theorem R_callO {f : Nat} {args : List AV} {h : Heap} {fn : Func} {c : Code} {os : List (Nat × Nat × TypeId)} (hp : C.prim f args = none) (hp2 : C.primH f args h = none) (hg : C.good f = true) (ho : C.ownA f = os) (hf : C.P.funcs[f]? = some fn) (hb : fn.body = some c) :
    R C (.call f args h) = R C (.run f (ownedB (entry 0 args) h os).length [.code c] (entry 0 args) (ownedB (entry 0 args) h os)) := by
  rw [R_eq]
  simp only [stepT, hp, hp2, hg, ho, if_true, hf, enter, hb]
theorem R_primH {f : Nat} {args : List AV} {h h' : Heap} {v : AV} (hp : C.prim f args = none) (hp2 : C.primH f args h = some (v, h')) : R C (.call f args h) = some (v, h') := by
  rw [R_eq]
  simp only [stepT, hp, hp2]
theorem R_prim {f : Nat} {args : List AV} {v : AV} (hp : C.prim f args = some v) : R C (.call f args []) = some (v, []) := by
  rw [R_eq]
  simp only [stepT, hp]
theorem R_skip {f k : Nat} {ks : List It} {fr : Fr} {h : Heap} : R C (.run f k (.code .skip :: ks) fr h) = R C (.run f k ks fr h) := by rw [R_eq]; rfl
theorem R_seq {f k : Nat} {a b : Code} {ks : List It} {fr : Fr} {h : Heap} : R C (.run f k (.code (.seq a b) :: ks) fr h) = R C (.run f k (.code a :: .code b :: ks) fr h) := by rw [R_eq]; rfl
theorem R_region {f k id : Nat} {ops : List Oper} {ks : List It} {fr : Fr} {h : Heap} : R C (.run f k (.code (.region id ops.toArray false) :: ks) fr h) = onReg (R C) f k ks (aOps C (R C) ops ops fr h) := by rw [R_eq]; rfl
end
end Go.Ab
