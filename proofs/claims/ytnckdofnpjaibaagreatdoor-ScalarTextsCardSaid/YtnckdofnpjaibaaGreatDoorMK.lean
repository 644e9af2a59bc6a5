/- What is proved: the configuration of the evaluator at this seat's program, with the library's functions by their contracts. What is proved: that the evaluator's configuration at this seat's program is right. Conditions: none. -/
import Derived.Test.YtnckdofnpjaibaaGreatDoorMT3
import Derived.Shelf.Strings.SlTrimAscii
import Derived.Test.YtnckdofnpjaibaaGreatDoorShelf
set_option linter.unusedSimpArgs false
set_option linter.unusedVariables false
namespace Go.Ab
open Go Go.Proofs
/-- What is asked of package-level variables. -/
def ErrCell (w : World) (g : Nat) : Prop := ∃ ev, w.cell? ⟨g, 0, none⟩ = some ev ∧ (ev = .nilIface ∨ ∃ te pe, ev = .iface te pe)
def Lay (w : World) : Prop := (∃ m, w.cell? ⟨0, 0, none⟩ = some (.int .i64 m)) ∧ (ErrCell w 2 ∧ ErrCell w 3) ∧ Lib.TabIs Tryz.prog w "internal/strconv.uint64pow10" .u64 Lib.pow10Tab ∧ Lib.TabIs Tryz.prog w "strings.asciiSpace" .u8 Lib.asciiSpaceTab
def fits (n : Int) : Bool := decide (-9223372036854775808 ≤ n) && decide (n ≤ 9223372036854775807)
def pFormatBool : List AV → Option AV
  | [.bool b] => some (.str (Lib.formatBool b))
  | _ => none
def pItoa : List AV → Option AV
  | [.int .i64 n] => if fits n = true then some (.str (Lib.itoa n)) else none
  | _ => none
def pReplaceAll : List AV → Option AV
  | [.str s, .str o, .str n] => if decide (s.length < 4294967281) && (decide (1 ≤ o.length) && decide (s.length + Lib.countB ⟨s.toArray⟩ ⟨o.toArray⟩ * n.length ≤ 140737488355328)) then some (.str (Lib.replaceAll s o n)) else none
  | _ => none
def pHasPrefix : List AV → Option AV
  | [.str s, .str p] => some (.bool (Lib.hasPrefix s p))
  | _ => none
def pTrimPrefix : List AV → Option AV
  | [.str s, .str p] => some (.str (Lib.trimPrefix s p))
  | _ => none
def pCompare : List AV → Option AV
  | [.str s, .str p] => some (.int .i64 (Lib.compareBytes s p))
  | _ => none
def pCut : List AV → Option AV
  | [.str s, .str p] => if decide (s.length < 4294967281) then some (.tup [.str (Lib.cut s p).1, .str (Lib.cut s p).2.1, .bool (Lib.cut s p).2.2]) else none
  | _ => none
def pFields : List AV → Option AV
  | [.str s] => if decide (s.length < 4294967281) && s.all (fun b => decide (b.toNat < 128)) then some (.rows ((Lib.fields s).map fun l => [.str l])) else none
  | _ => none
def pMul64 : List AV → Option AV
  | [.int .u64 x, .int .u64 y] => if decide (0 ≤ x ∧ x < 18446744073709551616 ∧ 0 ≤ y ∧ y < 18446744073709551616) then some (.tup [.int .u64 (x * y / 18446744073709551616), .int .u64 (x * y % 18446744073709551616)]) else none
  | _ => none
def pAtoi : List AV → Option AV
  | [.str s] => if decide (s.length ≤ 281474976710656) then some (match Lib.atoiAll s with
    | .ok v => .tup [.int .i64 v, .nili]
    | .range => .tup [.int .i64 (Lib.atoiSat s), .iface 207 .any]
    | _ => .tup [.int .i64 0, .iface 207 .any]) else none
  | _ => none
def pRepeat : List AV → Option AV
  | [.str s, .int .i64 c] => if decide (0 ≤ c) && (decide (c ≤ 9223372036854775807) && decide (s.length * c.toNat ≤ 140737488355328)) then some (.str (Lib.repeatL s c.toNat)) else none
  | _ => none
def ascii (s : List UInt8) : Bool := s.all fun b => decide (b.toNat < 128)
def pLower : List AV → Option AV
  | [.str s] => if decide (s.length ≤ 140737488355328) && ascii s then some (.str (Lib.toLowerA s)) else none
  | _ => none
def pUpper : List AV → Option AV
  | [.str s] => if decide (s.length ≤ 140737488355328) && ascii s then some (.str (Lib.toUpperA s)) else none
  | _ => none
def pContains : List AV → Option AV
  | [.str s, .str p] => if decide (s.length < 4294967281) then some (.bool (Lib.contains s p)) else none
  | _ => none
def pHasSuffix : List AV → Option AV
  | [.str s, .str p] => if decide (s.length ≤ 9223372036854775807) then some (.bool (Lib.hasSuffix s p)) else none
  | _ => none
def pCutPrefix : List AV → Option AV
  | [.str s, .str p] => some (.tup [.str (Lib.trimPrefix s p), .bool (Lib.hasPrefix s p)])
  | _ => none
def strsOf : List (List AV) → Option (List (List UInt8))
  | [] => some []
  | [.str s] :: r => match strsOf r with
    | some l => some (s :: l)
    | none => none
  | _ => none
def pJoin : List AV → Option AV
  | [.rows rs, .str sep] => match strsOf rs with
    | some l => if decide (l.length ≤ 140737488355328) && decide ((Lib.join l sep).length ≤ 140737488355328) then some (.str (Lib.join l sep)) else none
    | none => none
  | _ => none
def pTrim : List AV → Option AV
  | [.str s, .str cs] => if decide (s.length ≤ 9223372036854775807) && (decide (cs.length < 4294967281) && ascii cs) then some (.str (Lib.trimS s cs)) else none
  | _ => none
def primH (f : Nat) (args : List AV) (h : Heap) : Option (AV × Heap) :=
  match f with
  | 202 => pCopyCheck 132 args h
  | 143 => pBString 132 5 args h
  | _ => none
def prim (f : Nat) (args : List AV) : Option AV :=
  match f with
  | 173 => pJoin args
  | 272 => pTrim args
  | 271 => pContains args
  | 179 => pHasSuffix args
  | 177 => pCutPrefix args
  | 58 => pFormatBool args
  | 59 => pItoa args
  | 60 => pReplaceAll args
  | 116 => pHasPrefix args
  | 123 => pTrimPrefix args
  | 133 => pCompare args
  | 178 => pCut args
  | 267 => pFields args
  | 211 => pMul64 args
  | 118 => pAtoi args
  | 103 => pRepeat args
  | 90 => pLower args
  | 91 => pUpper args
  | _ => none
theorem str2 {M : Nat → Nat → Prop} {w : World} {s p : List UInt8} (vs : List Value) (h : PRepL M w [.str s, .str p] vs) : vs = [.string ⟨s.toArray⟩, .string ⟨p.toArray⟩] := by
  obtain ⟨v, vr, rfl, h1, v2, vr2, rfl, h2, h3⟩ := h
  have e1 : v = .string ⟨s.toArray⟩ := h1
  have e2 : v2 = .string ⟨p.toArray⟩ := h2
  have e3 : vr2 = [] := h3
  rw [e1, e2, e3]
theorem below_grow (w : World) (k : Nat) (os : Array Obj) : RowKit.Below w.heap.size w (Sort.grow (w.drewN k) os) :=
  ⟨rfl, rfl, rfl, by simp [Sort.grow, World.drewN], fun b hb => by simp only [Sort.grow, World.drewN]; exact Array.getElem?_append_left hb⟩
def PrimOk (f : Nat) (p : List AV → Option AV) : Prop := ∀ args v, p args = some v → Enters Tryz.prog f ∧ Called Lay Tryz.prog f args [] v []
theorem pFormatBool_ok : PrimOk 58 pFormatBool := by
  intro args v e
  unfold pFormatBool at e
  split at e
  · rename_i b
    simp only [Option.some.injEq] at e
    subst e
    refine ⟨enters_of Tryz.func58 (by decide) rfl, prim_of (vs0 := [.bool b]) (v := .string ⟨(Lib.formatBool b).toArray⟩) (fun M w vs h => ?_) (fun _ _ => rfl) fun w _ => (Tryz.strconv_FormatBool b w).mono ?_⟩
    · obtain ⟨v, vr, rfl, h1, h2⟩ := h
      have e1 : v = .bool b := h1
      have e2 : vr = [] := h2
      rw [e1, e2]
    · rintro e w' ⟨rfl, rfl⟩
      exact ⟨rfl, below_refl _⟩
  · simp at e
theorem pItoa_ok : PrimOk 59 pItoa := by
  intro args v e
  unfold pItoa at e
  split at e
  · rename_i n
    split at e
    · rename_i hf
      simp only [fits, Bool.and_eq_true, decide_eq_true_eq] at hf
      simp only [Option.some.injEq] at e
      subst e
      refine ⟨enters_of Tryz.func59 (by decide) rfl, prim_of (vs0 := [.int .i64 n]) (v := .string ⟨(Lib.itoa n).toArray⟩) (fun M w vs h => ?_) (fun _ _ => rfl) fun w hw => (Tryz.strconv_Itoa n hf.1 hf.2 w hw.2.2.1).mono ?_⟩
      · obtain ⟨v, vr, rfl, h1, h2⟩ := h
        have e1 : v = .int .i64 n := h1
        have e2 : vr = [] := h2
        rw [e1, e2]
      · rintro e w' ⟨rfl, k, os, rfl⟩
        exact ⟨rfl, below_grow _ _ _⟩
    · simp at e
  · simp at e
theorem pReplaceAll_ok : PrimOk 60 pReplaceAll := by
  intro args v e
  unfold pReplaceAll at e
  split at e
  · rename_i s o n
    split at e
    · rename_i hf
      simp only [Bool.and_eq_true, decide_eq_true_eq] at hf
      simp only [Option.some.injEq] at e
      subst e
      refine ⟨enters_of Tryz.func60 (by decide) rfl, prim_of (vs0 := [.string ⟨s.toArray⟩, .string ⟨o.toArray⟩, .string ⟨n.toArray⟩]) (v := .string ⟨(Lib.replaceAll s o n).toArray⟩) (fun M w vs h => ?_) (fun _ _ => rfl) fun w hw => ?_⟩
      · obtain ⟨v, vr, rfl, h1, h2⟩ := h
        have e1 : v = .string ⟨s.toArray⟩ := h1
        rw [e1, str2 vr h2]
      · obtain ⟨m, hm⟩ := hw.1
        refine (Tryz.strings_ReplaceAll ⟨s.toArray⟩ ⟨o.toArray⟩ ⟨n.toArray⟩ m w (by simpa [ByteArray.size] using hf.1) hm (by simpa [ByteArray.size] using hf.2.1) (by simpa [ByteArray.size] using hf.2.2)).mono ?_
        rintro e w' ⟨rfl, hb⟩
        exact ⟨rfl, hb⟩
    · simp at e
  · simp at e
theorem pHasPrefix_ok : PrimOk 116 pHasPrefix := by
  intro args v e
  unfold pHasPrefix at e
  split at e
  · rename_i s p
    simp only [Option.some.injEq] at e
    subst e
    refine ⟨enters_of Tryz.func116 (by decide) rfl, prim_of (vs0 := [.string ⟨s.toArray⟩, .string ⟨p.toArray⟩]) (v := .bool (Lib.hasPrefix s p)) (fun M w vs h => str2 vs h) (fun _ _ => rfl) fun w _ => (Tryz.strings_HasPrefix _ _ w).mono ?_⟩
    rintro e w' ⟨rfl, rfl⟩
    exact ⟨rfl, below_refl _⟩
  · simp at e
theorem pTrimPrefix_ok : PrimOk 123 pTrimPrefix := by
  intro args v e
  unfold pTrimPrefix at e
  split at e
  · rename_i s p
    simp only [Option.some.injEq] at e
    subst e
    refine ⟨enters_of Tryz.func123 (by decide) rfl, prim_of (vs0 := [.string ⟨s.toArray⟩, .string ⟨p.toArray⟩]) (v := .string ⟨(Lib.trimPrefix s p).toArray⟩) (fun M w vs h => str2 vs h) (fun _ _ => rfl) fun w _ => (Tryz.strings_TrimPrefix _ _ w).mono ?_⟩
    rintro e w' ⟨rfl, rfl⟩
    exact ⟨rfl, below_refl _⟩
  · simp at e
theorem pCompare_ok : PrimOk 133 pCompare := by
  intro args v e
  unfold pCompare at e
  split at e
  · rename_i s p
    simp only [Option.some.injEq] at e
    subst e
    refine ⟨enters_of Tryz.func133 (by decide) rfl, prim_of (vs0 := [.string ⟨s.toArray⟩, .string ⟨p.toArray⟩]) (v := .int .i64 (Lib.compareBytes s p)) (fun M w vs h => str2 vs h) (fun _ _ => rfl) fun w _ => (Tryz.strings_Compare _ _ w).mono ?_⟩
    rintro e w' ⟨rfl, rfl⟩
    exact ⟨rfl, below_refl _⟩
  · simp at e
theorem pCut_ok : PrimOk 178 pCut := by
  intro args v e
  unfold pCut at e
  split at e
  · rename_i s p
    split at e
    · rename_i hf
      simp only [decide_eq_true_eq] at hf
      simp only [Option.some.injEq] at e
      subst e
      refine ⟨enters_of Tryz.func178 (by decide) rfl, prim_of (vs0 := [.string ⟨s.toArray⟩, .string ⟨p.toArray⟩]) (v := .tuple #[.string ⟨(Lib.cut s p).1.toArray⟩, .string ⟨(Lib.cut s p).2.1.toArray⟩, .bool (Lib.cut s p).2.2]) (fun M w vs h => str2 vs h) (fun _ _ => ⟨_, rfl, _, _, rfl, rfl, _, _, rfl, rfl, _, _, rfl, rfl, rfl⟩) fun w hw => ?_⟩
      obtain ⟨m, hm⟩ := hw.1
      refine (Tryz.strings_Cut ⟨s.toArray⟩ ⟨p.toArray⟩ m w (by simpa [ByteArray.size] using hf) hm).mono ?_
      rintro e w' ⟨rfl, n, rfl⟩
      exact ⟨rfl, below_drewN _ _⟩
    · simp at e
  · simp at e
theorem pFields_ok : PrimOk 267 pFields := by
  intro args v e
  unfold pFields at e
  split at e
  · rename_i s
    split at e
    · rename_i hf
      simp only [Bool.and_eq_true, decide_eq_true_eq, List.all_eq_true] at hf
      simp only [Option.some.injEq] at e
      subst e
      refine ⟨enters_of Tryz.func267 (by decide) rfl, prim_at (vs0 := [.string ⟨s.toArray⟩]) (fun M w vs h => ?_) fun w hw => ?_⟩
      · obtain ⟨v, vr, rfl, h1, h2⟩ := h
        have e1 : v = .string ⟨s.toArray⟩ := h1
        have e2 : vr = [] := h2
        rw [e1, e2]
      · refine (Tryz.strings_Fields ⟨s.toArray⟩ w (by simpa [ByteArray.size] using hf.1) (fun j b hb => hf.2 b (List.mem_of_getElem? (by simpa using hb))) hw.2.2.2).mono ?_
        rintro e w' ⟨rfl, rfl⟩
        refine ⟨_, rfl, ⟨rfl, rfl, rfl, by simp, fun b hb => alloc_old _ hb⟩, fun M hM => ⟨some ⟨w.heap.size, 0, none⟩, (Lib.fields s).length, by simp, by simp, .inr ⟨w.heap.size, 0, 1, rfl, PRows.of_at _ _ fun i row hrow => ?_⟩⟩⟩
        rw [List.getElem?_map] at hrow
        cases hl : (Lib.fields s)[i]? with
        | none => simp [hl] at hrow
        | some l =>
          simp only [hl, Option.map_some, Option.some.injEq] at hrow
          subst hrow
          refine ⟨rfl, rfl, ⟨.string ⟨l.toArray⟩, ?_, fun hx => ?_, rfl⟩, trivial⟩
          · simp only [World.cell?, alloc_new]
            simp [hl]
          · have := hM _ _ hx
            omega
    · simp at e
  · simp at e
theorem pMul64_ok : PrimOk 211 pMul64 := by
  intro args v e
  unfold pMul64 at e
  split at e
  · rename_i x y
    split at e
    · rename_i hf
      simp only [decide_eq_true_eq] at hf
      simp only [Option.some.injEq] at e
      subst e
      obtain ⟨x, rfl⟩ := Int.eq_ofNat_of_zero_le hf.1
      obtain ⟨y, rfl⟩ := Int.eq_ofNat_of_zero_le hf.2.2.1
      refine ⟨enters_of Tryz.func211 (by decide) rfl, prim_of (vs0 := [.int .u64 x, .int .u64 y]) (v := .tuple #[.int .u64 ((x * y / 18446744073709551616 : Nat) : Int), .int .u64 ((x * y % 18446744073709551616 : Nat) : Int)]) (fun M w vs h => ?_) (fun _ _ => ⟨_, rfl, _, _, rfl, by simp [PRep], _, _, rfl, by simp [PRep], rfl⟩) fun w _ => (Tryz.bits_Mul64 x y (by omega) (by omega) w).mono ?_⟩
      · obtain ⟨v, vr, rfl, h1, v2, vr2, rfl, h2, h3⟩ := h
        have e1 : v = .int .u64 x := h1
        have e2 : v2 = .int .u64 y := h2
        have e3 : vr2 = [] := h3
        rw [e1, e2, e3]
      · rintro e w' ⟨rfl, rfl⟩
        exact ⟨rfl, below_refl _⟩
    · simp at e
  · simp at e
theorem str1 {M : Nat → Nat → Prop} {w : World} {s : List UInt8} (vs : List Value) (h : PRepL M w [.str s] vs) : vs = [.string ⟨s.toArray⟩] := by
  obtain ⟨v, vr, rfl, h1, h2⟩ := h
  have e1 : v = .string ⟨s.toArray⟩ := h1
  have e2 : vr = [] := h2
  rw [e1, e2]
theorem pAtoi_ok : PrimOk 118 pAtoi := by
  intro args v e
  unfold pAtoi at e
  split at e
  · rename_i s
    split at e
    · rename_i hl
      simp only [decide_eq_true_eq] at hl
      simp only [Option.some.injEq] at e
      subst e
      refine ⟨enters_of Tryz.func118 (by decide) rfl, prim_at (vs0 := [.string ⟨s.toArray⟩]) (fun M w vs h => str1 vs h) fun w hw => ?_⟩
      have hsz : (⟨s.toArray⟩ : ByteArray).size = s.length := rfl
      cases ha : Lib.atoiAll s with
      | ok v =>
        refine (Tryz.strconv_Atoi_ok ⟨s.toArray⟩ (by rw [hsz]; omega) v ha w).mono ?_
        rintro e w' ⟨rfl, hb⟩
        refine ⟨_, rfl, ?_, fun M _ => ⟨_, rfl, _, _, rfl, rfl, _, _, rfl, rfl, rfl⟩⟩
        rcases hb with rfl | ⟨t, rfl⟩
        · exact below_refl _
        · exact Lib.bytesWorld_below _ _ _
      | range =>
        obtain ⟨ev, h1, h2⟩ := hw.2.1.2
        refine (Tryz.strconv_Atoi_range ⟨s.toArray⟩ (by rw [hsz]; exact hl) ha ev w h1 h2).mono ?_
        rintro e w' ⟨N, rfl, _, _, hb⟩
        exact ⟨_, rfl, hb, fun M _ => ⟨_, rfl, _, _, rfl, rfl, _, _, rfl, ⟨_, rfl, trivial⟩, rfl⟩⟩
      | _ =>
        obtain ⟨ev, h1, h2⟩ := hw.2.1.1
        refine (Tryz.strconv_Atoi_syntax ⟨s.toArray⟩ (by rw [hsz]; exact hl) ha ev w h1 h2).mono ?_
        rintro e w' ⟨N, rfl, _, _, hb⟩
        exact ⟨_, rfl, hb, fun M _ => ⟨_, rfl, _, _, rfl, rfl, _, _, rfl, ⟨_, rfl, trivial⟩, rfl⟩⟩
    · simp at e
  · simp at e
theorem pRepeat_ok : PrimOk 103 pRepeat := by
  intro args v e
  unfold pRepeat at e
  split at e
  · rename_i s c
    split at e
    · rename_i hf
      simp only [Bool.and_eq_true, decide_eq_true_eq] at hf
      simp only [Option.some.injEq] at e
      subst e
      obtain ⟨c, rfl⟩ := Int.eq_ofNat_of_zero_le hf.1
      refine ⟨enters_of Tryz.func103 (by decide) rfl, prim_of (vs0 := [.string ⟨s.toArray⟩, .int .i64 c]) (v := .string ⟨(Lib.repeatL s c).toArray⟩) (fun M w vs h => ?_) (fun _ _ => rfl) fun w _ => (Tryz.strings_Repeat ⟨s.toArray⟩ c w (by omega) (by simpa [ByteArray.size] using hf.2.2)).mono ?_⟩
      · obtain ⟨v, vr, rfl, h1, v2, vr2, rfl, h2, h3⟩ := h
        have e1 : v = .string ⟨s.toArray⟩ := h1
        have e2 : v2 = .int .i64 c := h2
        have e3 : vr2 = [] := h3
        rw [e1, e2, e3]
      · rintro e w' ⟨rfl, hb⟩
        exact ⟨rfl, hb⟩
    · simp at e
  · simp at e
theorem pLower_ok : PrimOk 90 pLower := by
  intro args v e
  unfold pLower at e
  split at e
  · rename_i s
    split at e
    · rename_i hf
      simp only [Bool.and_eq_true, decide_eq_true_eq, ascii, List.all_eq_true] at hf
      simp only [Option.some.injEq] at e
      subst e
      refine ⟨enters_of Tryz.func90 (by decide) rfl, prim_of (vs0 := [.string ⟨s.toArray⟩]) (v := .string ⟨(Lib.toLowerA s).toArray⟩) (fun M w vs h => str1 vs h) (fun _ _ => rfl) fun w _ => (Tryz.strings_ToLower_ascii ⟨s.toArray⟩ w hf.1 (fun j b hb => hf.2 b (List.mem_of_getElem? (by simpa using hb)))).mono ?_⟩
      rintro e w' ⟨rfl, hb⟩
      exact ⟨rfl, hb⟩
    · simp at e
  · simp at e
theorem pUpper_ok : PrimOk 91 pUpper := by
  intro args v e
  unfold pUpper at e
  split at e
  · rename_i s
    split at e
    · rename_i hf
      simp only [Bool.and_eq_true, decide_eq_true_eq, ascii, List.all_eq_true] at hf
      simp only [Option.some.injEq] at e
      subst e
      refine ⟨enters_of Tryz.func91 (by decide) rfl, prim_of (vs0 := [.string ⟨s.toArray⟩]) (v := .string ⟨(Lib.toUpperA s).toArray⟩) (fun M w vs h => str1 vs h) (fun _ _ => rfl) fun w _ => (Tryz.strings_ToUpper_ascii ⟨s.toArray⟩ w hf.1 (fun j b hb => hf.2 b (List.mem_of_getElem? (by simpa using hb)))).mono ?_⟩
      rintro e w' ⟨rfl, hb⟩
      exact ⟨rfl, hb⟩
    · simp at e
  · simp at e
theorem pContains_ok : PrimOk 271 pContains := by
  intro args v e
  unfold pContains at e
  split at e
  · rename_i s p
    split at e
    · rename_i hf
      simp only [decide_eq_true_eq] at hf
      simp only [Option.some.injEq] at e
      subst e
      refine ⟨enters_of Tryz.func271 (by decide) rfl, prim_of (vs0 := [.string ⟨s.toArray⟩, .string ⟨p.toArray⟩]) (v := .bool (Lib.contains s p)) (fun M w vs h => str2 vs h) (fun _ _ => rfl) fun w hw => ?_⟩
      obtain ⟨m, hm⟩ := hw.1
      refine (Tryz.strings_Contains ⟨s.toArray⟩ ⟨p.toArray⟩ m w (by simpa [ByteArray.size] using hf) hm).mono ?_
      rintro e w' ⟨rfl, rfl⟩
      exact ⟨rfl, below_refl _⟩
    · simp at e
  · simp at e
theorem pHasSuffix_ok : PrimOk 179 pHasSuffix := by
  intro args v e
  unfold pHasSuffix at e
  split at e
  · rename_i s p
    split at e
    · rename_i hf
      simp only [decide_eq_true_eq] at hf
      simp only [Option.some.injEq] at e
      subst e
      refine ⟨enters_of Tryz.func179 (by decide) rfl, prim_of (vs0 := [.string ⟨s.toArray⟩, .string ⟨p.toArray⟩]) (v := .bool (Lib.hasSuffix s p)) (fun M w vs h => str2 vs h) (fun _ _ => rfl) fun w _ => (Tryz.strings_HasSuffix ⟨s.toArray⟩ ⟨p.toArray⟩ w (by simpa [ByteArray.size] using hf)).mono ?_⟩
      rintro e w' ⟨rfl, rfl⟩
      exact ⟨rfl, below_refl _⟩
    · simp at e
  · simp at e
theorem pCutPrefix_ok : PrimOk 177 pCutPrefix := by
  intro args v e
  unfold pCutPrefix at e
  split at e
  · rename_i s p
    simp only [Option.some.injEq] at e
    subst e
    refine ⟨enters_of Tryz.func177 (by decide) rfl, prim_of (vs0 := [.string ⟨s.toArray⟩, .string ⟨p.toArray⟩]) (v := .tuple #[.string ⟨(Lib.trimPrefix s p).toArray⟩, .bool (Lib.hasPrefix s p)]) (fun M w vs h => str2 vs h) (fun _ _ => ⟨_, rfl, _, _, rfl, rfl, _, _, rfl, rfl, rfl⟩) fun w _ => (Tryz.strings_CutPrefix ⟨s.toArray⟩ ⟨p.toArray⟩ w).mono ?_⟩
    rintro e w' ⟨rfl, rfl⟩
    exact ⟨rfl, below_refl _⟩
  · simp at e
theorem strsOf_spec : ∀ (rs : List (List AV)) (l : List (List UInt8)), strsOf rs = some l → rs = l.map fun s => [.str s]
  | [], l, e => by simp only [strsOf, Option.some.injEq] at e; subst e; rfl
  | row :: r, l, e => by
    unfold strsOf at e
    split at e
    · simp at *
    · rename_i s r' heq
      obtain ⟨rfl, rfl⟩ := List.cons.inj heq
      split at e
      · rename_i l' hl
        simp only [Option.some.injEq] at e
        subst e
        rw [strsOf_spec r l' hl]; rfl
      · simp at e
    · simp at e
theorem bytes_back : ∀ l : List (List UInt8), (l.map fun s : List UInt8 => (⟨s.toArray⟩ : ByteArray)).map (·.data.toList) = l
  | [] => rfl
  | s :: l => by
    simp only [List.map_cons]
    rw [bytes_back l]
theorem pJoin_ok : PrimOk 173 pJoin := by
  intro args v e
  unfold pJoin at e
  split at e
  · rename_i rs sep
    split at e
    · rename_i l hl
      split at e
      · rename_i hf
        simp only [Bool.and_eq_true, decide_eq_true_eq] at hf
        simp only [Option.some.injEq] at e
        subst e
        have hrs := strsOf_spec rs l hl
        subst hrs
        refine ⟨enters_of Tryz.func173 (by decide) rfl, prim_any (v := .string ⟨(Lib.join l sep).toArray⟩) (fun _ _ => rfl) fun M w vs _ ha => ?_⟩
        obtain ⟨v1, vr, rfl, h1, v2, vr2, rfl, h2, h3⟩ := ha
        have h2 : v2 = .string ⟨sep.toArray⟩ := h2
        have h3 : vr2 = [] := h3
        subst h2; subst h3
        obtain ⟨base, cap, rfl, hc, hb⟩ := h1
        have hlen : (l.map fun s : List UInt8 => [AV.str s]).length = (l.map fun s : List UInt8 => (⟨s.toArray⟩ : ByteArray)).length := by simp
        have hmap := bytes_back l
        rw [hlen] at hc ⊢
        cases l with
        | nil =>
          refine (Tryz.strings_Join_none base cap ⟨sep.toArray⟩ w).mono ?_
          rintro e w' ⟨rfl, rfl⟩
          exact ⟨rfl, below_refl _⟩
        | cons s0 l0 =>
          rcases hb with hb | ⟨b, o, z, rfl, hp⟩
          · simp at hb
          have hz : z = 1 := (PRows.at _ o hp 0 [.str s0] rfl).1.symm
          subst hz
          have hcell : ∀ (j : Nat) (x : ByteArray), ((s0 :: l0).map fun s : List UInt8 => (⟨s.toArray⟩ : ByteArray))[j]? = some x → w.cell? ⟨b, o + j, none⟩ = some (.string x) := fun j x hx => by
            rw [List.getElem?_map] at hx
            cases hs : (s0 :: l0)[j]? with
            | none => rw [hs] at hx; simp at hx
            | some s =>
              rw [hs] at hx
              simp only [Option.map_some, Option.some.injEq] at hx
              subst hx
              obtain ⟨_, _, hm⟩ := PRows.at _ o hp j [.str s] (by rw [List.getElem?_map, hs]; rfl)
              obtain ⟨⟨u, hu, _, hr⟩, _⟩ := hm
              have hr : u = .string ⟨s.toArray⟩ := hr
              subst hr
              simpa using hu
          have hbk : b < w.heap.size := by
            have := hcell 0 _ rfl
            rcases Nat.lt_or_ge b w.heap.size with h' | h'
            · exact h'
            · simp [World.cell?, Array.getElem?_eq_none h'] at this
          refine (Tryz.strings_Join b o cap _ ⟨sep.toArray⟩ w hcell hbk (by simpa using hf.1) hc (by rw [hmap]; exact hf.2)).mono ?_
          rintro e w' ⟨rfl, hb⟩
          exact ⟨by rw [hmap], hb⟩
      · simp at e
    · simp at e
  · simp at e
theorem pTrim_ok : PrimOk 272 pTrim := by
  intro args v e
  unfold pTrim at e
  split at e
  · rename_i s cs
    split at e
    · rename_i hf
      simp only [Bool.and_eq_true, decide_eq_true_eq, ascii, List.all_eq_true] at hf
      simp only [Option.some.injEq] at e
      subst e
      refine ⟨enters_of Tryz.func272 (by decide) rfl, prim_of (vs0 := [.string ⟨s.toArray⟩, .string ⟨cs.toArray⟩]) (v := .string ⟨(Lib.trimS s cs).toArray⟩) (fun M w vs h => str2 vs h) (fun _ _ => rfl) fun w _ => (Any.strings_Trim_laid Tryz.lays160 (by kernel_rfl) ⟨s.toArray⟩ ⟨cs.toArray⟩ w (by simpa [ByteArray.size] using hf.1) (by simpa [ByteArray.size] using hf.2.1) (fun j b hb => hf.2.2 b (List.mem_of_getElem? (by simpa using hb)))).mono ?_⟩
      rintro e w' ⟨rfl, hb⟩
      exact ⟨rfl, hb⟩
    · simp at e
  · simp at e
theorem primH_ok : ∀ f args h r h', primH f args h = some (r, h') → Enters Tryz.prog f ∧ Called Lay Tryz.prog f args h r h' := by
  intro f args h r h' e
  unfold primH at e
  split at e
  · exact ⟨enters_of Tryz.func202 (by decide) rfl, copyCheck_called (ρ := Tryz.lays155_ren) { Tryz.lays155 with } Tryz.Builder_Extra_155.toX72 e⟩
  · exact ⟨enters_of Tryz.func143 (by decide) rfl, bString_called (ρ := Tryz.lays155_ren) { Tryz.lays155 with } Tryz.Builder_Extra_155 e⟩
  · simp at e
theorem prim_ok : ∀ f args v, prim f args = some v → Enters Tryz.prog f ∧ Called Lay Tryz.prog f args [] v [] := by
  intro f args v e
  unfold prim at e
  split at e
  · exact pJoin_ok args v e
  · exact pTrim_ok args v e
  · exact pContains_ok args v e
  · exact pHasSuffix_ok args v e
  · exact pCutPrefix_ok args v e
  · exact pFormatBool_ok args v e
  · exact pItoa_ok args v e
  · exact pReplaceAll_ok args v e
  · exact pHasPrefix_ok args v e
  · exact pTrimPrefix_ok args v e
  · exact pCompare_ok args v e
  · exact pCut_ok args v e
  · exact pFields_ok args v e
  · exact pMul64_ok args v e
  · exact pAtoi_ok args v e
  · exact pRepeat_ok args v e
  · exact pLower_ok args v e
  · exact pUpper_ok args v e
  · simp at e
end Go.Ab
namespace Go.Ab
open Go Go.Proofs
/-- Open regions: what an operation may not touch. -/
def dyn (f r : Nat) : List (Nat × Nat) :=
  match f with
  | 17 => if r = 9 then [(2,39), (6,42)] else ([])
  | 21 => if r = 7 then [(6,7), (6,33)] else ([])
  | 40 => if r = 5 then [(3,17), (11,15), (11,18)] else ([])
  | 96 => if r = 9 then [(3,37), (6,37)] else (if r = 11 then [(4,48)] else ([]))
  | 97 => if r = 5 then [(9,23)] else ([])
  | 102 => if r = 2 then [(2,9), (7,7), (7,10)] else ([])
  | 150 => if r = 17 then [(4,63)] else ([])
  | 172 => if r = 2 then [(8,16)] else ([])
  | 176 => if r = 11 then [(12,65)] else (if r = 33 then [(3,137)] else ([]))
  | _ => []
/-- How results are handed back. -/
def ret (f : Nat) : Nat :=
  match f with
  | 56 => 1
  | 95 => 1
  | 232 => 2
  | 241 => 2
  | _ => 0
/-- Loops: the slots that live from round to round; slices that the loop makes; slices that nothing writes any more. -/
def live (f b : Nat) : Option (List Nat × List (Nat × Option Nat × Nat × Bool) × List Nat) :=
  match f with
  | 4 => match b with
    | 0 => some ([1, 2, 5], [], [])
    | _ => none
  | 8 => match b with
    | 0 => some ([4, 5, 7, 8, 9, 17, 18], [], [])
    | _ => none
  | 9 => match b with
    | 0 => some ([3, 4, 5, 6, 7, 24, 25, 26], [(7, none, 3, false)], [])
    | _ => none
  | 10 => match b with
    | 0 => some ([3, 9, 49, 50], [], [])
    | _ => none
  | 12 => match b with
    | 0 => some ([0, 2, 7, 8, 9], [], [])
    | _ => none
  | 17 => match b with
    | 1 => some ([1, 2, 4, 43, 44, 45], [], [])
    | _ => none
  | 21 => match b with
    | 0 => some ([0, 1, 2, 6, 7, 19, 20, 21], [], [])
    | 3 => some ([6, 116, 117, 118], [], [])
    | _ => none
  | 40 => match b with
    | 0 => some ([0, 4, 5, 10, 11], [(5, none, 3, false)], [])
    | 2 => some ([0, 4, 5, 7, 8, 42, 43], [], [])
    | _ => none
  | 42 => match b with
    | 0 => some ([0, 5, 9, 10, 11], [(5, none, 3, true)], [])
    | _ => none
  | 45 => match b with
    | 0 => some ([1, 2, 3, 4, 8, 10, 15, 16, 17], [(10, none, 1, false)], [])
    | _ => none
  | 82 => match b with
    | 0 => some ([4, 5, 24, 25], [], [])
    | _ => none
  | 87 => match b with
    | 0 => some ([5, 6, 7], [], [])
    | _ => none
  | 89 => match b with
    | 0 => some ([5, 6, 7], [], [])
    | _ => none
  | 93 => match b with
    | 0 => some ([0, 1, 5], [], [5])
    | 2 => some ([0, 1, 5, 6, 34, 35], [], [])
    | 4 => some ([0, 1, 5, 6, 7, 8, 70, 71], [], [])
    | _ => none
  | 95 => match b with
    | 0 => some ([0, 3, 5, 6], [(3, none, 1, false)], [])
    | _ => none
  | 96 => match b with
    | 1 => some ([1, 10, 11, 12, 34, 35], [(12, some 9, 13, false)], [])
    | _ => none
  | 97 => match b with
    | 1 => some ([3, 4, 100, 101], [], [])
    | _ => none
  | 102 => match b with
    | 0 => some ([0, 3, 4, 18, 19], [], [])
    | _ => none
  | 105 => match b with
    | 0 => some ([2, 3, 6, 16, 17, 18], [(6, none, 1, false)], [])
    | _ => none
  | 106 => match b with
    | 0 => some ([2, 3, 4, 5, 9, 10, 11], [(5, none, 3, false)], [])
    | _ => none
  | 108 => match b with
    | 0 => some ([1, 2, 3, 4, 10, 20, 21, 22], [(10, none, 1, false)], [])
    | _ => none
  | 109 => match b with
    | 0 => some ([3, 6, 7, 8], [(3, none, 1, false)], [])
    | _ => none
  | 110 => match b with
    | 0 => some ([1, 2, 3, 4, 8, 9, 13, 14, 15], [(9, none, 3, false)], [])
    | _ => none
  | 112 => match b with
    | 0 => some ([2, 3, 9, 10, 11], [], [])
    | _ => none
  | 113 => match b with
    | 0 => some ([1, 3, 9, 10, 11], [(3, none, 1, false)], [])
    | _ => none
  | 115 => match b with
    | 1 => some ([1, 4, 20, 100, 101, 102], [(20, some 9, 13, false)], [])
    | _ => none
  | 117 => match b with
    | 0 => some ([0, 2, 3, 14, 15], [], [])
    | _ => none
  | 120 => match b with
    | 1 => some ([1, 23, 24], [], [])
    | _ => none
  | 122 => match b with
    | 0 => some ([0, 2, 4, 20, 21, 22], [(4, none, 1, false)], [])
    | _ => none
  | 127 => match b with
    | 0 => some ([2, 3, 4, 5], [], [])
    | 2 => some ([2, 3, 4, 5, 6], [], [])
    | _ => none
  | 130 => match b with
    | 0 => some ([0, 2, 3, 4, 5], [], [])
    | 2 => some ([0, 2, 3, 4, 5], [], [])
    | _ => none
  | 135 => match b with
    | 0 => some ([0, 1, 5, 6], [(5, some 0, 3, false)], [])
    | 3 => some ([0, 5, 8, 9, 10], [], [8])
    | 5 => some ([0, 5, 8, 9, 10, 11, 76, 77, 78], [], [])
    | _ => none
  | 136 => match b with
    | 0 => some ([0, 1, 3, 4, 5, 12, 13, 14], [], [])
    | 2 => some ([0, 1, 3, 4, 5, 12, 13, 15], [], [])
    | _ => none
  | 137 => match b with
    | 0 => some ([3, 6, 7, 8], [], [])
    | _ => none
  | 147 => match b with
    | 0 => some ([0, 1, 3, 8, 9, 14, 15, 16], [(9, none, 13, false)], [])
    | 2 => some ([0, 1, 8, 9, 33, 34, 35], [(9, none, 13, false)], [])
    | _ => none
  | 155 => match b with
    | 0 => some ([1, 2, 23, 24, 25], [], [])
    | _ => none
  | 157 => match b with
    | 0 => some ([3, 7, 8, 9], [], [])
    | _ => none
  | 161 => match b with
    | 0 => some ([4, 7, 8, 9], [], [])
    | _ => none
  | 162 => match b with
    | 1 => some ([6, 229, 230, 231], [], [])
    | _ => none
  | 163 => match b with
    | 0 => some ([0, 2, 3], [], [])
    | _ => none
  | 164 => match b with
    | 0 => some ([2, 4, 5, 9, 10, 11], [], [])
    | _ => none
  | 170 => match b with
    | 0 => some ([1, 4, 5, 13, 14, 15], [], [])
    | 2 => some ([1, 4, 8], [], [])
    | _ => none
  | 171 => match b with
    | 0 => some ([1, 2, 21, 22, 23], [], [])
    | _ => none
  | 172 => match b with
    | 1 => some ([0, 82, 83, 84], [], [])
    | _ => none
  | 176 => match b with
    | 2 => some ([0, 2, 10], [(10, some 9, 13, false)], [])
    | _ => none
  | 180 => match b with
    | 0 => some ([0, 1, 7, 8], [], [])
    | _ => none
  | 181 => match b with
    | 0 => some ([0, 3, 4, 5, 6, 7], [(3, none, 1, false)], [])
    | _ => none
  | 183 => match b with
    | 0 => some ([0, 1, 3, 4, 5, 12, 13, 14], [], [])
    | _ => none
  | 199 => match b with
    | 0 => some ([0, 5, 6, 7], [], [])
    | _ => none
  | 215 => match b with
    | 0 => some ([0, 7, 8, 9], [], [])
    | _ => none
  | 217 => match b with
    | 0 => some ([4, 5, 6], [], [])
    | _ => none
  | 222 => match b with
    | 0 => some ([0, 2, 11, 12, 13], [], [])
    | _ => none
  | 223 => match b with
    | 0 => some ([4, 7, 8, 9], [], [])
    | _ => none
  | 224 => match b with
    | 0 => some ([0, 1, 2, 8, 9, 10, 17, 18, 19], [], [])
    | 2 => some ([0, 1, 2, 8, 9, 10, 12, 17, 18, 19, 25, 26, 27], [], [])
    | _ => none
  | 225 => match b with
    | 0 => some ([0, 1, 7, 8], [], [])
    | _ => none
  | 230 => match b with
    | 0 => some ([0, 5, 6], [], [])
    | _ => none
  | 234 => match b with
    | 0 => some ([0, 3], [], [])
    | _ => none
  | 237 => match b with
    | 0 => some ([0, 1, 5], [], [])
    | _ => none
  | 239 => match b with
    | 0 => some ([0, 3], [], [])
    | _ => none
  | 256 => match b with
    | 1 => some ([0, 1, 5, 6, 7, 8, 9, 10], [], [])
    | _ => none
  | 259 => match b with
    | 0 => some ([6, 7, 8], [], [])
    | _ => none
  | 275 => match b with
    | 0 => some ([0, 3], [], [])
    | _ => none
  | _ => none
/-- Behind loops: the slots that live on. -/
def out (f b : Nat) : Option (List Nat) :=
  match f with
  | 4 => match b with
    | 0 => some [1, 2]
    | _ => none
  | 8 => match b with
    | 0 => some [4, 5, 8, 9]
    | _ => none
  | 9 => match b with
    | 0 => some [3, 4, 5, 6, 7]
    | _ => none
  | 10 => match b with
    | 0 => some [9]
    | _ => none
  | 12 => match b with
    | 0 => some [2]
    | _ => none
  | 17 => match b with
    | 1 => some [4]
    | _ => none
  | 21 => match b with
    | 0 => some [0, 1, 2, 6, 7]
    | 3 => some [6]
    | _ => none
  | 40 => match b with
    | 0 => some [0, 4, 5]
    | 2 => some [0, 4, 5, 7, 8]
    | _ => none
  | 42 => match b with
    | 0 => some [0, 5]
    | _ => none
  | 45 => match b with
    | 0 => some [1, 2, 3, 4, 8, 10]
    | _ => none
  | 82 => match b with
    | 0 => some [4, 5]
    | _ => none
  | 87 => match b with
    | 0 => some []
    | _ => none
  | 89 => match b with
    | 0 => some []
    | _ => none
  | 93 => match b with
    | 0 => some [0, 5]
    | 2 => some [0, 1, 6]
    | 4 => some [0, 1, 6]
    | _ => none
  | 95 => match b with
    | 0 => some [3]
    | _ => none
  | 96 => match b with
    | 1 => some [1, 10, 11, 12]
    | _ => none
  | 97 => match b with
    | 1 => some [3, 4]
    | _ => none
  | 102 => match b with
    | 0 => some [4]
    | _ => none
  | 105 => match b with
    | 0 => some [2, 3, 6]
    | _ => none
  | 106 => match b with
    | 0 => some [2, 3, 4, 5]
    | _ => none
  | 108 => match b with
    | 0 => some [1, 2, 3, 4, 10]
    | _ => none
  | 109 => match b with
    | 0 => some [3]
    | _ => none
  | 110 => match b with
    | 0 => some [1, 2, 3, 4, 8, 9]
    | _ => none
  | 112 => match b with
    | 0 => some [2, 3]
    | _ => none
  | 113 => match b with
    | 0 => some [1, 3]
    | _ => none
  | 115 => match b with
    | 1 => some [4, 20]
    | _ => none
  | 117 => match b with
    | 0 => some [0, 2, 3]
    | _ => none
  | 120 => match b with
    | 1 => some []
    | _ => none
  | 122 => match b with
    | 0 => some [0, 2, 4]
    | _ => none
  | 127 => match b with
    | 0 => some [2, 3, 4, 5]
    | 2 => some [2, 3, 4, 5, 6]
    | _ => none
  | 130 => match b with
    | 0 => some [0, 2, 3, 4, 5]
    | 2 => some [0, 2, 3, 4, 5]
    | _ => none
  | 135 => match b with
    | 0 => some [0, 5]
    | 3 => some [5, 8]
    | 5 => some [0, 5, 9, 10, 11]
    | _ => none
  | 136 => match b with
    | 0 => some [0, 1, 3, 4, 5, 12, 13]
    | 2 => some [3, 4, 5, 12, 13]
    | _ => none
  | 137 => match b with
    | 0 => some [3]
    | _ => none
  | 147 => match b with
    | 0 => some [0, 1, 3, 8, 9]
    | 2 => some [0, 1, 8, 9]
    | _ => none
  | 155 => match b with
    | 0 => some []
    | _ => none
  | 157 => match b with
    | 0 => some []
    | _ => none
  | 161 => match b with
    | 0 => some [4]
    | _ => none
  | 162 => match b with
    | 1 => some [6]
    | _ => none
  | 163 => match b with
    | 0 => some [0, 2]
    | _ => none
  | 164 => match b with
    | 0 => some [4, 5]
    | _ => none
  | 170 => match b with
    | 0 => some [4, 5]
    | 2 => some [1, 4]
    | _ => none
  | 171 => match b with
    | 0 => some [1, 2]
    | _ => none
  | 172 => match b with
    | 1 => some [0]
    | _ => none
  | 176 => match b with
    | 2 => some [0, 2, 10]
    | _ => none
  | 180 => match b with
    | 0 => some []
    | _ => none
  | 181 => match b with
    | 0 => some [0, 3, 5]
    | _ => none
  | 183 => match b with
    | 0 => some [3, 4, 5, 12, 13]
    | _ => none
  | 199 => match b with
    | 0 => some []
    | _ => none
  | 215 => match b with
    | 0 => some []
    | _ => none
  | 217 => match b with
    | 0 => some [4, 5]
    | _ => none
  | 222 => match b with
    | 0 => some [0]
    | _ => none
  | 223 => match b with
    | 0 => some [4]
    | _ => none
  | 224 => match b with
    | 0 => some [0, 1, 2, 9, 10]
    | 2 => some [0, 1, 2, 8, 9, 10, 17, 18, 19]
    | _ => none
  | 225 => match b with
    | 0 => some []
    | _ => none
  | 230 => match b with
    | 0 => some []
    | _ => none
  | 234 => match b with
    | 0 => some []
    | _ => none
  | 237 => match b with
    | 0 => some [0, 5]
    | _ => none
  | 239 => match b with
    | 0 => some []
    | _ => none
  | 256 => match b with
    | 1 => some []
    | _ => none
  | 259 => match b with
    | 0 => some []
    | _ => none
  | 275 => match b with
    | 0 => some []
    | _ => none
  | _ => none
/-- The functions whose code is checked. -/
def goods : List Nat := [3, 4, 5, 6, 7, 8, 9, 10, 11, 12, 13, 14, 15, 16, 17, 18, 19, 20, 21, 22, 23, 24, 25, 26, 27, 28, 29, 30, 31, 32, 33, 34, 35, 36, 37, 38, 39, 40, 41, 42, 43, 44, 45, 46, 47, 48, 49, 50, 51, 52, 53, 54, 55, 56, 57, 61, 62, 63, 64, 65, 66, 67, 68, 69, 70, 71, 72, 73, 74, 75, 76, 77, 78, 79, 80, 81, 82, 83, 84, 85, 86, 87, 88, 89, 92, 93, 94, 95, 96, 97, 98, 99, 100, 101, 102, 104, 105, 106, 107, 108, 109, 110, 111, 112, 113, 114, 115, 117, 119, 120, 121, 122, 127, 128, 129, 130, 131, 132, 134, 135, 136, 137, 138, 139, 141, 142, 147, 148, 149, 150, 151, 152, 154, 155, 156, 157, 158, 159, 160, 161, 162, 163, 164, 165, 166, 167, 168, 169, 170, 171, 172, 174, 175, 176, 180, 181, 182, 183, 186, 191, 192, 193, 194, 195, 197, 198, 199, 200, 201, 208, 209, 212, 213, 214, 215, 216, 217, 218, 219, 220, 221, 222, 223, 224, 225, 226, 227, 228, 229, 230, 231, 232, 233, 234, 235, 236, 237, 238, 239, 240, 241, 242, 243, 244, 256, 258, 259, 260, 262, 268, 269, 270, 273, 274, 275, 277, 284, 308]
theorem goods_ok : goods.all (goodB Tryz.prog dyn) = true := by decide +kernel
/-- At entry: slices of pointed-at variables that become ones under making. -/
def ownA (f : Nat) : List (Nat × Nat × Nat) :=
  match f with
  | 172 => [(0, 1, 5)]
  | _ => []
noncomputable def K : Cfg := { P := Tryz.prog, prim := prim, primH := primH, ownA := ownA, bT := 132, live := live, ret := ret, good := fun f => goods.contains f, dyn := dyn, out := out }
theorem K_ok : CfgOk Lay K where
  prim := prim_ok
  primH := primH_ok
  good := fun f h => by
    have h1 : f ∈ goods := by simpa [K] using h
    exact goodB_ok (C := K) (List.all_eq_true.1 goods_ok f h1)
  mixed := by show Tryz.prog.follows .mixedOrders = true; decide +kernel
end Go.Ab
