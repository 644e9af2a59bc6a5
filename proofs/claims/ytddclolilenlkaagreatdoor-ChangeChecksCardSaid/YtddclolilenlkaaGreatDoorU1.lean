/- What is proved: the first of the closed facts that tie the program to its listed variables. Conditions: none. -/
import Derived.Test.YtddclolilenlkaaGreatDoorRows
import Derived.LaidByTextLater
import Derived.SevenTiedAt
namespace Go.Proofs.YtddclolilenlkaaGreatDoor
open Go
set_option maxRecDepth 100000
def tieL : List (String × DataW Unit) := [("unicode/utf8.acceptRanges", Rows.laid_unicode_utf8_acceptRanges), ("internal/strconv.uint64pow10", Rows.laid_internal_strconv_uint64pow10), ("math/bits.deBruijn32tab", Rows.laid_math_bits_deBruijn32tab), ("math/bits.deBruijn64tab", Rows.laid_math_bits_deBruijn64tab), ("strconv.ErrSyntax", Rows.laid_strconv_ErrSyntax), ("strconv.ErrRange", Rows.laid_strconv_ErrRange), ("strings.asciiSpace", Rows.laid_strings_asciiSpace), ("unicode.White_Space", Rows.laid_unicode_White_Space)]
def tieK : List LaidKind := [.data, .data, .data, .data, .sentinel, .sentinel, .data, .listed]
def tieG : List (Nat × Nat) := [(3, 32), (7, 20), (8, 32), (9, 64), (5, 1), (17, 1), (6, 1), (16, 1), (1, 256), (4, 1), (19, 3), (18, 21)]
/-- The places of the listed variables: of each block the first ones. -/
def tieP : List MemPlace := tieG.flatMap fun p => (List.range p.2).map fun o => MemPlace.cell p.1 o
theorem tie_hw : Tryz.prog.worded (varsWordLater true) = true := by kernel_rfl
theorem tie_hw2 : Tryz.prog.worded (varsWordLater !true) = false := by kernel_rfl
theorem tie_root : Tryz.prog.worded rootWordLater = true := by kernel_rfl
theorem tie_kinds : tieL.map (fun x => Tryz.prog.kindOfLater x.1) = tieK.map some := by kernel_rfl
theorem tie_vars : (Tryz.prog.funcNamed "gosem.cut.vars").isSome = true := by kernel_rfl
theorem tie_none : (tieL.all fun x => x.2.handleName?.isNone) = true := by kernel_rfl
theorem blocks_nodup : ∀ g : List (Nat × Nat), (g.map (·.1)).Nodup → (g.flatMap fun p => (List.range p.2).map fun o => MemPlace.cell p.1 o).Nodup
  | [], _ => List.nodup_nil
  | p :: g, h => by
    rw [List.map_cons, List.nodup_cons] at h
    rw [List.flatMap_cons, List.nodup_append]
    refine ⟨?_, blocks_nodup g h.2, ?_⟩
    · refine List.Pairwise.map _ (fun a b hab e => hab ?_) List.nodup_range
      injection e
    · intro a ha b hb e
      obtain ⟨o, _, rfl⟩ := List.mem_map.1 ha
      obtain ⟨q, hq, hb⟩ := List.mem_flatMap.1 hb
      obtain ⟨o2, _, rfl⟩ := List.mem_map.1 hb
      injection e with e1 e2
      exact h.1 (List.mem_map.2 ⟨q, hq, e1.symm⟩)
theorem tieP_nodup : tieP.Nodup := blocks_nodup tieG (by decide)
end Go.Proofs.YtddclolilenlkaaGreatDoor
