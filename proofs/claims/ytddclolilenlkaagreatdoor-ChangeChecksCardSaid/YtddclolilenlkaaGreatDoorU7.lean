/- What is proved: the program's tie to its listed variables, and each row's. Conditions: none. -/
import Derived.Test.YtddclolilenlkaaGreatDoorU2
import Derived.Test.YtddclolilenlkaaGreatDoorU3
import Derived.Test.YtddclolilenlkaaGreatDoorU4
import Derived.Test.YtddclolilenlkaaGreatDoorU5
import Derived.Test.YtddclolilenlkaaGreatDoorU6
namespace Go.Proofs.YtddclolilenlkaaGreatDoor
open Go
set_option maxRecDepth 100000
theorem pin_laid_unicode_utf8_first : Tryz.pinned.checked.prog.pinnedFits "unicode/utf8.first" = true := by kernel_rfl
theorem noOwnUnsafe : Tryz.pinned.checked.prog.headLifts.contains "ownunsafe" = false := by kernel_rfl
theorem fits1 : Tryz.pinned.checked.prog.listedFits [("unicode/utf8.first", Rows.laid_unicode_utf8_first), ("unicode/utf8.acceptRanges", Rows.laid_unicode_utf8_acceptRanges), ("internal/strconv.uint64pow10", Rows.laid_internal_strconv_uint64pow10), ("math/bits.deBruijn32tab", Rows.laid_math_bits_deBruijn32tab), ("math/bits.deBruijn64tab", Rows.laid_math_bits_deBruijn64tab), ("strconv.ErrSyntax", Rows.laid_strconv_ErrSyntax), ("strconv.ErrRange", Rows.laid_strconv_ErrRange), ("strings.asciiSpace", Rows.laid_strings_asciiSpace), ("unicode.White_Space", Rows.laid_unicode_White_Space)] = true := by
  unfold Program.listedFits
  rw [noOwnUnsafe]
  kernel_rfl
theorem tie_both : ∀ os tape, (DataW.laidRun Tryz.prog (varsWorld Tryz.prog 400 (varsId Tryz.prog) os tape).memory 8 (tieL.map (·.1))).map (fun x => decide x.2.Nodup && laidRowsB Tryz.prog (varsWorld Tryz.prog 400 (varsId Tryz.prog) os tape).memory x.2) = some true := fun os tape => by
  have h1 := tie_places os tape
  have h2 := tie_rows os tape
  generalize (varsWorld Tryz.prog 400 (varsId Tryz.prog) os tape).memory = w at h1 h2 ⊢
  cases e : DataW.laidRun Tryz.prog w 8 (tieL.map (·.1)) with
  | none => rw [e] at h1; simp at h1
  | some x =>
    rw [e] at h1
    simp only [Option.map_some, Option.some.injEq] at h1
    rw [Option.map_some, h1, h2, decide_eq_true tieP_nodup]
    rfl
theorem tie : Tryz.prog.laidByTextLater tieL tieK true :=
  Program.laidByTextLater_by_run 400 8 tie_hw tie_hw2 tie_root tie_kinds tie_vars tie_named tie_done tie_laid tie_both tie_none
theorem changeChecks_row_tie : Rows.changeChecksRow.laidByTextAt .later Tryz.pinned [.pinned, .data, .data, .data, .data, .sentinel, .sentinel, .data, .listed] true :=
  OpenClaim.laidByTextAt_pinned rfl rfl tie rfl rfl rfl rfl (fun y hy _e => by
    simp only [Rows.changeChecksRow, List.zip_cons_cons, List.zip_nil_right, List.mem_cons, List.mem_nil_iff, or_false] at hy
    rcases hy with rfl | rfl | rfl | rfl | rfl | rfl | rfl | rfl | rfl
    · exact ⟨pin_laid_unicode_utf8_first, by kernel_rfl⟩
    · cases _e
    · cases _e
    · cases _e
    · cases _e
    · cases _e
    · cases _e
    · cases _e
    · cases _e) fits1
theorem changeChecksUpto_row_tie : Rows.changeChecksUptoRow.laidByTextAt .later Tryz.pinned [.pinned, .data, .data, .data, .data, .sentinel, .sentinel, .data, .listed] true :=
  OpenClaim.laidByTextAt_pinned rfl rfl tie rfl rfl rfl rfl (fun y hy _e => by
    simp only [Rows.changeChecksUptoRow, List.zip_cons_cons, List.zip_nil_right, List.mem_cons, List.mem_nil_iff, or_false] at hy
    rcases hy with rfl | rfl | rfl | rfl | rfl | rfl | rfl | rfl | rfl
    · exact ⟨pin_laid_unicode_utf8_first, by kernel_rfl⟩
    · cases _e
    · cases _e
    · cases _e
    · cases _e
    · cases _e
    · cases _e
    · cases _e
    · cases _e) fits1
end Go.Proofs.YtddclolilenlkaaGreatDoor
