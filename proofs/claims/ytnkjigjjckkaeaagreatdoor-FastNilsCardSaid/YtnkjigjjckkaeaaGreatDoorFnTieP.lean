/-
  OWN: the ties of the statement, fact by fact in modules of their own (the given text, in one process, passes the memory limit). By an AI agent. No person has read it.
-/
import Derived.Test.YtnkjigjjckkaeaaGreatDoorFnTieL
namespace Go.Proofs.YtnkjigjjckkaeaaGreatDoor
open Go
theorem pin_laid_unicode_utf8_first : Tryz.pinned.checked.prog.pinnedFits "unicode/utf8.first" = true := by kernel_rfl
theorem pin_laid_unicode_CaseRanges : Tryz.pinned.checked.prog.pinnedFits "unicode.CaseRanges" = true := by kernel_rfl
theorem noOwnUnsafe : Tryz.pinned.checked.prog.headLifts.contains "ownunsafe" = false := by kernel_rfl
theorem funcsFit_of (P : Program) : ∀ (l : List (String × DataW Unit)), (∀ x ∈ l, x.2.funcsIn? = none) → P.funcsFit l = true := by
  intro l h
  unfold Program.funcsFit
  rw [List.all_eq_true]
  intro x hx
  rw [h x hx]
theorem listedFits_of (P : Program) (hU : P.headLifts.contains "ownunsafe" = false) (l : List (String × DataW Unit)) (h : ∀ x ∈ l, x.2.funcsIn? = none) : P.listedFits l = true := by
  unfold Program.listedFits
  rw [hU, funcsFit_of P l h]; rfl
theorem in_laid_unicode_utf8_first : (Rows.laid_unicode_utf8_first : DataW Unit).funcsIn? = none := by kernel_rfl
theorem in_laid_unicode_utf8_acceptRanges : (Rows.laid_unicode_utf8_acceptRanges : DataW Unit).funcsIn? = none := by kernel_rfl
theorem in_laid_unicode_CaseRanges : (Rows.laid_unicode_CaseRanges : DataW Unit).funcsIn? = none := by kernel_rfl
theorem in_laid_strconv_ErrSyntax : (Rows.laid_strconv_ErrSyntax : DataW Unit).funcsIn? = none := by kernel_rfl
theorem in_laid_strconv_ErrRange : (Rows.laid_strconv_ErrRange : DataW Unit).funcsIn? = none := by kernel_rfl
theorem in_laid_internal_strconv_uint64pow10 : (Rows.laid_internal_strconv_uint64pow10 : DataW Unit).funcsIn? = none := by kernel_rfl
theorem in_laid_math_bits_deBruijn32tab : (Rows.laid_math_bits_deBruijn32tab : DataW Unit).funcsIn? = none := by kernel_rfl
theorem in_laid_math_bits_deBruijn64tab : (Rows.laid_math_bits_deBruijn64tab : DataW Unit).funcsIn? = none := by kernel_rfl
theorem in_laid_strings_asciiSpace : (Rows.laid_strings_asciiSpace : DataW Unit).funcsIn? = none := by kernel_rfl
theorem in_laid_unicode_White_Space : (Rows.laid_unicode_White_Space : DataW Unit).funcsIn? = none := by kernel_rfl
theorem in_laid_errors_errorType : (Rows.laid_errors_errorType : DataW Unit).funcsIn? = none := by kernel_rfl
theorem fits1 : Tryz.pinned.checked.prog.listedFits [("unicode/utf8.first", Rows.laid_unicode_utf8_first), ("unicode/utf8.acceptRanges", Rows.laid_unicode_utf8_acceptRanges), ("unicode.CaseRanges", Rows.laid_unicode_CaseRanges), ("strconv.ErrSyntax", Rows.laid_strconv_ErrSyntax), ("strconv.ErrRange", Rows.laid_strconv_ErrRange), ("internal/strconv.uint64pow10", Rows.laid_internal_strconv_uint64pow10), ("math/bits.deBruijn32tab", Rows.laid_math_bits_deBruijn32tab), ("math/bits.deBruijn64tab", Rows.laid_math_bits_deBruijn64tab), ("strings.asciiSpace", Rows.laid_strings_asciiSpace), ("unicode.White_Space", Rows.laid_unicode_White_Space), ("errors.errorType", Rows.laid_errors_errorType)] = true := by
  refine listedFits_of _ noOwnUnsafe _ fun x hx => ?_
  simp only [List.mem_cons, List.mem_nil_iff, or_false] at hx
  rcases hx with rfl | rfl | rfl | rfl | rfl | rfl | rfl | rfl | rfl | rfl | rfl
  · exact in_laid_unicode_utf8_first
  · exact in_laid_unicode_utf8_acceptRanges
  · exact in_laid_unicode_CaseRanges
  · exact in_laid_strconv_ErrSyntax
  · exact in_laid_strconv_ErrRange
  · exact in_laid_internal_strconv_uint64pow10
  · exact in_laid_math_bits_deBruijn32tab
  · exact in_laid_math_bits_deBruijn64tab
  · exact in_laid_strings_asciiSpace
  · exact in_laid_unicode_White_Space
  · exact in_laid_errors_errorType
end Go.Proofs.YtnkjigjjckkaeaaGreatDoor
