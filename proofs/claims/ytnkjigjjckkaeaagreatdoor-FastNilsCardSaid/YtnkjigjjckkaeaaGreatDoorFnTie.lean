/-
  OWN: the ties of the statement, fact by fact in modules of their own (the given text, in one process, passes the memory limit). By an AI agent. No person has read it.
-/
import Derived.Test.YtnkjigjjckkaeaaGreatDoorFnTie6
import Derived.Test.YtnkjigjjckkaeaaGreatDoorFnTie7
import Derived.Test.YtnkjigjjckkaeaaGreatDoorFnTie8
import Derived.Test.YtnkjigjjckkaeaaGreatDoorFnTie9n
import Derived.Test.YtnkjigjjckkaeaaGreatDoorFnTie9r
import Derived.Test.YtnkjigjjckkaeaaGreatDoorFnTie10
import Derived.Test.YtnkjigjjckkaeaaGreatDoorFnTieP
namespace Go.Proofs.YtnkjigjjckkaeaaGreatDoor
open Go
theorem t9 (os : Os) (tape : Tape) : (DataW.laidRun Tryz.prog (varsWorld Tryz.prog 400 (varsId Tryz.prog) os tape).memory 8 ((tieList.filter fun x => x.2.handleName?.isNone).map (·.1))).map (fun x => decide x.2.Nodup && laidRowsB Tryz.prog (varsWorld Tryz.prog 400 (varsId Tryz.prog) os tape).memory x.2) = some true :=
  both_of (r := fun l => laidRowsB Tryz.prog (varsWorld Tryz.prog 400 (varsId Tryz.prog) os tape).memory l) (t9n os tape) (t9r os tape)
theorem tie : Tryz.prog.laidByTextLater [("unicode/utf8.acceptRanges", Rows.laid_unicode_utf8_acceptRanges), ("strconv.ErrSyntax", Rows.laid_strconv_ErrSyntax), ("strconv.ErrRange", Rows.laid_strconv_ErrRange), ("internal/strconv.uint64pow10", Rows.laid_internal_strconv_uint64pow10), ("math/bits.deBruijn32tab", Rows.laid_math_bits_deBruijn32tab), ("math/bits.deBruijn64tab", Rows.laid_math_bits_deBruijn64tab), ("strings.asciiSpace", Rows.laid_strings_asciiSpace), ("unicode.White_Space", Rows.laid_unicode_White_Space), ("errors.errorType", Rows.laid_errors_errorType)] [.data, .sentinel, .sentinel, .data, .data, .data, .data, .listed, .handle] true :=
  Program.laidByTextLater_by_run_h (laid := tieList) 400 8 t1 t2 t3 t4 t5 t6 t7 t8 t9 t10
theorem row_tie : Rows.fastNilsRow.laidByTextAt .later Tryz.pinned [.pinned, .data, .pinned, .sentinel, .sentinel, .data, .data, .data, .data, .listed, .handle] true :=
  OpenClaim.laidByTextAt_pinned rfl rfl tie rfl rfl rfl rfl (fun y hy _e => by
    simp only [Rows.fastNilsRow, List.zip_cons_cons, List.zip_nil_right, List.mem_cons, List.mem_nil_iff, or_false] at hy
    rcases hy with rfl | rfl | rfl | rfl | rfl | rfl | rfl | rfl | rfl | rfl | rfl
    · exact ⟨pin_laid_unicode_utf8_first, by kernel_rfl⟩
    · cases _e
    · exact ⟨pin_laid_unicode_CaseRanges, by kernel_rfl⟩
    · cases _e
    · cases _e
    · cases _e
    · cases _e
    · cases _e
    · cases _e
    · cases _e
    · cases _e) fits1
end Go.Proofs.YtnkjigjjckkaeaaGreatDoor
