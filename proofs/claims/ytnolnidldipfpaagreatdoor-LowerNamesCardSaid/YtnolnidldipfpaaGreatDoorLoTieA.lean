/-
  The program's variables lie as the text says (first part): the closed facts of the one law but its run. No conditions.
-/
import Derived.Test.YtnolnidldipfpaaGreatDoorRows
import Derived.LaidOnce
namespace Go.Proofs.YtnolnidldipfpaaGreatDoor
open Go
def tied : List (String × DataW Unit) := [("strings.asciiSpace", Rows.laid_strings_asciiSpace), ("unicode.White_Space", Rows.laid_unicode_White_Space), ("internal/strconv.uint64pow10", Rows.laid_internal_strconv_uint64pow10), ("math/bits.deBruijn32tab", Rows.laid_math_bits_deBruijn32tab), ("math/bits.deBruijn64tab", Rows.laid_math_bits_deBruijn64tab), ("unicode/utf8.acceptRanges", Rows.laid_unicode_utf8_acceptRanges), ("strconv.ErrSyntax", Rows.laid_strconv_ErrSyntax), ("strconv.ErrRange", Rows.laid_strconv_ErrRange)]
def tiedKinds : List LaidKind := [.data, .listed, .data, .data, .data, .data, .sentinel, .sentinel]
theorem fact0 : Tryz.prog.worded (varsWordLater true) = true := by kernel_rfl
theorem fact1 : Tryz.prog.worded (varsWordLater !true) = false := by kernel_rfl
theorem fact2 : Tryz.prog.worded rootWordLater = true := by kernel_rfl
theorem fact3 : tied.map (fun x => Tryz.prog.kindOfLater x.1) = tiedKinds.map some := by kernel_rfl
theorem fact4 : (Tryz.prog.funcNamed "gosem.cut.vars").isSome = true := by kernel_rfl
theorem fact5 : varsNamedLaterB Tryz.prog (varsId Tryz.prog) tied = true := by kernel_rfl
end Go.Proofs.YtnolnidldipfpaaGreatDoor
