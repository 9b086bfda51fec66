/-
The program's tie, fact by fact: the given text Tie asks for all of them in one declaration, which is too much for the memory. No condition.
-/
import Derived.Test.YtdikmnmnapimoaaGreatDoorRows
import Derived.LaidByTextLater
import Derived.SevenTiedAt
namespace Go.Proofs.YtdikmnmnapimoaaGreatDoor
open Go
noncomputable abbrev tiedList : List (String × DataW Unit) := [("unicode/utf8.acceptRanges", Rows.laid_unicode_utf8_acceptRanges), ("internal/strconv.uint64pow10", Rows.laid_internal_strconv_uint64pow10), ("math/bits.deBruijn32tab", Rows.laid_math_bits_deBruijn32tab), ("math/bits.deBruijn64tab", Rows.laid_math_bits_deBruijn64tab)]
theorem tieW1 : Tryz.prog.worded (varsWordLater true) = true := by kernel_rfl
theorem tieW2 : Tryz.prog.worded (varsWordLater !true) = false := by kernel_rfl
theorem tieW3 : Tryz.prog.worded rootWordLater = true := by kernel_rfl
theorem tieK : tiedList.map (fun x => Tryz.prog.kindOfLater x.1) = [LaidKind.data, .data, .data, .data].map some := by kernel_rfl
theorem tieG : (Tryz.prog.funcNamed "gosem.cut.vars").isSome = true := by kernel_rfl
theorem tieN : varsNamedLaterB Tryz.prog (varsId Tryz.prog) tiedList = true := by kernel_rfl
end Go.Proofs.YtdikmnmnapimoaaGreatDoor
