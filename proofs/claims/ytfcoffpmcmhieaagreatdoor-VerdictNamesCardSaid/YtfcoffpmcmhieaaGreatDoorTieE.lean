/- The listed variables are laid by the program's own text: their names. -/
import Derived.Test.YtfcoffpmcmhieaaGreatDoorRows
import Derived.LaidByTextLater
import Derived.SevenTiedAt
import Derived.LaidSub
import Derived.LaidOnce
namespace Go.Proofs.YtfcoffpmcmhieaaGreatDoor.Ties
open Go
set_option maxRecDepth 100000
theorem tie3Kinds : (([("math/bits.deBruijn64tab", Rows.laid_math_bits_deBruijn64tab), ("internal/strconv.uint64pow10", Rows.laid_internal_strconv_uint64pow10), ("math/bits.deBruijn32tab", Rows.laid_math_bits_deBruijn32tab)] : List (String × DataW Unit)).map fun x => Tryz.prog.kindOfLater x.1) = [LaidKind.data, LaidKind.data, LaidKind.data].map some := by kernel_rfl
theorem tie3Names : varsNamedLaterB Tryz.prog (varsId Tryz.prog) [("math/bits.deBruijn64tab", Rows.laid_math_bits_deBruijn64tab), ("internal/strconv.uint64pow10", Rows.laid_internal_strconv_uint64pow10), ("math/bits.deBruijn32tab", Rows.laid_math_bits_deBruijn32tab)] = true := by kernel_rfl
theorem tie3Funcs : Tryz.prog.funcsFit [("math/bits.deBruijn64tab", Rows.laid_math_bits_deBruijn64tab), ("internal/strconv.uint64pow10", Rows.laid_internal_strconv_uint64pow10), ("math/bits.deBruijn32tab", Rows.laid_math_bits_deBruijn32tab)] = true := by kernel_rfl
end Go.Proofs.YtfcoffpmcmhieaaGreatDoor.Ties
