/- The listed variables are laid by the program's own text: the run that lays them; the tie. -/
import Derived.Test.YtfcoffpmcmhieaaGreatDoorTieA
import Derived.Test.YtfcoffpmcmhieaaGreatDoorTieE
namespace Go.Proofs.YtfcoffpmcmhieaaGreatDoor.Ties
open Go
set_option maxRecDepth 100000
theorem tie3Run : ∀ os tape, doorLeaves Tryz.prog 16 8 65 [("math/bits.deBruijn64tab", Rows.laid_math_bits_deBruijn64tab), ("internal/strconv.uint64pow10", Rows.laid_internal_strconv_uint64pow10), ("math/bits.deBruijn32tab", Rows.laid_math_bits_deBruijn32tab)] os tape = some (([("math/bits.deBruijn64tab", Rows.laid_math_bits_deBruijn64tab), ("internal/strconv.uint64pow10", Rows.laid_internal_strconv_uint64pow10), ("math/bits.deBruijn32tab", Rows.laid_math_bits_deBruijn32tab)] : List (String × DataW Unit)).filter fun x => x.2.handleName?.isNone, (funcsListed [("math/bits.deBruijn64tab", Rows.laid_math_bits_deBruijn64tab), ("internal/strconv.uint64pow10", Rows.laid_internal_strconv_uint64pow10), ("math/bits.deBruijn32tab", Rows.laid_math_bits_deBruijn32tab)]).map (·.2.funcsOut)) := fun _ _ => by kernel_rfl
theorem tie3 : Tryz.prog.laidByTextLater [("math/bits.deBruijn64tab", Rows.laid_math_bits_deBruijn64tab), ("internal/strconv.uint64pow10", Rows.laid_internal_strconv_uint64pow10), ("math/bits.deBruijn32tab", Rows.laid_math_bits_deBruijn32tab)] [LaidKind.data, LaidKind.data, LaidKind.data] true := Program.laidByTextLater_by_one 16 8 65 a1 a2 a3 tie3Kinds a5 tie3Names tie3Run
end Go.Proofs.YtfcoffpmcmhieaaGreatDoor.Ties
