/- The listed variables are laid by the program's own text: the run that lays them; the tie. -/
import Derived.Test.YtfcoffpmcmhieaaGreatDoorTieA
import Derived.Test.YtfcoffpmcmhieaaGreatDoorTieB
namespace Go.Proofs.YtfcoffpmcmhieaaGreatDoor.Ties
open Go
set_option maxRecDepth 100000
theorem tie1Run : ∀ os tape, doorLeaves Tryz.prog 16 8 65 [("math/bits.deBruijn64tab", Rows.laid_math_bits_deBruijn64tab)] os tape = some (([("math/bits.deBruijn64tab", Rows.laid_math_bits_deBruijn64tab)] : List (String × DataW Unit)).filter fun x => x.2.handleName?.isNone, (funcsListed [("math/bits.deBruijn64tab", Rows.laid_math_bits_deBruijn64tab)]).map (·.2.funcsOut)) := fun _ _ => by kernel_rfl
theorem tie1 : Tryz.prog.laidByTextLater [("math/bits.deBruijn64tab", Rows.laid_math_bits_deBruijn64tab)] [LaidKind.data] true := Program.laidByTextLater_by_one 16 8 65 a1 a2 a3 tie1Kinds a5 tie1Names tie1Run
end Go.Proofs.YtfcoffpmcmhieaaGreatDoor.Ties
