/- The program's words on its listed variables: closed facts, each by itself. -/
import Derived.Test.YtfcoffpmcmhieaaGreatDoorRows
import Derived.LaidByTextLater
import Derived.SevenTiedAt
import Derived.LaidSub
import Derived.LaidOnce
namespace Go.Proofs.YtfcoffpmcmhieaaGreatDoor.Ties
open Go
set_option maxRecDepth 100000
theorem a1 : Tryz.prog.worded (varsWordLater true) = true := by kernel_rfl
theorem a2 : Tryz.prog.worded (varsWordLater !true) = false := by kernel_rfl
theorem a3 : Tryz.prog.worded rootWordLater = true := by kernel_rfl
theorem a5 : (Tryz.prog.funcNamed "gosem.cut.vars").isSome = true := by kernel_rfl
theorem noOwnUnsafe : Tryz.prog.headLifts.contains "ownunsafe" = false := by kernel_rfl
theorem mainIs : Tryz.prog.mainIs = some (true, "c515678e7a330f6d0e05356b0395755f32a51dbaf8e6e284bbc6d9e648632e30".toList) := by kernel_rfl
theorem looks : true = Tryz.prog.looks [] := by kernel_rfl
end Go.Proofs.YtfcoffpmcmhieaaGreatDoor.Ties
