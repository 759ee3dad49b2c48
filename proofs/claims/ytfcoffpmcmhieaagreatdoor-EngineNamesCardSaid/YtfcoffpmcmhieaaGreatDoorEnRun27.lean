/- The runs of lemmas, part 27: each is run through by the kernel. -/
import Derived.Test.YtfcoffpmcmhieaaGreatDoorEnData
namespace Go.Proofs.YtfcoffpmcmhieaaGreatDoor.En
open Go AI
theorem r125 : layH L125.pre 0 H.empty (fun h => enterA Tryz.prog L125.fn L125.args .normal [] h L125.pre.length (run Tryz.prog (extL []) (postOf L125 [90, 22, 31, 45, 59, 73]) 1349)) = true := by kernel_rfl
theorem o125 : lemOk L125 = true := by kernel_rfl
end Go.Proofs.YtfcoffpmcmhieaaGreatDoor.En
