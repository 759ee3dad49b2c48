/- The runs of lemmas, part 3: each is run through by the kernel. -/
import Derived.Test.YtfcoffpmcmhieaaGreatDoorEnData
namespace Go.Proofs.YtfcoffpmcmhieaaGreatDoor.En
open Go AI
set_option maxHeartbeats 0 in
theorem r9 : layH L9.pre 0 H.empty (fun h => enterA Tryz.prog L9.fn L9.args .normal [] h L9.pre.length (run Tryz.prog (extL []) (postOf L9 []) 21527)) = true := by kernel_rfl
theorem o9 : lemOk L9 = true := by kernel_rfl
theorem r10 : layH L10.pre 0 H.empty (fun h => enterA Tryz.prog L10.fn L10.args .normal [] h L10.pre.length (run Tryz.prog (extL []) (postOf L10 []) 1604)) = true := by kernel_rfl
theorem o10 : lemOk L10 = true := by kernel_rfl
end Go.Proofs.YtfcoffpmcmhieaaGreatDoor.En
