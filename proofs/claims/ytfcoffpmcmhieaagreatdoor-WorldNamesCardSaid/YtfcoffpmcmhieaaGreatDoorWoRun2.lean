/- The runs of lemmas, part 2: each is run through by the kernel. -/
import Derived.Test.YtfcoffpmcmhieaaGreatDoorWoData
namespace Go.Proofs.YtfcoffpmcmhieaaGreatDoor.Wo
open Go AI
set_option maxHeartbeats 0 in
theorem r8 : layH L8.pre 0 H.empty (fun h => enterA Tryz.prog L8.fn L8.args .normal [] h L8.pre.length (run Tryz.prog (extL []) (postOf L8 []) 21527)) = true := by kernel_rfl
theorem o8 : lemOk L8 = true := by kernel_rfl
end Go.Proofs.YtfcoffpmcmhieaaGreatDoor.Wo
