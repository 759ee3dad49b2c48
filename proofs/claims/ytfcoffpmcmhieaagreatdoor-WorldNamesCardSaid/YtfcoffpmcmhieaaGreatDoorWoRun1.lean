/- The runs of lemmas, part 1: each is run through by the kernel. -/
import Derived.Test.YtfcoffpmcmhieaaGreatDoorWoData
namespace Go.Proofs.YtfcoffpmcmhieaaGreatDoor.Wo
open Go AI
set_option maxHeartbeats 0 in
theorem r7 : layH L7.pre 0 H.empty (fun h => enterA Tryz.prog L7.fn L7.args .normal [] h L7.pre.length (run Tryz.prog (extL [L6]) (postOf L7 [267, 197]) 69504)) = true := by kernel_rfl
theorem o7 : lemOk L7 = true := by kernel_rfl
end Go.Proofs.YtfcoffpmcmhieaaGreatDoor.Wo
