/- The runs of lemmas, part 8: each is run through by the kernel. -/
import Derived.Test.YtfcoffpmcmhieaaGreatDoorVeData
namespace Go.Proofs.YtfcoffpmcmhieaaGreatDoor.Ve
open Go AI
set_option maxHeartbeats 0 in
theorem r48 : layH L48.pre 0 H.empty (fun h => enterA Tryz.prog L48.fn L48.args .normal [] h L48.pre.length (run Tryz.prog (extL [L47]) (postOf L48 [267, 197]) 69504)) = true := by kernel_rfl
theorem o48 : lemOk L48 = true := by kernel_rfl
end Go.Proofs.YtfcoffpmcmhieaaGreatDoor.Ve
