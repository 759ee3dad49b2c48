/- The runs of lemmas, part 9: each is run through by the kernel. -/
import Derived.Test.YtfcoffpmcmhieaaGreatDoorVeData
namespace Go.Proofs.YtfcoffpmcmhieaaGreatDoor.Ve
open Go AI
set_option maxHeartbeats 0 in
theorem r49 : layH L49.pre 0 H.empty (fun h => enterA Tryz.prog L49.fn L49.args .normal [] h L49.pre.length (run Tryz.prog (extL []) (postOf L49 []) 21527)) = true := by kernel_rfl
theorem o49 : lemOk L49 = true := by kernel_rfl
set_option maxHeartbeats 0 in
theorem r50 : layH L50.pre 0 H.empty (fun h => enterA Tryz.prog L50.fn L50.args .normal [] h L50.pre.length (run Tryz.prog (extL []) (postOf L50 []) 21527)) = true := by kernel_rfl
theorem o50 : lemOk L50 = true := by kernel_rfl
theorem r51 : layH L51.pre 0 H.empty (fun h => enterA Tryz.prog L51.fn L51.args .normal [] h L51.pre.length (run Tryz.prog (extL []) (postOf L51 []) 1604)) = true := by kernel_rfl
theorem o51 : lemOk L51 = true := by kernel_rfl
end Go.Proofs.YtfcoffpmcmhieaaGreatDoor.Ve
