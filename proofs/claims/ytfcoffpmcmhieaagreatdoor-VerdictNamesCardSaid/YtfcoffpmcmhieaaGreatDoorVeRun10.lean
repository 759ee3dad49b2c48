/- The runs of lemmas, part 10: each is run through by the kernel. -/
import Derived.Test.YtfcoffpmcmhieaaGreatDoorVeData
namespace Go.Proofs.YtfcoffpmcmhieaaGreatDoor.Ve
open Go AI
set_option maxHeartbeats 0 in
theorem c52_0 : (fun F => layH L52.pre 0 H.empty (fun h => enterA Tryz.prog L52.fn L52.args .normal [] h L52.pre.length (runTo Tryz.prog (extL [L49, L50, L51]) (postOf L52 [17]) (cutGo L52.pre.length S52_0 F) 30000))) = fun F => F S52_0 := by kernel_rfl
set_option maxHeartbeats 0 in
theorem e52 : startF (run Tryz.prog (extL [L49, L50, L51]) (postOf L52 [17]) 29447) S52_0 = true := by kernel_rfl
theorem o52 : lemOk L52 = true := by kernel_rfl
end Go.Proofs.YtfcoffpmcmhieaaGreatDoor.Ve
