/- The runs of lemmas, part 4: each is run through by the kernel. -/
import Derived.Test.YtfcoffpmcmhieaaGreatDoorVeData
namespace Go.Proofs.YtfcoffpmcmhieaaGreatDoor.Ve
open Go AI
set_option maxHeartbeats 0 in
theorem e4 : startF (run Tryz.prog (extL []) (postOf L4 [388, 24]) 19736) S4_6 = true := by kernel_rfl
theorem o4 : lemOk L4 = true := by kernel_rfl
set_option maxHeartbeats 0 in
theorem c5_0 : (fun F => layH L5.pre 0 H.empty (fun h => enterA Tryz.prog L5.fn L5.args .normal [] h L5.pre.length (runTo Tryz.prog (extL []) (postOf L5 []) (cutGo L5.pre.length S5_0 F) 30000))) = fun F => F S5_0 := by kernel_rfl
theorem e5 : startF (run Tryz.prog (extL []) (postOf L5 []) 910) S5_0 = true := by kernel_rfl
theorem o5 : lemOk L5 = true := by kernel_rfl
theorem r6 : layH L6.pre 0 H.empty (fun h => enterA Tryz.prog L6.fn L6.args .normal [] h L6.pre.length (run Tryz.prog (extL []) (postOf L6 []) 3299)) = true := by kernel_rfl
theorem o6 : lemOk L6 = true := by kernel_rfl
theorem r7 : layH L7.pre 0 H.empty (fun h => enterA Tryz.prog L7.fn L7.args .normal [] h L7.pre.length (run Tryz.prog (extL [L6]) (postOf L7 [26]) 1197)) = true := by kernel_rfl
theorem o7 : lemOk L7 = true := by kernel_rfl
end Go.Proofs.YtfcoffpmcmhieaaGreatDoor.Ve
