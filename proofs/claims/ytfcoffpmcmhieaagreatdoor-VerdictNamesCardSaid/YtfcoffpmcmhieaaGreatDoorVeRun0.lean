/- The runs of lemmas, part 0: each is run through by the kernel. -/
import Derived.Test.YtfcoffpmcmhieaaGreatDoorVeData
namespace Go.Proofs.YtfcoffpmcmhieaaGreatDoor.Ve
open Go AI
theorem r0 : layH L0.pre 0 H.empty (fun h => enterA Tryz.prog L0.fn L0.args .normal [] h L0.pre.length (run Tryz.prog (extL []) (postOf L0 []) 1421)) = true := by kernel_rfl
theorem o0 : lemOk L0 = true := by kernel_rfl
theorem r1 : layH L1.pre 0 H.empty (fun h => enterA Tryz.prog L1.fn L1.args .normal [] h L1.pre.length (run Tryz.prog (extL []) (postOf L1 []) 1392)) = true := by kernel_rfl
theorem o1 : lemOk L1 = true := by kernel_rfl
theorem r2 : layH L2.pre 0 H.empty (fun h => enterA Tryz.prog L2.fn L2.args .normal [] h L2.pre.length (run Tryz.prog (extL []) (postOf L2 []) 1392)) = true := by kernel_rfl
theorem o2 : lemOk L2 = true := by kernel_rfl
theorem r3 : layH L3.pre 0 H.empty (fun h => enterA Tryz.prog L3.fn L3.args .normal [] h L3.pre.length (run Tryz.prog (extL []) (postOf L3 [48, 49, 50, 60, 36, 56]) 2188)) = true := by kernel_rfl
theorem o3 : lemOk L3 = true := by kernel_rfl
set_option maxHeartbeats 0 in
theorem c4_0 : (fun F => layH L4.pre 0 H.empty (fun h => enterA Tryz.prog L4.fn L4.args .normal [] h L4.pre.length (runTo Tryz.prog (extL []) (postOf L4 [388, 24]) (cutGo L4.pre.length S4_0 F) 30115))) = fun F => F S4_0 := by kernel_rfl
end Go.Proofs.YtfcoffpmcmhieaaGreatDoor.Ve
