/- The runs of lemmas, part 5: each is run through by the kernel. -/
import Derived.Test.YtfcoffpmcmhieaaGreatDoorVeData
namespace Go.Proofs.YtfcoffpmcmhieaaGreatDoor.Ve
open Go AI
set_option maxHeartbeats 0 in
theorem c8_0 : (fun F => layH L8.pre 0 H.empty (fun h => enterA Tryz.prog L8.fn L8.args .normal [] h L8.pre.length (runTo Tryz.prog (extL [L5, L7]) (postOf L8 [125, 19]) (cutGo L8.pre.length S8_0 F) 30002))) = fun F => F S8_0 := by kernel_rfl
set_option maxHeartbeats 0 in
theorem c8_1 : (fun F => startF (runTo Tryz.prog (extL [L5, L7]) (postOf L8 [125, 19]) (cutGo L8.pre.length S8_1 F) 30006) S8_0) = fun F => F S8_1 := by kernel_rfl
end Go.Proofs.YtfcoffpmcmhieaaGreatDoor.Ve
