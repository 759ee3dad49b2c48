/- The runs of lemmas, part 1: each is run through by the kernel. -/
import Derived.Test.YtfcoffpmcmhieaaGreatDoorVeData
namespace Go.Proofs.YtfcoffpmcmhieaaGreatDoor.Ve
open Go AI
set_option maxHeartbeats 0 in
theorem c4_1 : (fun F => startF (runTo Tryz.prog (extL []) (postOf L4 [388, 24]) (cutGo L4.pre.length S4_1 F) 30254) S4_0) = fun F => F S4_1 := by kernel_rfl
set_option maxHeartbeats 0 in
theorem c4_2 : (fun F => startF (runTo Tryz.prog (extL []) (postOf L4 [388, 24]) (cutGo L4.pre.length S4_2 F) 30068) S4_1) = fun F => F S4_2 := by kernel_rfl
end Go.Proofs.YtfcoffpmcmhieaaGreatDoor.Ve
