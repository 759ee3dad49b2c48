/- The runs of lemmas, part 2: each is run through by the kernel. -/
import Derived.Test.YtfcoffpmcmhieaaGreatDoorVeData
namespace Go.Proofs.YtfcoffpmcmhieaaGreatDoor.Ve
open Go AI
set_option maxHeartbeats 0 in
theorem c4_3 : (fun F => startF (runTo Tryz.prog (extL []) (postOf L4 [388, 24]) (cutGo L4.pre.length S4_3 F) 30008) S4_2) = fun F => F S4_3 := by kernel_rfl
set_option maxHeartbeats 0 in
theorem c4_4 : (fun F => startF (runTo Tryz.prog (extL []) (postOf L4 [388, 24]) (cutGo L4.pre.length S4_4 F) 30193) S4_3) = fun F => F S4_4 := by kernel_rfl
end Go.Proofs.YtfcoffpmcmhieaaGreatDoor.Ve
