/- The runs of lemmas, part 3: each is run through by the kernel. -/
import Derived.Test.YtfcoffpmcmhieaaGreatDoorVeData
namespace Go.Proofs.YtfcoffpmcmhieaaGreatDoor.Ve
open Go AI
set_option maxHeartbeats 0 in
theorem c4_5 : (fun F => startF (runTo Tryz.prog (extL []) (postOf L4 [388, 24]) (cutGo L4.pre.length S4_5 F) 30035) S4_4) = fun F => F S4_5 := by kernel_rfl
set_option maxHeartbeats 0 in
theorem c4_6 : (fun F => startF (runTo Tryz.prog (extL []) (postOf L4 [388, 24]) (cutGo L4.pre.length S4_6 F) 30092) S4_5) = fun F => F S4_6 := by kernel_rfl
end Go.Proofs.YtfcoffpmcmhieaaGreatDoor.Ve
