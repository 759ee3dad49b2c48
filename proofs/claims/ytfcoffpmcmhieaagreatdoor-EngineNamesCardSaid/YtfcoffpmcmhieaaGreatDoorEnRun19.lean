/- The runs of lemmas, part 19: each is run through by the kernel. -/
import Derived.Test.YtfcoffpmcmhieaaGreatDoorEnData
namespace Go.Proofs.YtfcoffpmcmhieaaGreatDoor.En
open Go AI
set_option maxHeartbeats 0 in
theorem c106_5 : (fun F => startF (runTo Tryz.prog (extL []) (postOf L106 [388, 24]) (cutGo L106.pre.length S106_5 F) 30035) S106_4) = fun F => F S106_5 := by kernel_rfl
end Go.Proofs.YtfcoffpmcmhieaaGreatDoor.En
