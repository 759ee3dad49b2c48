/- The runs of lemmas, part 21: each is run through by the kernel. -/
import Derived.Test.YtfcoffpmcmhieaaGreatDoorEnData
namespace Go.Proofs.YtfcoffpmcmhieaaGreatDoor.En
open Go AI
set_option maxHeartbeats 0 in
theorem e106 : startF (run Tryz.prog (extL []) (postOf L106 [388, 24]) 19736) S106_6 = true := by kernel_rfl
theorem o106 : lemOk L106 = true := by kernel_rfl
end Go.Proofs.YtfcoffpmcmhieaaGreatDoor.En
