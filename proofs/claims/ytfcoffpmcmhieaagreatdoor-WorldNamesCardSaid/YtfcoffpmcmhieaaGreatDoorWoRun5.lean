/- The runs of lemmas, part 5: each is run through by the kernel. -/
import Derived.Test.YtfcoffpmcmhieaaGreatDoorWoData
namespace Go.Proofs.YtfcoffpmcmhieaaGreatDoor.Wo
open Go AI
set_option maxHeartbeats 0 in
theorem e11 : startF (run Tryz.prog (extL [L8, L9, L10]) (postOf L11 [17]) 29447) S11_0 = true := by kernel_rfl
theorem o11 : lemOk L11 = true := by kernel_rfl
end Go.Proofs.YtfcoffpmcmhieaaGreatDoor.Wo
