/- The runs of lemmas, part 17: each is run through by the kernel. -/
import Derived.Test.YtfcoffpmcmhieaaGreatDoorNilData
namespace Go.Proofs.YtfcoffpmcmhieaaGreatDoor.Nil
open Go AI
set_option maxHeartbeats 0 in
theorem e54 : startF (run Tryz.prog (extL []) (postOf L54 [388, 24]) 19736) S54_6 = true := by kernel_rfl
theorem o54 : lemOk L54 = true := by kernel_rfl
end Go.Proofs.YtfcoffpmcmhieaaGreatDoor.Nil
