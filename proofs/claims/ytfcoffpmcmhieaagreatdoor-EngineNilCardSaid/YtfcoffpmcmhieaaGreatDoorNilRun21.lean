/- The runs of lemmas, part 21: each is run through by the kernel. -/
import Derived.Test.YtfcoffpmcmhieaaGreatDoorNilData
namespace Go.Proofs.YtfcoffpmcmhieaaGreatDoor.Nil
open Go AI
set_option maxHeartbeats 0 in
theorem c58_1 : (fun F => startF (runTo Tryz.prog (extL [L55, L57]) (postOf L58 [125, 19]) (cutGo L58.pre.length S58_1 F) 30006) S58_0) = fun F => F S58_1 := by kernel_rfl
end Go.Proofs.YtfcoffpmcmhieaaGreatDoor.Nil
