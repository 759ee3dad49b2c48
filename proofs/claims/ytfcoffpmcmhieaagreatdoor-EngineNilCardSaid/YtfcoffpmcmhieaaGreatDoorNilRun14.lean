/- The runs of lemmas, part 14: each is run through by the kernel. -/
import Derived.Test.YtfcoffpmcmhieaaGreatDoorNilData
namespace Go.Proofs.YtfcoffpmcmhieaaGreatDoor.Nil
open Go AI
set_option maxHeartbeats 0 in
theorem c54_4 : (fun F => startF (runTo Tryz.prog (extL []) (postOf L54 [388, 24]) (cutGo L54.pre.length S54_4 F) 30193) S54_3) = fun F => F S54_4 := by kernel_rfl
end Go.Proofs.YtfcoffpmcmhieaaGreatDoor.Nil
