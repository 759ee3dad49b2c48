/- The runs of lemmas, part 11: each is run through by the kernel. -/
import Derived.Test.YtfcoffpmcmhieaaGreatDoorNilData
namespace Go.Proofs.YtfcoffpmcmhieaaGreatDoor.Nil
open Go AI
set_option maxHeartbeats 0 in
theorem c54_1 : (fun F => startF (runTo Tryz.prog (extL []) (postOf L54 [388, 24]) (cutGo L54.pre.length S54_1 F) 30254) S54_0) = fun F => F S54_1 := by kernel_rfl
end Go.Proofs.YtfcoffpmcmhieaaGreatDoor.Nil
