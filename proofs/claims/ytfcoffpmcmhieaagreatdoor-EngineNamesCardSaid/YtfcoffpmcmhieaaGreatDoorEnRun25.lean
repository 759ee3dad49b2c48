/- The runs of lemmas, part 25: each is run through by the kernel. -/
import Derived.Test.YtfcoffpmcmhieaaGreatDoorEnData
namespace Go.Proofs.YtfcoffpmcmhieaaGreatDoor.En
open Go AI
set_option maxHeartbeats 0 in
theorem c110_1 : (fun F => startF (runTo Tryz.prog (extL [L107, L109]) (postOf L110 [125, 19]) (cutGo L110.pre.length S110_1 F) 30006) S110_0) = fun F => F S110_1 := by kernel_rfl
end Go.Proofs.YtfcoffpmcmhieaaGreatDoor.En
