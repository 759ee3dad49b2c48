/- The runs of lemmas, part 24: each is run through by the kernel. -/
import Derived.Test.YtfcoffpmcmhieaaGreatDoorEnData
namespace Go.Proofs.YtfcoffpmcmhieaaGreatDoor.En
open Go AI
set_option maxHeartbeats 0 in
theorem c110_0 : (fun F => layH L110.pre 0 H.empty (fun h => enterA Tryz.prog L110.fn L110.args .normal [] h L110.pre.length (runTo Tryz.prog (extL [L107, L109]) (postOf L110 [125, 19]) (cutGo L110.pre.length S110_0 F) 30002))) = fun F => F S110_0 := by kernel_rfl
end Go.Proofs.YtfcoffpmcmhieaaGreatDoor.En
