/- The runs of lemmas, part 14: each is run through by the kernel. -/
import Derived.Test.YtfcoffpmcmhieaaGreatDoorEnData
namespace Go.Proofs.YtfcoffpmcmhieaaGreatDoor.En
open Go AI
set_option maxHeartbeats 0 in
theorem c106_0 : (fun F => layH L106.pre 0 H.empty (fun h => enterA Tryz.prog L106.fn L106.args .normal [] h L106.pre.length (runTo Tryz.prog (extL []) (postOf L106 [388, 24]) (cutGo L106.pre.length S106_0 F) 30115))) = fun F => F S106_0 := by kernel_rfl
end Go.Proofs.YtfcoffpmcmhieaaGreatDoor.En
