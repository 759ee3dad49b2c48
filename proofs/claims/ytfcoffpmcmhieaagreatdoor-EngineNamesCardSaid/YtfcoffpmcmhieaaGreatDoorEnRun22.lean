/- The runs of lemmas, part 22: each is run through by the kernel. -/
import Derived.Test.YtfcoffpmcmhieaaGreatDoorEnData
namespace Go.Proofs.YtfcoffpmcmhieaaGreatDoor.En
open Go AI
set_option maxHeartbeats 0 in
theorem c107_0 : (fun F => layH L107.pre 0 H.empty (fun h => enterA Tryz.prog L107.fn L107.args .normal [] h L107.pre.length (runTo Tryz.prog (extL []) (postOf L107 []) (cutGo L107.pre.length S107_0 F) 30000))) = fun F => F S107_0 := by kernel_rfl
theorem e107 : startF (run Tryz.prog (extL []) (postOf L107 []) 910) S107_0 = true := by kernel_rfl
theorem o107 : lemOk L107 = true := by kernel_rfl
end Go.Proofs.YtfcoffpmcmhieaaGreatDoor.En
