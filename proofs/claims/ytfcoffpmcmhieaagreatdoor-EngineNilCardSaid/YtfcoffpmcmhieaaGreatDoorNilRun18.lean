/- The runs of lemmas, part 18: each is run through by the kernel. -/
import Derived.Test.YtfcoffpmcmhieaaGreatDoorNilData
namespace Go.Proofs.YtfcoffpmcmhieaaGreatDoor.Nil
open Go AI
set_option maxHeartbeats 0 in
theorem c55_0 : (fun F => layH L55.pre 0 H.empty (fun h => enterA Tryz.prog L55.fn L55.args .normal [] h L55.pre.length (runTo Tryz.prog (extL []) (postOf L55 []) (cutGo L55.pre.length S55_0 F) 30000))) = fun F => F S55_0 := by kernel_rfl
theorem e55 : startF (run Tryz.prog (extL []) (postOf L55 []) 910) S55_0 = true := by kernel_rfl
theorem o55 : lemOk L55 = true := by kernel_rfl
end Go.Proofs.YtfcoffpmcmhieaaGreatDoor.Nil
