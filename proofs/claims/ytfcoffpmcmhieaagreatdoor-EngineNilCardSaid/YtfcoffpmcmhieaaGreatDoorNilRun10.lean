/- The runs of lemmas, part 10: each is run through by the kernel. -/
import Derived.Test.YtfcoffpmcmhieaaGreatDoorNilData
namespace Go.Proofs.YtfcoffpmcmhieaaGreatDoor.Nil
open Go AI
set_option maxHeartbeats 0 in
theorem c54_0 : (fun F => layH L54.pre 0 H.empty (fun h => enterA Tryz.prog L54.fn L54.args .normal [] h L54.pre.length (runTo Tryz.prog (extL []) (postOf L54 [388, 24]) (cutGo L54.pre.length S54_0 F) 30115))) = fun F => F S54_0 := by kernel_rfl
end Go.Proofs.YtfcoffpmcmhieaaGreatDoor.Nil
