/- The runs of lemmas, part 20: each is run through by the kernel. -/
import Derived.Test.YtfcoffpmcmhieaaGreatDoorNilData
namespace Go.Proofs.YtfcoffpmcmhieaaGreatDoor.Nil
open Go AI
set_option maxHeartbeats 0 in
theorem c58_0 : (fun F => layH L58.pre 0 H.empty (fun h => enterA Tryz.prog L58.fn L58.args .normal [] h L58.pre.length (runTo Tryz.prog (extL [L55, L57]) (postOf L58 [125, 19]) (cutGo L58.pre.length S58_0 F) 30002))) = fun F => F S58_0 := by kernel_rfl
end Go.Proofs.YtfcoffpmcmhieaaGreatDoor.Nil
