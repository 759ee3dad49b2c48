/- The runs of lemmas, part 4: each is run through by the kernel. -/
import Derived.Test.YtfcoffpmcmhieaaGreatDoorEnData
namespace Go.Proofs.YtfcoffpmcmhieaaGreatDoor.En
open Go AI
set_option maxHeartbeats 0 in
theorem c11_0 : (fun F => layH L11.pre 0 H.empty (fun h => enterA Tryz.prog L11.fn L11.args .normal [] h L11.pre.length (runTo Tryz.prog (extL [L8, L9, L10]) (postOf L11 [17]) (cutGo L11.pre.length S11_0 F) 30000))) = fun F => F S11_0 := by kernel_rfl
end Go.Proofs.YtfcoffpmcmhieaaGreatDoor.En
