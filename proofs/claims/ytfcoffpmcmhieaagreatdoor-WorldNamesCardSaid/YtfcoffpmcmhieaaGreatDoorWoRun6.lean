/- The runs of lemmas, part 6: each is run through by the kernel. -/
import Derived.Test.YtfcoffpmcmhieaaGreatDoorWoData
namespace Go.Proofs.YtfcoffpmcmhieaaGreatDoor.Wo
open Go AI
set_option maxHeartbeats 0 in
theorem c12_0 : (fun F => layH L12.pre 0 H.empty (fun h => enterA Tryz.prog L12.fn L12.args .normal [] h L12.pre.length (runTo Tryz.prog (extL [L8, L9, L11]) (postOf L12 [279, 19]) (cutGo L12.pre.length S12_0 F) 30000))) = fun F => F S12_0 := by kernel_rfl
end Go.Proofs.YtfcoffpmcmhieaaGreatDoor.Wo
