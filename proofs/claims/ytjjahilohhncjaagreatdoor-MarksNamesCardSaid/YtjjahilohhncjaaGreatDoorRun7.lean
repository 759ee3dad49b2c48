/- The runs of lemmas, part 7: each is run through by the kernel. -/
import Derived.Test.YtjjahilohhncjaaGreatDoorData
namespace Go.Proofs.YtjjahilohhncjaaGreatDoor
open Go AI
set_option maxHeartbeats 0 in
theorem r12 : layH L12.pre 0 H.empty (fun h => enterA Tryz.prog L12.fn L12.args .normal [] h L12.pre.length (run Tryz.prog (extL [L8, L9, L11]) (postOf L12 [1562, 1050]) 35574)) = true := by kernel_rfl
theorem o12 : lemOk L12 = true := by kernel_rfl
end Go.Proofs.YtjjahilohhncjaaGreatDoor
