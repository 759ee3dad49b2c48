/- The runs of lemmas, part 6: each is run through by the kernel. -/
import Derived.Test.YtjjahilohhncjaaGreatDoorData
namespace Go.Proofs.YtjjahilohhncjaaGreatDoor
open Go AI
set_option maxHeartbeats 0 in
theorem r11 : layH L11.pre 0 H.empty (fun h => enterA Tryz.prog L11.fn L11.args .normal [] h L11.pre.length (run Tryz.prog (extL [L8, L9, L10]) (postOf L11 [22]) 59447)) = true := by kernel_rfl
theorem o11 : lemOk L11 = true := by kernel_rfl
end Go.Proofs.YtjjahilohhncjaaGreatDoor
