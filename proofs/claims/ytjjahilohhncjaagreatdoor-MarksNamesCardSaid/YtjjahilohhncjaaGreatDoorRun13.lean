/- The runs of lemmas, part 13: each is run through by the kernel. -/
import Derived.Test.YtjjahilohhncjaaGreatDoorData
namespace Go.Proofs.YtjjahilohhncjaaGreatDoor
open Go AI
theorem r34 : layH L34.pre 0 H.empty (fun h => enterA Tryz.prog L34.fn L34.args .normal [] h L34.pre.length (run Tryz.prog (extL [L33]) (postOf L34 [12]) 2556)) = true := by kernel_rfl
theorem o34 : lemOk L34 = true := by kernel_rfl
end Go.Proofs.YtjjahilohhncjaaGreatDoor
