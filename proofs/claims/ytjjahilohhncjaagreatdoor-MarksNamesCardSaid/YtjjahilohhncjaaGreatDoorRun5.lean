/- The runs of lemmas, part 5: each is run through by the kernel. -/
import Derived.Test.YtjjahilohhncjaaGreatDoorData
namespace Go.Proofs.YtjjahilohhncjaaGreatDoor
open Go AI
theorem r10 : layH L10.pre 0 H.empty (fun h => enterA Tryz.prog L10.fn L10.args .normal [] h L10.pre.length (run Tryz.prog (extL []) (postOf L10 []) 1604)) = true := by kernel_rfl
theorem o10 : lemOk L10 = true := by kernel_rfl
end Go.Proofs.YtjjahilohhncjaaGreatDoor
