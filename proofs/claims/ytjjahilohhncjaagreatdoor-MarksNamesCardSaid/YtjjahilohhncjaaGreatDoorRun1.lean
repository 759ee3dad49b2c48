/- The runs of lemmas, part 1: each is run through by the kernel. -/
import Derived.Test.YtjjahilohhncjaaGreatDoorData
namespace Go.Proofs.YtjjahilohhncjaaGreatDoor
open Go AI
theorem r4 : layH L4.pre 0 H.empty (fun h => enterA Tryz.prog L4.fn L4.args .normal [] h L4.pre.length (run Tryz.prog (extL []) (postOf L4 []) 5925)) = true := by kernel_rfl
theorem o4 : lemOk L4 = true := by kernel_rfl
theorem r5 : layH L5.pre 0 H.empty (fun h => enterA Tryz.prog L5.fn L5.args .normal [] h L5.pre.length (run Tryz.prog (extL []) (postOf L5 []) 1209)) = true := by kernel_rfl
theorem o5 : lemOk L5 = true := by kernel_rfl
theorem r6 : layH L6.pre 0 H.empty (fun h => enterA Tryz.prog L6.fn L6.args .normal [] h L6.pre.length (run Tryz.prog (extL [L4, L5]) (postOf L6 [68]) 2482)) = true := by kernel_rfl
theorem o6 : lemOk L6 = true := by kernel_rfl
end Go.Proofs.YtjjahilohhncjaaGreatDoor
