/- The runs of lemmas, part 8: each is run through by the kernel. -/
import Derived.Test.YtjjahilohhncjaaGreatDoorData
namespace Go.Proofs.YtjjahilohhncjaaGreatDoor
open Go AI
theorem r13 : layH L13.pre 0 H.empty (fun h => enterA Tryz.prog L13.fn L13.args .normal [] h L13.pre.length (run Tryz.prog (extL []) (postOf L13 []) 2362)) = true := by kernel_rfl
theorem o13 : lemOk L13 = true := by kernel_rfl
theorem r14 : layH L14.pre 0 H.empty (fun h => enterA Tryz.prog L14.fn L14.args .normal [] h L14.pre.length (run Tryz.prog (extL []) (postOf L14 []) 1826)) = true := by kernel_rfl
theorem o14 : lemOk L14 = true := by kernel_rfl
theorem r15 : layH L15.pre 0 H.empty (fun h => enterA Tryz.prog L15.fn L15.args .normal [] h L15.pre.length (run Tryz.prog (extL []) (postOf L15 [16, 150]) 7763)) = true := by kernel_rfl
theorem o15 : lemOk L15 = true := by kernel_rfl
end Go.Proofs.YtjjahilohhncjaaGreatDoor
