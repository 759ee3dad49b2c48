/- The runs of lemmas, part 12: each is run through by the kernel. -/
import Derived.Test.YtjjahilohhncjaaGreatDoorData
namespace Go.Proofs.YtjjahilohhncjaaGreatDoor
open Go AI
theorem r31 : layH L31.pre 0 H.empty (fun h => enterA Tryz.prog L31.fn L31.args .normal [] h L31.pre.length (run Tryz.prog (extL [L29]) (postOf L31 [12]) 3271)) = true := by kernel_rfl
theorem o31 : lemOk L31 = true := by kernel_rfl
theorem r32 : layH L32.pre 0 H.empty (fun h => enterA Tryz.prog L32.fn L32.args .normal [] h L32.pre.length (run Tryz.prog (extL [L29]) (postOf L32 [12]) 3271)) = true := by kernel_rfl
theorem o32 : lemOk L32 = true := by kernel_rfl
theorem r33 : layH L33.pre 0 H.empty (fun h => enterA Tryz.prog L33.fn L33.args .normal [] h L33.pre.length (run Tryz.prog (extL []) (postOf L33 []) 3161)) = true := by kernel_rfl
theorem o33 : lemOk L33 = true := by kernel_rfl
end Go.Proofs.YtjjahilohhncjaaGreatDoor
