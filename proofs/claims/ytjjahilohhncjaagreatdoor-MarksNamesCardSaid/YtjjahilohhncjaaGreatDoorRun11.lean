/- The runs of lemmas, part 11: each is run through by the kernel. -/
import Derived.Test.YtjjahilohhncjaaGreatDoorData
namespace Go.Proofs.YtjjahilohhncjaaGreatDoor
open Go AI
theorem r28 : layH L28.pre 0 H.empty (fun h => enterA Tryz.prog L28.fn L28.args .normal [] h L28.pre.length (run Tryz.prog (extL [L8, L9, L23, L24, L25, L26, L27]) (postOf L28 [102, 83, 26, 63, 104]) 4051)) = true := by kernel_rfl
theorem o28 : lemOk L28 = true := by kernel_rfl
theorem r29 : layH L29.pre 0 H.empty (fun h => enterA Tryz.prog L29.fn L29.args .normal [] h L29.pre.length (run Tryz.prog (extL []) (postOf L29 []) 3161)) = true := by kernel_rfl
theorem o29 : lemOk L29 = true := by kernel_rfl
theorem r30 : layH L30.pre 0 H.empty (fun h => enterA Tryz.prog L30.fn L30.args .normal [] h L30.pre.length (run Tryz.prog (extL [L29]) (postOf L30 [12]) 3278)) = true := by kernel_rfl
theorem o30 : lemOk L30 = true := by kernel_rfl
end Go.Proofs.YtjjahilohhncjaaGreatDoor
