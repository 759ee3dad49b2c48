/- The runs of lemmas, part 10: each is run through by the kernel. -/
import Derived.Test.YtjjahilohhncjaaGreatDoorData
namespace Go.Proofs.YtjjahilohhncjaaGreatDoor
open Go AI
theorem r22 : layH L22.pre 0 H.empty (fun h => enterA Tryz.prog L22.fn L22.args .normal [] h L22.pre.length (run Tryz.prog (extL [L1, L2, L3, L7, L12, L13, L14, L16, L19, L20, L21]) (postOf L22 [90, 38, 39, 28, 73, 65, 81, 75, 66, 67, 79]) 1960)) = true := by kernel_rfl
theorem o22 : lemOk L22 = true := by kernel_rfl
theorem r23 : layH L23.pre 0 H.empty (fun h => enterA Tryz.prog L23.fn L23.args .normal [] h L23.pre.length (run Tryz.prog (extL [L8, L9]) (postOf L23 []) 1929)) = true := by kernel_rfl
theorem o23 : lemOk L23 = true := by kernel_rfl
theorem r24 : layH L24.pre 0 H.empty (fun h => enterA Tryz.prog L24.fn L24.args .normal [] h L24.pre.length (run Tryz.prog (extL [L8, L9]) (postOf L24 []) 1235)) = true := by kernel_rfl
theorem o24 : lemOk L24 = true := by kernel_rfl
theorem r25 : layH L25.pre 0 H.empty (fun h => enterA Tryz.prog L25.fn L25.args .normal [] h L25.pre.length (run Tryz.prog (extL [L8, L9]) (postOf L25 []) 1224)) = true := by kernel_rfl
theorem o25 : lemOk L25 = true := by kernel_rfl
theorem r26 : layH L26.pre 0 H.empty (fun h => enterA Tryz.prog L26.fn L26.args .normal [] h L26.pre.length (run Tryz.prog (extL [L8, L9, L25]) (postOf L26 []) 1298)) = true := by kernel_rfl
theorem o26 : lemOk L26 = true := by kernel_rfl
theorem r27 : layH L27.pre 0 H.empty (fun h => enterA Tryz.prog L27.fn L27.args .normal [] h L27.pre.length (run Tryz.prog (extL [L8, L9]) (postOf L27 []) 1376)) = true := by kernel_rfl
theorem o27 : lemOk L27 = true := by kernel_rfl
end Go.Proofs.YtjjahilohhncjaaGreatDoor
