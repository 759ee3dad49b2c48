/- The runs of lemmas, part 9: each is run through by the kernel. -/
import Derived.Test.YtjjahilohhncjaaGreatDoorData
namespace Go.Proofs.YtjjahilohhncjaaGreatDoor
open Go AI
theorem r16 : layH L16.pre 0 H.empty (fun h => enterA Tryz.prog L16.fn L16.args .normal [] h L16.pre.length (run Tryz.prog (extL [L15]) (postOf L16 [19, 21]) 3237)) = true := by kernel_rfl
theorem o16 : lemOk L16 = true := by kernel_rfl
theorem r17 : layH L17.pre 0 H.empty (fun h => enterA Tryz.prog L17.fn L17.args .normal [] h L17.pre.length (run Tryz.prog (extL []) (postOf L17 [41]) 1645)) = true := by kernel_rfl
theorem o17 : lemOk L17 = true := by kernel_rfl
theorem r18 : layH L18.pre 0 H.empty (fun h => enterA Tryz.prog L18.fn L18.args .normal [] h L18.pre.length (run Tryz.prog (extL [L15, L16, L17]) (postOf L18 [48, 26, 46]) 1530)) = true := by kernel_rfl
theorem o18 : lemOk L18 = true := by kernel_rfl
theorem r19 : layH L19.pre 0 H.empty (fun h => enterA Tryz.prog L19.fn L19.args .normal [] h L19.pre.length (run Tryz.prog (extL [L18]) (postOf L19 [18, 19, 20]) 1465)) = true := by kernel_rfl
theorem o19 : lemOk L19 = true := by kernel_rfl
theorem r20 : layH L20.pre 0 H.empty (fun h => enterA Tryz.prog L20.fn L20.args .normal [] h L20.pre.length (run Tryz.prog (extL [L13, L14, L19]) (postOf L20 [56]) 2348)) = true := by kernel_rfl
theorem o20 : lemOk L20 = true := by kernel_rfl
theorem r21 : layH L21.pre 0 H.empty (fun h => enterA Tryz.prog L21.fn L21.args .normal [] h L21.pre.length (run Tryz.prog (extL [L13, L14, L19]) (postOf L21 [23]) 1268)) = true := by kernel_rfl
theorem o21 : lemOk L21 = true := by kernel_rfl
end Go.Proofs.YtjjahilohhncjaaGreatDoor
