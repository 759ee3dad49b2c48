/- The runs of lemmas, part 8: each is run through by the kernel. -/
import Derived.Test.YtfcoffpmcmhieaaGreatDoorEnData
namespace Go.Proofs.YtfcoffpmcmhieaaGreatDoor.En
open Go AI
theorem r23 : layH L23.pre 0 H.empty (fun h => enterA Tryz.prog L23.fn L23.args .normal [] h L23.pre.length (run Tryz.prog (extL [L8, L9]) (postOf L23 []) 1929)) = true := by kernel_rfl
theorem o23 : lemOk L23 = true := by kernel_rfl
theorem r24 : layH L24.pre 0 H.empty (fun h => enterA Tryz.prog L24.fn L24.args .normal [] h L24.pre.length (run Tryz.prog (extL [L8, L9]) (postOf L24 []) 1235)) = true := by kernel_rfl
theorem o24 : lemOk L24 = true := by kernel_rfl
theorem r25 : layH L25.pre 0 H.empty (fun h => enterA Tryz.prog L25.fn L25.args .normal [] h L25.pre.length (run Tryz.prog (extL [L8, L9]) (postOf L25 []) 1238)) = true := by kernel_rfl
theorem o25 : lemOk L25 = true := by kernel_rfl
theorem r26 : layH L26.pre 0 H.empty (fun h => enterA Tryz.prog L26.fn L26.args .normal [] h L26.pre.length (run Tryz.prog (extL [L8, L9, L25]) (postOf L26 []) 1298)) = true := by kernel_rfl
theorem o26 : lemOk L26 = true := by kernel_rfl
theorem r27 : layH L27.pre 0 H.empty (fun h => enterA Tryz.prog L27.fn L27.args .normal [] h L27.pre.length (run Tryz.prog (extL [L8, L9]) (postOf L27 []) 1238)) = true := by kernel_rfl
theorem o27 : lemOk L27 = true := by kernel_rfl
theorem r28 : layH L28.pre 0 H.empty (fun h => enterA Tryz.prog L28.fn L28.args .normal [] h L28.pre.length (run Tryz.prog (extL [L8, L9, L27]) (postOf L28 []) 1298)) = true := by kernel_rfl
theorem o28 : lemOk L28 = true := by kernel_rfl
theorem r29 : layH L29.pre 0 H.empty (fun h => enterA Tryz.prog L29.fn L29.args .normal [] h L29.pre.length (run Tryz.prog (extL [L8, L9]) (postOf L29 []) 1224)) = true := by kernel_rfl
theorem o29 : lemOk L29 = true := by kernel_rfl
theorem r30 : layH L30.pre 0 H.empty (fun h => enterA Tryz.prog L30.fn L30.args .normal [] h L30.pre.length (run Tryz.prog (extL [L8, L9, L29]) (postOf L30 []) 1298)) = true := by kernel_rfl
theorem o30 : lemOk L30 = true := by kernel_rfl
theorem r31 : layH L31.pre 0 H.empty (fun h => enterA Tryz.prog L31.fn L31.args .normal [] h L31.pre.length (run Tryz.prog (extL [L8, L9]) (postOf L31 []) 1376)) = true := by kernel_rfl
theorem o31 : lemOk L31 = true := by kernel_rfl
theorem r32 : layH L32.pre 0 H.empty (fun h => enterA Tryz.prog L32.fn L32.args .normal [] h L32.pre.length (run Tryz.prog (extL [L8, L9, L23, L24, L25, L26, L27, L28, L29, L30, L31]) (postOf L32 [184, 165, 26, 63, 104, 145, 186]) 7585)) = true := by kernel_rfl
theorem o32 : lemOk L32 = true := by kernel_rfl
theorem r33 : layH L33.pre 0 H.empty (fun h => enterA Tryz.prog L33.fn L33.args .normal [] h L33.pre.length (run Tryz.prog (extL [L8, L9, L22, L32]) (postOf L33 [83, 79, 38, 82, 81, 58, 59, 60, 61, 39, 40, 41, 42, 43, 44, 45, 46, 47, 48]) 1940)) = true := by kernel_rfl
theorem o33 : lemOk L33 = true := by kernel_rfl
theorem r34 : layH L34.pre 0 H.empty (fun h => enterA Tryz.prog L34.fn L34.args .normal [] h L34.pre.length (run Tryz.prog (extL []) (postOf L34 []) 1355)) = true := by kernel_rfl
theorem o34 : lemOk L34 = true := by kernel_rfl
theorem r35 : layH L35.pre 0 H.empty (fun h => enterA Tryz.prog L35.fn L35.args .normal [] h L35.pre.length (run Tryz.prog (extL [L34]) (postOf L35 []) 3566)) = true := by kernel_rfl
theorem o35 : lemOk L35 = true := by kernel_rfl
theorem r36 : layH L36.pre 0 H.empty (fun h => enterA Tryz.prog L36.fn L36.args .normal [] h L36.pre.length (run Tryz.prog (extL []) (postOf L36 [90, 22, 31, 45, 59, 73]) 1349)) = true := by kernel_rfl
theorem o36 : lemOk L36 = true := by kernel_rfl
theorem r37 : layH L37.pre 0 H.empty (fun h => enterA Tryz.prog L37.fn L37.args .normal [] h L37.pre.length (run Tryz.prog (extL []) (postOf L37 []) 1359)) = true := by kernel_rfl
theorem o37 : lemOk L37 = true := by kernel_rfl
theorem r38 : layH L38.pre 0 H.empty (fun h => enterA Tryz.prog L38.fn L38.args .normal [] h L38.pre.length (run Tryz.prog (extL []) (postOf L38 []) 1359)) = true := by kernel_rfl
theorem o38 : lemOk L38 = true := by kernel_rfl
end Go.Proofs.YtfcoffpmcmhieaaGreatDoor.En
