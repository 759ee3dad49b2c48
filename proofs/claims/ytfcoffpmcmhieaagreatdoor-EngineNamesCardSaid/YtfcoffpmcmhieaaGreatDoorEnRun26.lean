/- The runs of lemmas, part 26: each is run through by the kernel. -/
import Derived.Test.YtfcoffpmcmhieaaGreatDoorEnData
namespace Go.Proofs.YtfcoffpmcmhieaaGreatDoor.En
open Go AI
theorem e110 : startF (run Tryz.prog (extL [L107, L109]) (postOf L110 [125, 19]) 2585) S110_1 = true := by kernel_rfl
theorem o110 : lemOk L110 = true := by kernel_rfl
theorem r111 : layH L111.pre 0 H.empty (fun h => enterA Tryz.prog L111.fn L111.args .normal [] h L111.pre.length (run Tryz.prog (extL [L102, L103, L104, L105, L106, L110]) (postOf L111 [66, 67, 56]) 1848)) = true := by kernel_rfl
theorem o111 : lemOk L111 = true := by kernel_rfl
theorem r112 : layH L112.pre 0 H.empty (fun h => enterA Tryz.prog L112.fn L112.args .normal [] h L112.pre.length (run Tryz.prog (extL []) (postOf L112 []) 1888)) = true := by kernel_rfl
theorem o112 : lemOk L112 = true := by kernel_rfl
theorem r113 : layH L113.pre 0 H.empty (fun h => enterA Tryz.prog L113.fn L113.args .normal [] h L113.pre.length (run Tryz.prog (extL []) (postOf L113 []) 1476)) = true := by kernel_rfl
theorem o113 : lemOk L113 = true := by kernel_rfl
theorem r114 : layH L114.pre 0 H.empty (fun h => enterA Tryz.prog L114.fn L114.args .normal [] h L114.pre.length (run Tryz.prog (extL []) (postOf L114 [14, 90]) 3812)) = true := by kernel_rfl
theorem o114 : lemOk L114 = true := by kernel_rfl
theorem r115 : layH L115.pre 0 H.empty (fun h => enterA Tryz.prog L115.fn L115.args .normal [] h L115.pre.length (run Tryz.prog (extL [L114]) (postOf L115 [16, 31]) 1445)) = true := by kernel_rfl
theorem o115 : lemOk L115 = true := by kernel_rfl
theorem r116 : layH L116.pre 0 H.empty (fun h => enterA Tryz.prog L116.fn L116.args .normal [] h L116.pre.length (run Tryz.prog (extL [L114, L115]) (postOf L116 [48, 34, 46]) 1921)) = true := by kernel_rfl
theorem o116 : lemOk L116 = true := by kernel_rfl
theorem r117 : layH L117.pre 0 H.empty (fun h => enterA Tryz.prog L117.fn L117.args .normal [] h L117.pre.length (run Tryz.prog (extL [L112, L113, L116]) (postOf L117 [29]) 1670)) = true := by kernel_rfl
theorem o117 : lemOk L117 = true := by kernel_rfl
theorem r118 : layH L118.pre 0 H.empty (fun h => enterA Tryz.prog L118.fn L118.args .normal [] h L118.pre.length (run Tryz.prog (extL [L112, L113, L116]) (postOf L118 [39]) 2297)) = true := by kernel_rfl
theorem o118 : lemOk L118 = true := by kernel_rfl
theorem r119 : layH L119.pre 0 H.empty (fun h => enterA Tryz.prog L119.fn L119.args .normal [] h L119.pre.length (run Tryz.prog (extL [L111, L112, L113, L115, L116, L117, L118]) (postOf L119 [76, 12, 13, 14, 65, 47, 71, 60, 63, 48, 49, 69]) 2812)) = true := by kernel_rfl
theorem o119 : lemOk L119 = true := by kernel_rfl
theorem r120 : layH L120.pre 0 H.empty (fun h => enterA Tryz.prog L120.fn L120.args .normal [] h L120.pre.length (run Tryz.prog (extL [L107]) (postOf L120 []) 1254)) = true := by kernel_rfl
theorem o120 : lemOk L120 = true := by kernel_rfl
theorem r121 : layH L121.pre 0 H.empty (fun h => enterA Tryz.prog L121.fn L121.args .normal [] h L121.pre.length (run Tryz.prog (extL [L107]) (postOf L121 [19]) 1211)) = true := by kernel_rfl
theorem o121 : lemOk L121 = true := by kernel_rfl
theorem r122 : layH L122.pre 0 H.empty (fun h => enterA Tryz.prog L122.fn L122.args .normal [] h L122.pre.length (run Tryz.prog (extL [L107, L120, L121]) (postOf L122 [54, 52]) 1623)) = true := by kernel_rfl
theorem o122 : lemOk L122 = true := by kernel_rfl
theorem r123 : layH L123.pre 0 H.empty (fun h => enterA Tryz.prog L123.fn L123.args .normal [] h L123.pre.length (run Tryz.prog (extL [L107, L122]) (postOf L123 [79, 71, 76]) 2695)) = true := by kernel_rfl
theorem o123 : lemOk L123 = true := by kernel_rfl
theorem r124 : layH L124.pre 0 H.empty (fun h => enterA Tryz.prog L124.fn L124.args .normal [] h L124.pre.length (run Tryz.prog (extL [L81, L90, L101, L107, L119, L123]) (postOf L124 []) 3114)) = true := by kernel_rfl
theorem o124 : lemOk L124 = true := by kernel_rfl
end Go.Proofs.YtfcoffpmcmhieaaGreatDoor.En
