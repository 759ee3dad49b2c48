/- The runs of lemmas, part 14: each is run through by the kernel. -/
import Derived.Test.YtfcoffpmcmhieaaGreatDoorVeData
namespace Go.Proofs.YtfcoffpmcmhieaaGreatDoor.Ve
open Go AI
theorem r114 : layH L114.pre 0 H.empty (fun h => enterA Tryz.prog L114.fn L114.args .normal [] h L114.pre.length (run Tryz.prog (extL [L110]) (postOf L114 [17]) 1865)) = true := by kernel_rfl
theorem o114 : lemOk L114 = true := by kernel_rfl
theorem r115 : layH L115.pre 0 H.empty (fun h => enterA Tryz.prog L115.fn L115.args .normal [] h L115.pre.length (run Tryz.prog (extL [L49, L50, L82, L84, L110, L113, L114]) (postOf L115 []) 2218)) = true := by kernel_rfl
theorem o115 : lemOk L115 = true := by kernel_rfl
theorem r116 : layH L116.pre 0 H.empty (fun h => enterA Tryz.prog L116.fn L116.args .normal [] h L116.pre.length (run Tryz.prog (extL [L110, L111, L112, L115]) (postOf L116 []) 1458)) = true := by kernel_rfl
theorem o116 : lemOk L116 = true := by kernel_rfl
theorem r117 : layH L117.pre 0 H.empty (fun h => enterA Tryz.prog L117.fn L117.args .normal [] h L117.pre.length (run Tryz.prog (extL [L77, L78, L83, L92]) (postOf L117 []) 5697)) = true := by kernel_rfl
theorem o117 : lemOk L117 = true := by kernel_rfl
theorem r118 : layH L118.pre 0 H.empty (fun h => enterA Tryz.prog L118.fn L118.args .normal [] h L118.pre.length (run Tryz.prog (extL [L49, L50, L82, L83, L84, L94, L95]) (postOf L118 []) 2218)) = true := by kernel_rfl
theorem o118 : lemOk L118 = true := by kernel_rfl
theorem r119 : layH L119.pre 0 H.empty (fun h => enterA Tryz.prog L119.fn L119.args .normal [] h L119.pre.length (run Tryz.prog (extL []) (postOf L119 []) 1208)) = true := by kernel_rfl
theorem o119 : lemOk L119 = true := by kernel_rfl
theorem r120 : layH L120.pre 0 H.empty (fun h => enterA Tryz.prog L120.fn L120.args .normal [] h L120.pre.length (run Tryz.prog (extL [L83, L91, L100, L117, L118, L119]) (postOf L120 []) 1675)) = true := by kernel_rfl
theorem o120 : lemOk L120 = true := by kernel_rfl
theorem r121 : layH L121.pre 0 H.empty (fun h => enterA Tryz.prog L121.fn L121.args .normal [] h L121.pre.length (run Tryz.prog (extL [L70, L72, L87, L90, L116, L120]) (postOf L121 []) 1384)) = true := by kernel_rfl
theorem o121 : lemOk L121 = true := by kernel_rfl
theorem r122 : layH L122.pre 0 H.empty (fun h => enterA Tryz.prog L122.fn L122.args .normal [] h L122.pre.length (run Tryz.prog (extL [L77, L78, L92, L110]) (postOf L122 []) 5697)) = true := by kernel_rfl
theorem o122 : lemOk L122 = true := by kernel_rfl
theorem r123 : layH L123.pre 0 H.empty (fun h => enterA Tryz.prog L123.fn L123.args .normal [] h L123.pre.length (run Tryz.prog (extL [L49, L50, L82, L84, L110, L113, L114]) (postOf L123 []) 2218)) = true := by kernel_rfl
theorem o123 : lemOk L123 = true := by kernel_rfl
theorem r124 : layH L124.pre 0 H.empty (fun h => enterA Tryz.prog L124.fn L124.args .normal [] h L124.pre.length (run Tryz.prog (extL [L110, L111, L122, L123]) (postOf L124 []) 1458)) = true := by kernel_rfl
theorem o124 : lemOk L124 = true := by kernel_rfl
theorem r125 : layH L125.pre 0 H.empty (fun h => enterA Tryz.prog L125.fn L125.args .normal [] h L125.pre.length (run Tryz.prog (extL [L77, L78, L83, L92]) (postOf L125 []) 5697)) = true := by kernel_rfl
theorem o125 : lemOk L125 = true := by kernel_rfl
theorem r126 : layH L126.pre 0 H.empty (fun h => enterA Tryz.prog L126.fn L126.args .normal [] h L126.pre.length (run Tryz.prog (extL [L49, L50, L82, L83, L84, L94, L95]) (postOf L126 []) 2218)) = true := by kernel_rfl
theorem o126 : lemOk L126 = true := by kernel_rfl
theorem r127 : layH L127.pre 0 H.empty (fun h => enterA Tryz.prog L127.fn L127.args .normal [] h L127.pre.length (run Tryz.prog (extL [L83, L91, L100, L119, L125, L126]) (postOf L127 []) 1675)) = true := by kernel_rfl
theorem o127 : lemOk L127 = true := by kernel_rfl
theorem r128 : layH L128.pre 0 H.empty (fun h => enterA Tryz.prog L128.fn L128.args .normal [] h L128.pre.length (run Tryz.prog (extL [L70, L72, L87, L90, L124, L127]) (postOf L128 []) 1384)) = true := by kernel_rfl
theorem o128 : lemOk L128 = true := by kernel_rfl
theorem r129 : layH L129.pre 0 H.empty (fun h => enterA Tryz.prog L129.fn L129.args .normal [] h L129.pre.length (run Tryz.prog (extL [L70, L72, L87, L90, L110, L111]) (postOf L129 []) 2420)) = true := by kernel_rfl
theorem o129 : lemOk L129 = true := by kernel_rfl
theorem r130 : layH L130.pre 0 H.empty (fun h => enterA Tryz.prog L130.fn L130.args .normal [] h L130.pre.length (run Tryz.prog (extL [L77, L78, L92, L110]) (postOf L130 []) 5697)) = true := by kernel_rfl
theorem o130 : lemOk L130 = true := by kernel_rfl
theorem r131 : layH L131.pre 0 H.empty (fun h => enterA Tryz.prog L131.fn L131.args .normal [] h L131.pre.length (run Tryz.prog (extL [L49, L50, L82, L84, L110, L113, L114]) (postOf L131 []) 2218)) = true := by kernel_rfl
theorem o131 : lemOk L131 = true := by kernel_rfl
theorem r132 : layH L132.pre 0 H.empty (fun h => enterA Tryz.prog L132.fn L132.args .normal [] h L132.pre.length (run Tryz.prog (extL [L110, L111, L130, L131]) (postOf L132 []) 1458)) = true := by kernel_rfl
theorem o132 : lemOk L132 = true := by kernel_rfl
theorem r133 : layH L133.pre 0 H.empty (fun h => enterA Tryz.prog L133.fn L133.args .normal [] h L133.pre.length (run Tryz.prog (extL [L77, L78, L83, L92]) (postOf L133 []) 5697)) = true := by kernel_rfl
theorem o133 : lemOk L133 = true := by kernel_rfl
theorem r134 : layH L134.pre 0 H.empty (fun h => enterA Tryz.prog L134.fn L134.args .normal [] h L134.pre.length (run Tryz.prog (extL [L49, L50, L82, L83, L84, L94, L95]) (postOf L134 []) 2218)) = true := by kernel_rfl
theorem o134 : lemOk L134 = true := by kernel_rfl
theorem r135 : layH L135.pre 0 H.empty (fun h => enterA Tryz.prog L135.fn L135.args .normal [] h L135.pre.length (run Tryz.prog (extL [L83, L91, L100, L119, L133, L134]) (postOf L135 []) 1675)) = true := by kernel_rfl
theorem o135 : lemOk L135 = true := by kernel_rfl
theorem r136 : layH L136.pre 0 H.empty (fun h => enterA Tryz.prog L136.fn L136.args .normal [] h L136.pre.length (run Tryz.prog (extL [L70, L72, L87, L90, L132, L135]) (postOf L136 []) 1384)) = true := by kernel_rfl
theorem o136 : lemOk L136 = true := by kernel_rfl
end Go.Proofs.YtfcoffpmcmhieaaGreatDoor.Ve
