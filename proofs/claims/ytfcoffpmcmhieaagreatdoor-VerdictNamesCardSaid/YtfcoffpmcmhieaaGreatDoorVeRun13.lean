/- The runs of lemmas, part 13: each is run through by the kernel. -/
import Derived.Test.YtfcoffpmcmhieaaGreatDoorVeData
namespace Go.Proofs.YtfcoffpmcmhieaaGreatDoor.Ve
open Go AI
theorem r91 : layH L91.pre 0 H.empty (fun h => enterA Tryz.prog L91.fn L91.args .normal [] h L91.pre.length (run Tryz.prog (extL [L83]) (postOf L91 [12]) 3271)) = true := by kernel_rfl
theorem o91 : lemOk L91 = true := by kernel_rfl
theorem r92 : layH L92.pre 0 H.empty (fun h => enterA Tryz.prog L92.fn L92.args .normal [] h L92.pre.length (run Tryz.prog (extL [L49, L50, L75, L76, L77, L80, L81]) (postOf L92 [99, 80, 60, 101]) 4047)) = true := by kernel_rfl
theorem o92 : lemOk L92 = true := by kernel_rfl
theorem r93 : layH L93.pre 0 H.empty (fun h => enterA Tryz.prog L93.fn L93.args .normal [] h L93.pre.length (run Tryz.prog (extL [L77, L78, L83, L92]) (postOf L93 []) 5697)) = true := by kernel_rfl
theorem o93 : lemOk L93 = true := by kernel_rfl
theorem r94 : layH L94.pre 0 H.empty (fun h => enterA Tryz.prog L94.fn L94.args .normal [] h L94.pre.length (run Tryz.prog (extL []) (postOf L94 []) 1208)) = true := by kernel_rfl
theorem o94 : lemOk L94 = true := by kernel_rfl
theorem r95 : layH L95.pre 0 H.empty (fun h => enterA Tryz.prog L95.fn L95.args .normal [] h L95.pre.length (run Tryz.prog (extL [L83]) (postOf L95 [13]) 1865)) = true := by kernel_rfl
theorem o95 : lemOk L95 = true := by kernel_rfl
theorem r96 : layH L96.pre 0 H.empty (fun h => enterA Tryz.prog L96.fn L96.args .normal [] h L96.pre.length (run Tryz.prog (extL [L49, L50, L82, L83, L84, L94, L95]) (postOf L96 []) 2218)) = true := by kernel_rfl
theorem o96 : lemOk L96 = true := by kernel_rfl
theorem r97 : layH L97.pre 0 H.empty (fun h => enterA Tryz.prog L97.fn L97.args .normal [] h L97.pre.length (run Tryz.prog (extL [L83, L91, L93, L96]) (postOf L97 []) 1458)) = true := by kernel_rfl
theorem o97 : lemOk L97 = true := by kernel_rfl
theorem r98 : layH L98.pre 0 H.empty (fun h => enterA Tryz.prog L98.fn L98.args .normal [] h L98.pre.length (run Tryz.prog (extL [L77, L78, L83, L92]) (postOf L98 []) 5697)) = true := by kernel_rfl
theorem o98 : lemOk L98 = true := by kernel_rfl
theorem r99 : layH L99.pre 0 H.empty (fun h => enterA Tryz.prog L99.fn L99.args .normal [] h L99.pre.length (run Tryz.prog (extL [L49, L50, L82, L83, L84, L94, L95]) (postOf L99 []) 2218)) = true := by kernel_rfl
theorem o99 : lemOk L99 = true := by kernel_rfl
theorem r100 : layH L100.pre 0 H.empty (fun h => enterA Tryz.prog L100.fn L100.args .normal [] h L100.pre.length (run Tryz.prog (extL [L83]) (postOf L100 [89]) 3285)) = true := by kernel_rfl
theorem o100 : lemOk L100 = true := by kernel_rfl
theorem r101 : layH L101.pre 0 H.empty (fun h => enterA Tryz.prog L101.fn L101.args .normal [] h L101.pre.length (run Tryz.prog (extL [L83, L91, L94, L98, L99, L100]) (postOf L101 []) 1675)) = true := by kernel_rfl
theorem o101 : lemOk L101 = true := by kernel_rfl
theorem r102 : layH L102.pre 0 H.empty (fun h => enterA Tryz.prog L102.fn L102.args .normal [] h L102.pre.length (run Tryz.prog (extL [L70, L72, L87, L90, L97, L101]) (postOf L102 []) 1384)) = true := by kernel_rfl
theorem o102 : lemOk L102 = true := by kernel_rfl
theorem r103 : layH L103.pre 0 H.empty (fun h => enterA Tryz.prog L103.fn L103.args .normal [] h L103.pre.length (run Tryz.prog (extL [L73, L77, L78]) (postOf L103 []) 3762)) = true := by kernel_rfl
theorem o103 : lemOk L103 = true := by kernel_rfl
theorem r104 : layH L104.pre 0 H.empty (fun h => enterA Tryz.prog L104.fn L104.args .normal [] h L104.pre.length (run Tryz.prog (extL [L49, L50, L73, L82, L84, L85]) (postOf L104 []) 1777)) = true := by kernel_rfl
theorem o104 : lemOk L104 = true := by kernel_rfl
theorem r105 : layH L105.pre 0 H.empty (fun h => enterA Tryz.prog L105.fn L105.args .normal [] h L105.pre.length (run Tryz.prog (extL [L73, L74, L103, L104]) (postOf L105 []) 1473)) = true := by kernel_rfl
theorem o105 : lemOk L105 = true := by kernel_rfl
theorem r106 : layH L106.pre 0 H.empty (fun h => enterA Tryz.prog L106.fn L106.args .normal [] h L106.pre.length (run Tryz.prog (extL [L70, L72, L87, L105]) (postOf L106 []) 1214)) = true := by kernel_rfl
theorem o106 : lemOk L106 = true := by kernel_rfl
theorem r107 : layH L107.pre 0 H.empty (fun h => enterA Tryz.prog L107.fn L107.args .normal [] h L107.pre.length (run Tryz.prog (extL [L70, L72]) (postOf L107 []) 1969)) = true := by kernel_rfl
theorem o107 : lemOk L107 = true := by kernel_rfl
theorem r108 : layH L108.pre 0 H.empty (fun h => enterA Tryz.prog L108.fn L108.args .normal [] h L108.pre.length (run Tryz.prog (extL [L70, L72, L87, L90]) (postOf L108 []) 1438)) = true := by kernel_rfl
theorem o108 : lemOk L108 = true := by kernel_rfl
theorem r109 : layH L109.pre 0 H.empty (fun h => enterA Tryz.prog L109.fn L109.args .normal [] h L109.pre.length (run Tryz.prog (extL [L70, L72, L87, L90]) (postOf L109 []) 1537)) = true := by kernel_rfl
theorem o109 : lemOk L109 = true := by kernel_rfl
theorem r110 : layH L110.pre 0 H.empty (fun h => enterA Tryz.prog L110.fn L110.args .normal [] h L110.pre.length (run Tryz.prog (extL []) (postOf L110 []) 3161)) = true := by kernel_rfl
theorem o110 : lemOk L110 = true := by kernel_rfl
theorem r111 : layH L111.pre 0 H.empty (fun h => enterA Tryz.prog L111.fn L111.args .normal [] h L111.pre.length (run Tryz.prog (extL [L110]) (postOf L111 [16]) 3271)) = true := by kernel_rfl
theorem o111 : lemOk L111 = true := by kernel_rfl
theorem r112 : layH L112.pre 0 H.empty (fun h => enterA Tryz.prog L112.fn L112.args .normal [] h L112.pre.length (run Tryz.prog (extL [L77, L78, L92, L110]) (postOf L112 []) 5697)) = true := by kernel_rfl
theorem o112 : lemOk L112 = true := by kernel_rfl
theorem r113 : layH L113.pre 0 H.empty (fun h => enterA Tryz.prog L113.fn L113.args .normal [] h L113.pre.length (run Tryz.prog (extL []) (postOf L113 []) 1208)) = true := by kernel_rfl
theorem o113 : lemOk L113 = true := by kernel_rfl
end Go.Proofs.YtfcoffpmcmhieaaGreatDoor.Ve
