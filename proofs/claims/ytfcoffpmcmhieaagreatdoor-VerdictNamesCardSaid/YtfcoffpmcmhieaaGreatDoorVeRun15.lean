/- The runs of lemmas, part 15: each is run through by the kernel. -/
import Derived.Test.YtfcoffpmcmhieaaGreatDoorVeData
namespace Go.Proofs.YtfcoffpmcmhieaaGreatDoor.Ve
open Go AI
theorem r137 : layH L137.pre 0 H.empty (fun h => enterA Tryz.prog L137.fn L137.args .normal [] h L137.pre.length (run Tryz.prog (extL []) (postOf L137 []) 3161)) = true := by kernel_rfl
theorem o137 : lemOk L137 = true := by kernel_rfl
theorem r138 : layH L138.pre 0 H.empty (fun h => enterA Tryz.prog L138.fn L138.args .normal [] h L138.pre.length (run Tryz.prog (extL [L137]) (postOf L138 [16]) 3271)) = true := by kernel_rfl
theorem o138 : lemOk L138 = true := by kernel_rfl
theorem r139 : layH L139.pre 0 H.empty (fun h => enterA Tryz.prog L139.fn L139.args .normal [] h L139.pre.length (run Tryz.prog (extL [L92, L137]) (postOf L139 []) 2215)) = true := by kernel_rfl
theorem o139 : lemOk L139 = true := by kernel_rfl
theorem r140 : layH L140.pre 0 H.empty (fun h => enterA Tryz.prog L140.fn L140.args .normal [] h L140.pre.length (run Tryz.prog (extL [L137, L138, L139]) (postOf L140 []) 1197)) = true := by kernel_rfl
theorem o140 : lemOk L140 = true := by kernel_rfl
theorem r141 : layH L141.pre 0 H.empty (fun h => enterA Tryz.prog L141.fn L141.args .normal [] h L141.pre.length (run Tryz.prog (extL [L70, L72, L87, L90, L140]) (postOf L141 []) 1291)) = true := by kernel_rfl
theorem o141 : lemOk L141 = true := by kernel_rfl
theorem r142 : layH L142.pre 0 H.empty (fun h => enterA Tryz.prog L142.fn L142.args .normal [] h L142.pre.length (run Tryz.prog (extL []) (postOf L142 []) 3161)) = true := by kernel_rfl
theorem o142 : lemOk L142 = true := by kernel_rfl
theorem r143 : layH L143.pre 0 H.empty (fun h => enterA Tryz.prog L143.fn L143.args .normal [] h L143.pre.length (run Tryz.prog (extL [L70, L72, L87, L90, L142]) (postOf L143 []) 2186)) = true := by kernel_rfl
theorem o143 : lemOk L143 = true := by kernel_rfl
theorem r144 : layH L144.pre 0 H.empty (fun h => enterA Tryz.prog L144.fn L144.args .normal [] h L144.pre.length (run Tryz.prog (extL []) (postOf L144 []) 3161)) = true := by kernel_rfl
theorem o144 : lemOk L144 = true := by kernel_rfl
theorem r145 : layH L145.pre 0 H.empty (fun h => enterA Tryz.prog L145.fn L145.args .normal [] h L145.pre.length (run Tryz.prog (extL [L144]) (postOf L145 [16]) 3271)) = true := by kernel_rfl
theorem o145 : lemOk L145 = true := by kernel_rfl
theorem r146 : layH L146.pre 0 H.empty (fun h => enterA Tryz.prog L146.fn L146.args .normal [] h L146.pre.length (run Tryz.prog (extL [L92, L144]) (postOf L146 []) 2215)) = true := by kernel_rfl
theorem o146 : lemOk L146 = true := by kernel_rfl
theorem r147 : layH L147.pre 0 H.empty (fun h => enterA Tryz.prog L147.fn L147.args .normal [] h L147.pre.length (run Tryz.prog (extL [L144, L145, L146]) (postOf L147 []) 1197)) = true := by kernel_rfl
theorem o147 : lemOk L147 = true := by kernel_rfl
theorem r148 : layH L148.pre 0 H.empty (fun h => enterA Tryz.prog L148.fn L148.args .normal [] h L148.pre.length (run Tryz.prog (extL [L70, L72, L87, L90, L147]) (postOf L148 []) 1291)) = true := by kernel_rfl
theorem o148 : lemOk L148 = true := by kernel_rfl
theorem r149 : layH L149.pre 0 H.empty (fun h => enterA Tryz.prog L149.fn L149.args .normal [] h L149.pre.length (run Tryz.prog (extL []) (postOf L149 []) 3161)) = true := by kernel_rfl
theorem o149 : lemOk L149 = true := by kernel_rfl
theorem r150 : layH L150.pre 0 H.empty (fun h => enterA Tryz.prog L150.fn L150.args .normal [] h L150.pre.length (run Tryz.prog (extL [L70, L72, L87, L149]) (postOf L150 []) 2109)) = true := by kernel_rfl
theorem o150 : lemOk L150 = true := by kernel_rfl
theorem r151 : layH L151.pre 0 H.empty (fun h => enterA Tryz.prog L151.fn L151.args .normal [] h L151.pre.length (run Tryz.prog (extL [L77, L78, L92, L110]) (postOf L151 []) 5697)) = true := by kernel_rfl
theorem o151 : lemOk L151 = true := by kernel_rfl
theorem r152 : layH L152.pre 0 H.empty (fun h => enterA Tryz.prog L152.fn L152.args .normal [] h L152.pre.length (run Tryz.prog (extL [L49, L50, L82, L84, L110, L113, L114]) (postOf L152 []) 2218)) = true := by kernel_rfl
theorem o152 : lemOk L152 = true := by kernel_rfl
theorem r153 : layH L153.pre 0 H.empty (fun h => enterA Tryz.prog L153.fn L153.args .normal [] h L153.pre.length (run Tryz.prog (extL [L110]) (postOf L153 [93]) 3285)) = true := by kernel_rfl
theorem o153 : lemOk L153 = true := by kernel_rfl
theorem r154 : layH L154.pre 0 H.empty (fun h => enterA Tryz.prog L154.fn L154.args .normal [] h L154.pre.length (run Tryz.prog (extL [L110, L111, L113, L151, L152, L153]) (postOf L154 []) 1596)) = true := by kernel_rfl
theorem o154 : lemOk L154 = true := by kernel_rfl
theorem r155 : layH L155.pre 0 H.empty (fun h => enterA Tryz.prog L155.fn L155.args .normal [] h L155.pre.length (run Tryz.prog (extL [L70, L72, L87, L90, L97, L154]) (postOf L155 []) 1368)) = true := by kernel_rfl
theorem o155 : lemOk L155 = true := by kernel_rfl
theorem r156 : layH L156.pre 0 H.empty (fun h => enterA Tryz.prog L156.fn L156.args .normal [] h L156.pre.length (run Tryz.prog (extL []) (postOf L156 []) 1359)) = true := by kernel_rfl
theorem o156 : lemOk L156 = true := by kernel_rfl
theorem r157 : layH L157.pre 0 H.empty (fun h => enterA Tryz.prog L157.fn L157.args .normal [] h L157.pre.length (run Tryz.prog (extL []) (postOf L157 []) 1359)) = true := by kernel_rfl
theorem o157 : lemOk L157 = true := by kernel_rfl
theorem r158 : layH L158.pre 0 H.empty (fun h => enterA Tryz.prog L158.fn L158.args .normal [] h L158.pre.length (run Tryz.prog (extL []) (postOf L158 []) 1659)) = true := by kernel_rfl
theorem o158 : lemOk L158 = true := by kernel_rfl
theorem r159 : layH L159.pre 0 H.empty (fun h => enterA Tryz.prog L159.fn L159.args .normal [] h L159.pre.length (run Tryz.prog (extL []) (postOf L159 []) 1359)) = true := by kernel_rfl
theorem o159 : lemOk L159 = true := by kernel_rfl
theorem r160 : layH L160.pre 0 H.empty (fun h => enterA Tryz.prog L160.fn L160.args .normal [] h L160.pre.length (run Tryz.prog (extL []) (postOf L160 []) 1295)) = true := by kernel_rfl
theorem o160 : lemOk L160 = true := by kernel_rfl
theorem r161 : layH L161.pre 0 H.empty (fun h => enterA Tryz.prog L161.fn L161.args .normal [] h L161.pre.length (run Tryz.prog (extL []) (postOf L161 []) 1329)) = true := by kernel_rfl
theorem o161 : lemOk L161 = true := by kernel_rfl
theorem r162 : layH L162.pre 0 H.empty (fun h => enterA Tryz.prog L162.fn L162.args .normal [] h L162.pre.length (run Tryz.prog (extL [L71, L156, L157, L158, L159, L160, L161]) (postOf L162 [62, 22, 31, 45]) 4951)) = true := by kernel_rfl
theorem o162 : lemOk L162 = true := by kernel_rfl
end Go.Proofs.YtfcoffpmcmhieaaGreatDoor.Ve
