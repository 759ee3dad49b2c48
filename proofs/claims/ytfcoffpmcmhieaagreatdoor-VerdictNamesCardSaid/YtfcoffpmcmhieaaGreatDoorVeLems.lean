/- The lemmas are true. -/
import Derived.Test.YtfcoffpmcmhieaaGreatDoorVeRun0
import Derived.Test.YtfcoffpmcmhieaaGreatDoorVeRun1
import Derived.Test.YtfcoffpmcmhieaaGreatDoorVeRun2
import Derived.Test.YtfcoffpmcmhieaaGreatDoorVeRun3
import Derived.Test.YtfcoffpmcmhieaaGreatDoorVeRun4
import Derived.Test.YtfcoffpmcmhieaaGreatDoorVeRun5
import Derived.Test.YtfcoffpmcmhieaaGreatDoorVeRun6
import Derived.Test.YtfcoffpmcmhieaaGreatDoorVeRun7
import Derived.Test.YtfcoffpmcmhieaaGreatDoorVeRun8
import Derived.Test.YtfcoffpmcmhieaaGreatDoorVeRun9
import Derived.Test.YtfcoffpmcmhieaaGreatDoorVeRun10
import Derived.Test.YtfcoffpmcmhieaaGreatDoorVeRun11
import Derived.Test.YtfcoffpmcmhieaaGreatDoorVeRun12
import Derived.Test.YtfcoffpmcmhieaaGreatDoorVeRun13
import Derived.Test.YtfcoffpmcmhieaaGreatDoorVeRun14
import Derived.Test.YtfcoffpmcmhieaaGreatDoorVeRun15
import Derived.Test.YtfcoffpmcmhieaaGreatDoorVeRun16
import Derived.Test.YtfcoffpmcmhieaaGreatDoorVeRun17
namespace Go.Proofs.YtfcoffpmcmhieaaGreatDoor.Ve
open Go AI
theorem noCount : NoCount Tryz.prog := by
  have h : (Tryz.prog.funcs.toList.all fun fn => !(fn.name == "runtime.NumGoroutine")) = true := by kernel_rfl
  intro f fn hf
  have hm : fn ∈ Tryz.prog.funcs.toList := by simpa using Array.mem_of_getElem? hf
  simpa using List.all_eq_true.1 h fn hm
theorem mixed : Tryz.prog.follows .mixedOrders = true := by kernel_rfl
theorem q0 : LemOK Tryz.prog L0 := lem_of_run noCount mixed (extL_ok lems_nil) o0 r0
theorem q1 : LemOK Tryz.prog L1 := lem_of_run noCount mixed (extL_ok lems_nil) o1 r1
theorem q2 : LemOK Tryz.prog L2 := lem_of_run noCount mixed (extL_ok lems_nil) o2 r2
theorem q3 : LemOK Tryz.prog L3 := lem_of_run noCount mixed (extL_ok lems_nil) o3 r3
theorem q4 : LemOK Tryz.prog L4 := cut_first noCount mixed (extL_ok lems_nil) o4 c4_0 (cut_mid noCount mixed (extL_ok lems_nil) c4_1 (cut_mid noCount mixed (extL_ok lems_nil) c4_2 (cut_mid noCount mixed (extL_ok lems_nil) c4_3 (cut_mid noCount mixed (extL_ok lems_nil) c4_4 (cut_mid noCount mixed (extL_ok lems_nil) c4_5 (cut_mid noCount mixed (extL_ok lems_nil) c4_6 (cut_last noCount mixed (extL_ok lems_nil) e4)))))))
theorem q5 : LemOK Tryz.prog L5 := cut_first noCount mixed (extL_ok lems_nil) o5 c5_0 (cut_last noCount mixed (extL_ok lems_nil) e5)
theorem q6 : LemOK Tryz.prog L6 := lem_of_run noCount mixed (extL_ok lems_nil) o6 r6
theorem q7 : LemOK Tryz.prog L7 := lem_of_run noCount mixed (extL_ok (lems_cons q6 o6 lems_nil)) o7 r7
theorem q8 : LemOK Tryz.prog L8 := cut_first noCount mixed (extL_ok (lems_cons q5 o5 (lems_cons q7 o7 lems_nil))) o8 c8_0 (cut_mid noCount mixed (extL_ok (lems_cons q5 o5 (lems_cons q7 o7 lems_nil))) c8_1 (cut_last noCount mixed (extL_ok (lems_cons q5 o5 (lems_cons q7 o7 lems_nil))) e8))
theorem q9 : LemOK Tryz.prog L9 := lem_of_run noCount mixed (extL_ok (lems_cons q0 o0 (lems_cons q1 o1 (lems_cons q2 o2 (lems_cons q3 o3 (lems_cons q4 o4 (lems_cons q8 o8 lems_nil))))))) o9 r9
theorem q10 : LemOK Tryz.prog L10 := lem_of_run noCount mixed (extL_ok lems_nil) o10 r10
theorem q11 : LemOK Tryz.prog L11 := lem_of_run noCount mixed (extL_ok lems_nil) o11 r11
theorem q12 : LemOK Tryz.prog L12 := lem_of_run noCount mixed (extL_ok lems_nil) o12 r12
theorem q13 : LemOK Tryz.prog L13 := lem_of_run noCount mixed (extL_ok (lems_cons q12 o12 lems_nil)) o13 r13
theorem q14 : LemOK Tryz.prog L14 := lem_of_run noCount mixed (extL_ok (lems_cons q12 o12 (lems_cons q13 o13 lems_nil))) o14 r14
theorem q15 : LemOK Tryz.prog L15 := lem_of_run noCount mixed (extL_ok (lems_cons q10 o10 (lems_cons q11 o11 (lems_cons q14 o14 lems_nil)))) o15 r15
theorem q16 : LemOK Tryz.prog L16 := lem_of_run noCount mixed (extL_ok (lems_cons q10 o10 (lems_cons q11 o11 (lems_cons q14 o14 lems_nil)))) o16 r16
theorem q17 : LemOK Tryz.prog L17 := lem_of_run noCount mixed (extL_ok (lems_cons q9 o9 (lems_cons q10 o10 (lems_cons q11 o11 (lems_cons q13 o13 (lems_cons q14 o14 (lems_cons q15 o15 (lems_cons q16 o16 lems_nil)))))))) o17 r17
theorem q18 : LemOK Tryz.prog L18 := lem_of_run noCount mixed (extL_ok (lems_cons q5 o5 lems_nil)) o18 r18
theorem q19 : LemOK Tryz.prog L19 := lem_of_run noCount mixed (extL_ok (lems_cons q5 o5 lems_nil)) o19 r19
theorem q20 : LemOK Tryz.prog L20 := lem_of_run noCount mixed (extL_ok (lems_cons q5 o5 (lems_cons q18 o18 (lems_cons q19 o19 lems_nil)))) o20 r20
theorem q21 : LemOK Tryz.prog L21 := lem_of_run noCount mixed (extL_ok (lems_cons q5 o5 (lems_cons q20 o20 lems_nil))) o21 r21
theorem q22 : LemOK Tryz.prog L22 := lem_of_run noCount mixed (extL_ok (lems_cons q5 o5 (lems_cons q17 o17 (lems_cons q21 o21 lems_nil)))) o22 r22
theorem q23 : LemOK Tryz.prog L23 := lem_of_run noCount mixed (extL_ok lems_nil) o23 r23
theorem q24 : LemOK Tryz.prog L24 := lem_of_run noCount mixed (extL_ok (lems_cons q23 o23 lems_nil)) o24 r24
theorem q25 : LemOK Tryz.prog L25 := lem_of_run noCount mixed (extL_ok lems_nil) o25 r25
theorem q26 : LemOK Tryz.prog L26 := lem_of_run noCount mixed (extL_ok (lems_cons q25 o25 lems_nil)) o26 r26
theorem q27 : LemOK Tryz.prog L27 := lem_of_run noCount mixed (extL_ok (lems_cons q24 o24 (lems_cons q26 o26 lems_nil))) o27 r27
theorem q28 : LemOK Tryz.prog L28 := lem_of_run noCount mixed (extL_ok (lems_cons q25 o25 lems_nil)) o28 r28
theorem q29 : LemOK Tryz.prog L29 := lem_of_run noCount mixed (extL_ok lems_nil) o29 r29
theorem q30 : LemOK Tryz.prog L30 := lem_of_run noCount mixed (extL_ok (lems_cons q29 o29 lems_nil)) o30 r30
theorem q31 : LemOK Tryz.prog L31 := lem_of_run noCount mixed (extL_ok (lems_cons q5 o5 (lems_cons q29 o29 (lems_cons q30 o30 lems_nil)))) o31 r31
theorem q32 : LemOK Tryz.prog L32 := lem_of_run noCount mixed (extL_ok (lems_cons q25 o25 (lems_cons q28 o28 (lems_cons q29 o29 (lems_cons q31 o31 lems_nil))))) o32 r32
theorem q33 : LemOK Tryz.prog L33 := lem_of_run noCount mixed (extL_ok lems_nil) o33 r33
theorem q34 : LemOK Tryz.prog L34 := lem_of_run noCount mixed (extL_ok (lems_cons q25 o25 (lems_cons q33 o33 lems_nil))) o34 r34
theorem q35 : LemOK Tryz.prog L35 := lem_of_run noCount mixed (extL_ok (lems_cons q25 o25 (lems_cons q33 o33 (lems_cons q34 o34 lems_nil)))) o35 r35
theorem q36 : LemOK Tryz.prog L36 := lem_of_run noCount mixed (extL_ok (lems_cons q25 o25 (lems_cons q29 o29 (lems_cons q31 o31 (lems_cons q33 o33 (lems_cons q35 o35 lems_nil)))))) o36 r36
theorem q37 : LemOK Tryz.prog L37 := lem_of_run noCount mixed (extL_ok lems_nil) o37 r37
theorem q38 : LemOK Tryz.prog L38 := lem_of_run noCount mixed (extL_ok (lems_cons q37 o37 lems_nil)) o38 r38
theorem q39 : LemOK Tryz.prog L39 := lem_of_run noCount mixed (extL_ok (lems_cons q37 o37 lems_nil)) o39 r39
theorem q40 : LemOK Tryz.prog L40 := lem_of_run noCount mixed (extL_ok (lems_cons q22 o22 (lems_cons q26 o26 (lems_cons q27 o27 (lems_cons q32 o32 (lems_cons q36 o36 (lems_cons q37 o37 (lems_cons q38 o38 (lems_cons q39 o39 lems_nil))))))))) o40 r40
theorem q41 : LemOK Tryz.prog L41 := lem_of_run noCount mixed (extL_ok lems_nil) o41 r41
theorem q42 : LemOK Tryz.prog L42 := lem_of_run noCount mixed (extL_ok (lems_cons q41 o41 lems_nil)) o42 r42
theorem q43 : LemOK Tryz.prog L43 := lem_of_run noCount mixed (extL_ok lems_nil) o43 r43
theorem q44 : LemOK Tryz.prog L44 := lem_of_run noCount mixed (extL_ok lems_nil) o44 r44
theorem q45 : LemOK Tryz.prog L45 := lem_of_run noCount mixed (extL_ok lems_nil) o45 r45
theorem q46 : LemOK Tryz.prog L46 := lem_of_run noCount mixed (extL_ok lems_nil) o46 r46
theorem q47 : LemOK Tryz.prog L47 := lem_of_run noCount mixed (extL_ok (lems_cons q45 o45 (lems_cons q46 o46 lems_nil))) o47 r47
theorem q48 : LemOK Tryz.prog L48 := lem_of_run noCount mixed (extL_ok (lems_cons q47 o47 lems_nil)) o48 r48
theorem q49 : LemOK Tryz.prog L49 := lem_of_run noCount mixed (extL_ok lems_nil) o49 r49
theorem q50 : LemOK Tryz.prog L50 := lem_of_run noCount mixed (extL_ok lems_nil) o50 r50
theorem q51 : LemOK Tryz.prog L51 := lem_of_run noCount mixed (extL_ok lems_nil) o51 r51
theorem q52 : LemOK Tryz.prog L52 := cut_first noCount mixed (extL_ok (lems_cons q49 o49 (lems_cons q50 o50 (lems_cons q51 o51 lems_nil)))) o52 c52_0 (cut_last noCount mixed (extL_ok (lems_cons q49 o49 (lems_cons q50 o50 (lems_cons q51 o51 lems_nil)))) e52)
theorem q53 : LemOK Tryz.prog L53 := cut_first noCount mixed (extL_ok (lems_cons q49 o49 (lems_cons q50 o50 (lems_cons q52 o52 lems_nil)))) o53 c53_0 (cut_last noCount mixed (extL_ok (lems_cons q49 o49 (lems_cons q50 o50 (lems_cons q52 o52 lems_nil)))) e53)
theorem q54 : LemOK Tryz.prog L54 := lem_of_run noCount mixed (extL_ok lems_nil) o54 r54
theorem q55 : LemOK Tryz.prog L55 := lem_of_run noCount mixed (extL_ok lems_nil) o55 r55
theorem q56 : LemOK Tryz.prog L56 := lem_of_run noCount mixed (extL_ok lems_nil) o56 r56
theorem q57 : LemOK Tryz.prog L57 := lem_of_run noCount mixed (extL_ok (lems_cons q56 o56 lems_nil)) o57 r57
theorem q58 : LemOK Tryz.prog L58 := lem_of_run noCount mixed (extL_ok lems_nil) o58 r58
theorem q59 : LemOK Tryz.prog L59 := lem_of_run noCount mixed (extL_ok (lems_cons q56 o56 (lems_cons q57 o57 (lems_cons q58 o58 lems_nil)))) o59 r59
theorem q60 : LemOK Tryz.prog L60 := lem_of_run noCount mixed (extL_ok (lems_cons q59 o59 lems_nil)) o60 r60
theorem q61 : LemOK Tryz.prog L61 := lem_of_run noCount mixed (extL_ok (lems_cons q54 o54 (lems_cons q55 o55 (lems_cons q60 o60 lems_nil)))) o61 r61
theorem q62 : LemOK Tryz.prog L62 := lem_of_run noCount mixed (extL_ok (lems_cons q54 o54 (lems_cons q55 o55 (lems_cons q60 o60 lems_nil)))) o62 r62
theorem q63 : LemOK Tryz.prog L63 := lem_of_run noCount mixed (extL_ok (lems_cons q42 o42 (lems_cons q43 o43 (lems_cons q44 o44 (lems_cons q48 o48 (lems_cons q53 o53 (lems_cons q54 o54 (lems_cons q55 o55 (lems_cons q57 o57 (lems_cons q60 o60 (lems_cons q61 o61 (lems_cons q62 o62 lems_nil)))))))))))) o63 r63
theorem q64 : LemOK Tryz.prog L64 := lem_of_run noCount mixed (extL_ok (lems_cons q49 o49 (lems_cons q50 o50 lems_nil))) o64 r64
theorem q65 : LemOK Tryz.prog L65 := lem_of_run noCount mixed (extL_ok (lems_cons q49 o49 (lems_cons q50 o50 lems_nil))) o65 r65
theorem q66 : LemOK Tryz.prog L66 := lem_of_run noCount mixed (extL_ok (lems_cons q49 o49 (lems_cons q50 o50 lems_nil))) o66 r66
theorem q67 : LemOK Tryz.prog L67 := lem_of_run noCount mixed (extL_ok (lems_cons q49 o49 (lems_cons q50 o50 (lems_cons q66 o66 lems_nil)))) o67 r67
theorem q68 : LemOK Tryz.prog L68 := lem_of_run noCount mixed (extL_ok (lems_cons q49 o49 (lems_cons q50 o50 lems_nil))) o68 r68
theorem q69 : LemOK Tryz.prog L69 := lem_of_run noCount mixed (extL_ok (lems_cons q49 o49 (lems_cons q50 o50 (lems_cons q64 o64 (lems_cons q65 o65 (lems_cons q66 o66 (lems_cons q67 o67 (lems_cons q68 o68 lems_nil)))))))) o69 r69
theorem q70 : LemOK Tryz.prog L70 := lem_of_run noCount mixed (extL_ok (lems_cons q49 o49 (lems_cons q50 o50 (lems_cons q63 o63 (lems_cons q69 o69 lems_nil))))) o70 r70
theorem q71 : LemOK Tryz.prog L71 := lem_of_run noCount mixed (extL_ok lems_nil) o71 r71
theorem q72 : LemOK Tryz.prog L72 := lem_of_run noCount mixed (extL_ok (lems_cons q71 o71 lems_nil)) o72 r72
theorem q73 : LemOK Tryz.prog L73 := lem_of_run noCount mixed (extL_ok lems_nil) o73 r73
theorem q74 : LemOK Tryz.prog L74 := lem_of_run noCount mixed (extL_ok (lems_cons q73 o73 lems_nil)) o74 r74
theorem q75 : LemOK Tryz.prog L75 := lem_of_run noCount mixed (extL_ok (lems_cons q49 o49 (lems_cons q50 o50 lems_nil))) o75 r75
theorem q76 : LemOK Tryz.prog L76 := lem_of_run noCount mixed (extL_ok (lems_cons q49 o49 (lems_cons q50 o50 (lems_cons q75 o75 lems_nil)))) o76 r76
theorem q77 : LemOK Tryz.prog L77 := lem_of_run noCount mixed (extL_ok (lems_cons q49 o49 (lems_cons q50 o50 lems_nil))) o77 r77
theorem q78 : LemOK Tryz.prog L78 := lem_of_run noCount mixed (extL_ok (lems_cons q49 o49 (lems_cons q50 o50 (lems_cons q75 o75 (lems_cons q76 o76 (lems_cons q77 o77 lems_nil)))))) o78 r78
theorem q79 : LemOK Tryz.prog L79 := lem_of_run noCount mixed (extL_ok (lems_cons q73 o73 (lems_cons q77 o77 (lems_cons q78 o78 lems_nil)))) o79 r79
theorem q80 : LemOK Tryz.prog L80 := lem_of_run noCount mixed (extL_ok (lems_cons q49 o49 (lems_cons q50 o50 lems_nil))) o80 r80
theorem q81 : LemOK Tryz.prog L81 := lem_of_run noCount mixed (extL_ok (lems_cons q49 o49 (lems_cons q50 o50 lems_nil))) o81 r81
theorem q82 : LemOK Tryz.prog L82 := lem_of_run noCount mixed (extL_ok (lems_cons q49 o49 (lems_cons q50 o50 (lems_cons q75 o75 (lems_cons q76 o76 (lems_cons q77 o77 (lems_cons q80 o80 (lems_cons q81 o81 lems_nil)))))))) o82 r82
theorem q83 : LemOK Tryz.prog L83 := lem_of_run noCount mixed (extL_ok lems_nil) o83 r83
theorem q84 : LemOK Tryz.prog L84 := lem_of_run noCount mixed (extL_ok (lems_cons q83 o83 lems_nil)) o84 r84
theorem q85 : LemOK Tryz.prog L85 := lem_of_run noCount mixed (extL_ok (lems_cons q73 o73 lems_nil)) o85 r85
theorem q86 : LemOK Tryz.prog L86 := lem_of_run noCount mixed (extL_ok (lems_cons q49 o49 (lems_cons q50 o50 (lems_cons q73 o73 (lems_cons q82 o82 (lems_cons q84 o84 (lems_cons q85 o85 lems_nil))))))) o86 r86
theorem q87 : LemOK Tryz.prog L87 := lem_of_run noCount mixed (extL_ok (lems_cons q73 o73 (lems_cons q74 o74 (lems_cons q79 o79 (lems_cons q86 o86 lems_nil))))) o87 r87
theorem q88 : LemOK Tryz.prog L88 := lem_of_run noCount mixed (extL_ok (lems_cons q73 o73 (lems_cons q77 o77 (lems_cons q78 o78 lems_nil)))) o88 r88
theorem q89 : LemOK Tryz.prog L89 := lem_of_run noCount mixed (extL_ok (lems_cons q49 o49 (lems_cons q50 o50 (lems_cons q73 o73 (lems_cons q82 o82 (lems_cons q84 o84 (lems_cons q85 o85 lems_nil))))))) o89 r89
theorem q90 : LemOK Tryz.prog L90 := lem_of_run noCount mixed (extL_ok (lems_cons q73 o73 (lems_cons q74 o74 (lems_cons q88 o88 (lems_cons q89 o89 lems_nil))))) o90 r90
theorem q91 : LemOK Tryz.prog L91 := lem_of_run noCount mixed (extL_ok (lems_cons q83 o83 lems_nil)) o91 r91
theorem q92 : LemOK Tryz.prog L92 := lem_of_run noCount mixed (extL_ok (lems_cons q49 o49 (lems_cons q50 o50 (lems_cons q75 o75 (lems_cons q76 o76 (lems_cons q77 o77 (lems_cons q80 o80 (lems_cons q81 o81 lems_nil)))))))) o92 r92
theorem q93 : LemOK Tryz.prog L93 := lem_of_run noCount mixed (extL_ok (lems_cons q77 o77 (lems_cons q78 o78 (lems_cons q83 o83 (lems_cons q92 o92 lems_nil))))) o93 r93
theorem q94 : LemOK Tryz.prog L94 := lem_of_run noCount mixed (extL_ok lems_nil) o94 r94
theorem q95 : LemOK Tryz.prog L95 := lem_of_run noCount mixed (extL_ok (lems_cons q83 o83 lems_nil)) o95 r95
theorem q96 : LemOK Tryz.prog L96 := lem_of_run noCount mixed (extL_ok (lems_cons q49 o49 (lems_cons q50 o50 (lems_cons q82 o82 (lems_cons q83 o83 (lems_cons q84 o84 (lems_cons q94 o94 (lems_cons q95 o95 lems_nil)))))))) o96 r96
theorem q97 : LemOK Tryz.prog L97 := lem_of_run noCount mixed (extL_ok (lems_cons q83 o83 (lems_cons q91 o91 (lems_cons q93 o93 (lems_cons q96 o96 lems_nil))))) o97 r97
theorem q98 : LemOK Tryz.prog L98 := lem_of_run noCount mixed (extL_ok (lems_cons q77 o77 (lems_cons q78 o78 (lems_cons q83 o83 (lems_cons q92 o92 lems_nil))))) o98 r98
theorem q99 : LemOK Tryz.prog L99 := lem_of_run noCount mixed (extL_ok (lems_cons q49 o49 (lems_cons q50 o50 (lems_cons q82 o82 (lems_cons q83 o83 (lems_cons q84 o84 (lems_cons q94 o94 (lems_cons q95 o95 lems_nil)))))))) o99 r99
theorem q100 : LemOK Tryz.prog L100 := lem_of_run noCount mixed (extL_ok (lems_cons q83 o83 lems_nil)) o100 r100
theorem q101 : LemOK Tryz.prog L101 := lem_of_run noCount mixed (extL_ok (lems_cons q83 o83 (lems_cons q91 o91 (lems_cons q94 o94 (lems_cons q98 o98 (lems_cons q99 o99 (lems_cons q100 o100 lems_nil))))))) o101 r101
theorem q102 : LemOK Tryz.prog L102 := lem_of_run noCount mixed (extL_ok (lems_cons q70 o70 (lems_cons q72 o72 (lems_cons q87 o87 (lems_cons q90 o90 (lems_cons q97 o97 (lems_cons q101 o101 lems_nil))))))) o102 r102
theorem q103 : LemOK Tryz.prog L103 := lem_of_run noCount mixed (extL_ok (lems_cons q73 o73 (lems_cons q77 o77 (lems_cons q78 o78 lems_nil)))) o103 r103
theorem q104 : LemOK Tryz.prog L104 := lem_of_run noCount mixed (extL_ok (lems_cons q49 o49 (lems_cons q50 o50 (lems_cons q73 o73 (lems_cons q82 o82 (lems_cons q84 o84 (lems_cons q85 o85 lems_nil))))))) o104 r104
theorem q105 : LemOK Tryz.prog L105 := lem_of_run noCount mixed (extL_ok (lems_cons q73 o73 (lems_cons q74 o74 (lems_cons q103 o103 (lems_cons q104 o104 lems_nil))))) o105 r105
theorem q106 : LemOK Tryz.prog L106 := lem_of_run noCount mixed (extL_ok (lems_cons q70 o70 (lems_cons q72 o72 (lems_cons q87 o87 (lems_cons q105 o105 lems_nil))))) o106 r106
theorem q107 : LemOK Tryz.prog L107 := lem_of_run noCount mixed (extL_ok (lems_cons q70 o70 (lems_cons q72 o72 lems_nil))) o107 r107
theorem q108 : LemOK Tryz.prog L108 := lem_of_run noCount mixed (extL_ok (lems_cons q70 o70 (lems_cons q72 o72 (lems_cons q87 o87 (lems_cons q90 o90 lems_nil))))) o108 r108
theorem q109 : LemOK Tryz.prog L109 := lem_of_run noCount mixed (extL_ok (lems_cons q70 o70 (lems_cons q72 o72 (lems_cons q87 o87 (lems_cons q90 o90 lems_nil))))) o109 r109
theorem q110 : LemOK Tryz.prog L110 := lem_of_run noCount mixed (extL_ok lems_nil) o110 r110
theorem q111 : LemOK Tryz.prog L111 := lem_of_run noCount mixed (extL_ok (lems_cons q110 o110 lems_nil)) o111 r111
theorem q112 : LemOK Tryz.prog L112 := lem_of_run noCount mixed (extL_ok (lems_cons q77 o77 (lems_cons q78 o78 (lems_cons q92 o92 (lems_cons q110 o110 lems_nil))))) o112 r112
theorem q113 : LemOK Tryz.prog L113 := lem_of_run noCount mixed (extL_ok lems_nil) o113 r113
theorem q114 : LemOK Tryz.prog L114 := lem_of_run noCount mixed (extL_ok (lems_cons q110 o110 lems_nil)) o114 r114
theorem q115 : LemOK Tryz.prog L115 := lem_of_run noCount mixed (extL_ok (lems_cons q49 o49 (lems_cons q50 o50 (lems_cons q82 o82 (lems_cons q84 o84 (lems_cons q110 o110 (lems_cons q113 o113 (lems_cons q114 o114 lems_nil)))))))) o115 r115
theorem q116 : LemOK Tryz.prog L116 := lem_of_run noCount mixed (extL_ok (lems_cons q110 o110 (lems_cons q111 o111 (lems_cons q112 o112 (lems_cons q115 o115 lems_nil))))) o116 r116
theorem q117 : LemOK Tryz.prog L117 := lem_of_run noCount mixed (extL_ok (lems_cons q77 o77 (lems_cons q78 o78 (lems_cons q83 o83 (lems_cons q92 o92 lems_nil))))) o117 r117
theorem q118 : LemOK Tryz.prog L118 := lem_of_run noCount mixed (extL_ok (lems_cons q49 o49 (lems_cons q50 o50 (lems_cons q82 o82 (lems_cons q83 o83 (lems_cons q84 o84 (lems_cons q94 o94 (lems_cons q95 o95 lems_nil)))))))) o118 r118
theorem q119 : LemOK Tryz.prog L119 := lem_of_run noCount mixed (extL_ok lems_nil) o119 r119
theorem q120 : LemOK Tryz.prog L120 := lem_of_run noCount mixed (extL_ok (lems_cons q83 o83 (lems_cons q91 o91 (lems_cons q100 o100 (lems_cons q117 o117 (lems_cons q118 o118 (lems_cons q119 o119 lems_nil))))))) o120 r120
theorem q121 : LemOK Tryz.prog L121 := lem_of_run noCount mixed (extL_ok (lems_cons q70 o70 (lems_cons q72 o72 (lems_cons q87 o87 (lems_cons q90 o90 (lems_cons q116 o116 (lems_cons q120 o120 lems_nil))))))) o121 r121
theorem q122 : LemOK Tryz.prog L122 := lem_of_run noCount mixed (extL_ok (lems_cons q77 o77 (lems_cons q78 o78 (lems_cons q92 o92 (lems_cons q110 o110 lems_nil))))) o122 r122
theorem q123 : LemOK Tryz.prog L123 := lem_of_run noCount mixed (extL_ok (lems_cons q49 o49 (lems_cons q50 o50 (lems_cons q82 o82 (lems_cons q84 o84 (lems_cons q110 o110 (lems_cons q113 o113 (lems_cons q114 o114 lems_nil)))))))) o123 r123
theorem q124 : LemOK Tryz.prog L124 := lem_of_run noCount mixed (extL_ok (lems_cons q110 o110 (lems_cons q111 o111 (lems_cons q122 o122 (lems_cons q123 o123 lems_nil))))) o124 r124
theorem q125 : LemOK Tryz.prog L125 := lem_of_run noCount mixed (extL_ok (lems_cons q77 o77 (lems_cons q78 o78 (lems_cons q83 o83 (lems_cons q92 o92 lems_nil))))) o125 r125
theorem q126 : LemOK Tryz.prog L126 := lem_of_run noCount mixed (extL_ok (lems_cons q49 o49 (lems_cons q50 o50 (lems_cons q82 o82 (lems_cons q83 o83 (lems_cons q84 o84 (lems_cons q94 o94 (lems_cons q95 o95 lems_nil)))))))) o126 r126
theorem q127 : LemOK Tryz.prog L127 := lem_of_run noCount mixed (extL_ok (lems_cons q83 o83 (lems_cons q91 o91 (lems_cons q100 o100 (lems_cons q119 o119 (lems_cons q125 o125 (lems_cons q126 o126 lems_nil))))))) o127 r127
theorem q128 : LemOK Tryz.prog L128 := lem_of_run noCount mixed (extL_ok (lems_cons q70 o70 (lems_cons q72 o72 (lems_cons q87 o87 (lems_cons q90 o90 (lems_cons q124 o124 (lems_cons q127 o127 lems_nil))))))) o128 r128
theorem q129 : LemOK Tryz.prog L129 := lem_of_run noCount mixed (extL_ok (lems_cons q70 o70 (lems_cons q72 o72 (lems_cons q87 o87 (lems_cons q90 o90 (lems_cons q110 o110 (lems_cons q111 o111 lems_nil))))))) o129 r129
theorem q130 : LemOK Tryz.prog L130 := lem_of_run noCount mixed (extL_ok (lems_cons q77 o77 (lems_cons q78 o78 (lems_cons q92 o92 (lems_cons q110 o110 lems_nil))))) o130 r130
theorem q131 : LemOK Tryz.prog L131 := lem_of_run noCount mixed (extL_ok (lems_cons q49 o49 (lems_cons q50 o50 (lems_cons q82 o82 (lems_cons q84 o84 (lems_cons q110 o110 (lems_cons q113 o113 (lems_cons q114 o114 lems_nil)))))))) o131 r131
theorem q132 : LemOK Tryz.prog L132 := lem_of_run noCount mixed (extL_ok (lems_cons q110 o110 (lems_cons q111 o111 (lems_cons q130 o130 (lems_cons q131 o131 lems_nil))))) o132 r132
theorem q133 : LemOK Tryz.prog L133 := lem_of_run noCount mixed (extL_ok (lems_cons q77 o77 (lems_cons q78 o78 (lems_cons q83 o83 (lems_cons q92 o92 lems_nil))))) o133 r133
theorem q134 : LemOK Tryz.prog L134 := lem_of_run noCount mixed (extL_ok (lems_cons q49 o49 (lems_cons q50 o50 (lems_cons q82 o82 (lems_cons q83 o83 (lems_cons q84 o84 (lems_cons q94 o94 (lems_cons q95 o95 lems_nil)))))))) o134 r134
theorem q135 : LemOK Tryz.prog L135 := lem_of_run noCount mixed (extL_ok (lems_cons q83 o83 (lems_cons q91 o91 (lems_cons q100 o100 (lems_cons q119 o119 (lems_cons q133 o133 (lems_cons q134 o134 lems_nil))))))) o135 r135
theorem q136 : LemOK Tryz.prog L136 := lem_of_run noCount mixed (extL_ok (lems_cons q70 o70 (lems_cons q72 o72 (lems_cons q87 o87 (lems_cons q90 o90 (lems_cons q132 o132 (lems_cons q135 o135 lems_nil))))))) o136 r136
theorem q137 : LemOK Tryz.prog L137 := lem_of_run noCount mixed (extL_ok lems_nil) o137 r137
theorem q138 : LemOK Tryz.prog L138 := lem_of_run noCount mixed (extL_ok (lems_cons q137 o137 lems_nil)) o138 r138
theorem q139 : LemOK Tryz.prog L139 := lem_of_run noCount mixed (extL_ok (lems_cons q92 o92 (lems_cons q137 o137 lems_nil))) o139 r139
theorem q140 : LemOK Tryz.prog L140 := lem_of_run noCount mixed (extL_ok (lems_cons q137 o137 (lems_cons q138 o138 (lems_cons q139 o139 lems_nil)))) o140 r140
theorem q141 : LemOK Tryz.prog L141 := lem_of_run noCount mixed (extL_ok (lems_cons q70 o70 (lems_cons q72 o72 (lems_cons q87 o87 (lems_cons q90 o90 (lems_cons q140 o140 lems_nil)))))) o141 r141
theorem q142 : LemOK Tryz.prog L142 := lem_of_run noCount mixed (extL_ok lems_nil) o142 r142
theorem q143 : LemOK Tryz.prog L143 := lem_of_run noCount mixed (extL_ok (lems_cons q70 o70 (lems_cons q72 o72 (lems_cons q87 o87 (lems_cons q90 o90 (lems_cons q142 o142 lems_nil)))))) o143 r143
theorem q144 : LemOK Tryz.prog L144 := lem_of_run noCount mixed (extL_ok lems_nil) o144 r144
theorem q145 : LemOK Tryz.prog L145 := lem_of_run noCount mixed (extL_ok (lems_cons q144 o144 lems_nil)) o145 r145
theorem q146 : LemOK Tryz.prog L146 := lem_of_run noCount mixed (extL_ok (lems_cons q92 o92 (lems_cons q144 o144 lems_nil))) o146 r146
theorem q147 : LemOK Tryz.prog L147 := lem_of_run noCount mixed (extL_ok (lems_cons q144 o144 (lems_cons q145 o145 (lems_cons q146 o146 lems_nil)))) o147 r147
theorem q148 : LemOK Tryz.prog L148 := lem_of_run noCount mixed (extL_ok (lems_cons q70 o70 (lems_cons q72 o72 (lems_cons q87 o87 (lems_cons q90 o90 (lems_cons q147 o147 lems_nil)))))) o148 r148
theorem q149 : LemOK Tryz.prog L149 := lem_of_run noCount mixed (extL_ok lems_nil) o149 r149
theorem q150 : LemOK Tryz.prog L150 := lem_of_run noCount mixed (extL_ok (lems_cons q70 o70 (lems_cons q72 o72 (lems_cons q87 o87 (lems_cons q149 o149 lems_nil))))) o150 r150
theorem q151 : LemOK Tryz.prog L151 := lem_of_run noCount mixed (extL_ok (lems_cons q77 o77 (lems_cons q78 o78 (lems_cons q92 o92 (lems_cons q110 o110 lems_nil))))) o151 r151
theorem q152 : LemOK Tryz.prog L152 := lem_of_run noCount mixed (extL_ok (lems_cons q49 o49 (lems_cons q50 o50 (lems_cons q82 o82 (lems_cons q84 o84 (lems_cons q110 o110 (lems_cons q113 o113 (lems_cons q114 o114 lems_nil)))))))) o152 r152
theorem q153 : LemOK Tryz.prog L153 := lem_of_run noCount mixed (extL_ok (lems_cons q110 o110 lems_nil)) o153 r153
theorem q154 : LemOK Tryz.prog L154 := lem_of_run noCount mixed (extL_ok (lems_cons q110 o110 (lems_cons q111 o111 (lems_cons q113 o113 (lems_cons q151 o151 (lems_cons q152 o152 (lems_cons q153 o153 lems_nil))))))) o154 r154
theorem q155 : LemOK Tryz.prog L155 := lem_of_run noCount mixed (extL_ok (lems_cons q70 o70 (lems_cons q72 o72 (lems_cons q87 o87 (lems_cons q90 o90 (lems_cons q97 o97 (lems_cons q154 o154 lems_nil))))))) o155 r155
theorem q156 : LemOK Tryz.prog L156 := lem_of_run noCount mixed (extL_ok lems_nil) o156 r156
theorem q157 : LemOK Tryz.prog L157 := lem_of_run noCount mixed (extL_ok lems_nil) o157 r157
theorem q158 : LemOK Tryz.prog L158 := lem_of_run noCount mixed (extL_ok lems_nil) o158 r158
theorem q159 : LemOK Tryz.prog L159 := lem_of_run noCount mixed (extL_ok lems_nil) o159 r159
theorem q160 : LemOK Tryz.prog L160 := lem_of_run noCount mixed (extL_ok lems_nil) o160 r160
theorem q161 : LemOK Tryz.prog L161 := lem_of_run noCount mixed (extL_ok lems_nil) o161 r161
theorem q162 : LemOK Tryz.prog L162 := lem_of_run noCount mixed (extL_ok (lems_cons q71 o71 (lems_cons q156 o156 (lems_cons q157 o157 (lems_cons q158 o158 (lems_cons q159 o159 (lems_cons q160 o160 (lems_cons q161 o161 lems_nil)))))))) o162 r162
theorem q163 : LemOK Tryz.prog L163 := lem_of_run noCount mixed (extL_ok (lems_cons q162 o162 lems_nil)) o163 r163
theorem q164 : LemOK Tryz.prog L164 := lem_of_run noCount mixed (extL_ok (lems_cons q73 o73 lems_nil)) o164 r164
theorem q165 : LemOK Tryz.prog L165 := lem_of_run noCount mixed (extL_ok lems_nil) o165 r165
theorem q166 : LemOK Tryz.prog L166 := lem_of_run noCount mixed (extL_ok (lems_cons q73 o73 (lems_cons q164 o164 (lems_cons q165 o165 lems_nil)))) o166 r166
theorem q167 : LemOK Tryz.prog L167 := lem_of_run noCount mixed (extL_ok (lems_cons q81 o81 (lems_cons q165 o165 lems_nil))) o167 r167
theorem q168 : LemOK Tryz.prog L168 := lem_of_run noCount mixed (extL_ok (lems_cons q74 o74 (lems_cons q166 o166 (lems_cons q167 o167 lems_nil)))) o168 r168
theorem q169 : LemOK Tryz.prog L169 := lem_of_run noCount mixed (extL_ok lems_nil) o169 r169
theorem q170 : LemOK Tryz.prog L170 := lem_of_run noCount mixed (extL_ok (lems_cons q73 o73 (lems_cons q169 o169 lems_nil))) o170 r170
theorem q171 : LemOK Tryz.prog L171 := lem_of_run noCount mixed (extL_ok (lems_cons q73 o73 (lems_cons q169 o169 (lems_cons q170 o170 lems_nil)))) o171 r171
theorem q172 : LemOK Tryz.prog L172 := lem_of_run noCount mixed (extL_ok (lems_cons q73 o73 (lems_cons q169 o169 (lems_cons q171 o171 lems_nil)))) o172 r172
theorem q173 : LemOK Tryz.prog L173 := lem_of_run noCount mixed (extL_ok (lems_cons q167 o167 (lems_cons q172 o172 lems_nil))) o173 r173
theorem q174 : LemOK Tryz.prog L174 := lem_of_run noCount mixed (extL_ok (lems_cons q83 o83 lems_nil)) o174 r174
theorem q175 : LemOK Tryz.prog L175 := lem_of_run noCount mixed (extL_ok (lems_cons q83 o83 (lems_cons q91 o91 (lems_cons q174 o174 lems_nil)))) o175 r175
theorem q176 : LemOK Tryz.prog L176 := lem_of_run noCount mixed (extL_ok (lems_cons q74 o74 (lems_cons q91 o91 (lems_cons q163 o163 (lems_cons q168 o168 (lems_cons q173 o173 (lems_cons q175 o175 lems_nil))))))) o176 r176
theorem q177 : LemOK Tryz.prog L177 := lem_of_run noCount mixed (extL_ok lems_nil) o177 r177
theorem q178 : LemOK Tryz.prog L178 := lem_of_run noCount mixed (extL_ok lems_nil) o178 r178
theorem q179 : LemOK Tryz.prog L179 := lem_of_run noCount mixed (extL_ok lems_nil) o179 r179
theorem q180 : LemOK Tryz.prog L180 := lem_of_run noCount mixed (extL_ok (lems_cons q179 o179 lems_nil)) o180 r180
theorem q181 : LemOK Tryz.prog L181 := lem_of_run noCount mixed (extL_ok lems_nil) o181 r181
theorem q182 : LemOK Tryz.prog L182 := lem_of_run noCount mixed (extL_ok (lems_cons q179 o179 (lems_cons q180 o180 (lems_cons q181 o181 lems_nil)))) o182 r182
theorem q183 : LemOK Tryz.prog L183 := lem_of_run noCount mixed (extL_ok (lems_cons q182 o182 lems_nil)) o183 r183
theorem q184 : LemOK Tryz.prog L184 := lem_of_run noCount mixed (extL_ok (lems_cons q177 o177 (lems_cons q178 o178 (lems_cons q183 o183 lems_nil)))) o184 r184
theorem q185 : LemOK Tryz.prog L185 := lem_of_run noCount mixed (extL_ok (lems_cons q177 o177 (lems_cons q178 o178 (lems_cons q183 o183 lems_nil)))) o185 r185
theorem q186 : LemOK Tryz.prog L186 := lem_of_run noCount mixed (extL_ok lems_nil) o186 r186
theorem q187 : LemOK Tryz.prog L187 := lem_of_run noCount mixed (extL_ok lems_nil) o187 r187
theorem q188 : LemOK Tryz.prog L188 := lem_of_run noCount mixed (extL_ok lems_nil) o188 r188
theorem q189 : LemOK Tryz.prog L189 := lem_of_run noCount mixed (extL_ok (lems_cons q188 o188 lems_nil)) o189 r189
theorem q190 : LemOK Tryz.prog L190 := lem_of_run noCount mixed (extL_ok (lems_cons q188 o188 (lems_cons q189 o189 lems_nil))) o190 r190
theorem q191 : LemOK Tryz.prog L191 := lem_of_run noCount mixed (extL_ok (lems_cons q186 o186 (lems_cons q187 o187 (lems_cons q190 o190 lems_nil)))) o191 r191
theorem q192 : LemOK Tryz.prog L192 := lem_of_run noCount mixed (extL_ok (lems_cons q186 o186 (lems_cons q187 o187 (lems_cons q190 o190 lems_nil)))) o192 r192
theorem kTop : ∀ L ∈ lsTop, LemOK Tryz.prog L ∧ lemOk L = true := (lems_cons q40 o40 (lems_cons q63 o63 (lems_cons q70 o70 (lems_cons q102 o102 (lems_cons q106 o106 (lems_cons q107 o107 (lems_cons q108 o108 (lems_cons q109 o109 (lems_cons q121 o121 (lems_cons q128 o128 (lems_cons q129 o129 (lems_cons q136 o136 (lems_cons q141 o141 (lems_cons q143 o143 (lems_cons q148 o148 (lems_cons q150 o150 (lems_cons q155 o155 (lems_cons q176 o176 (lems_cons q184 o184 (lems_cons q185 o185 (lems_cons q191 o191 (lems_cons q192 o192 lems_nil))))))))))))))))))))))
end Go.Proofs.YtfcoffpmcmhieaaGreatDoor.Ve
