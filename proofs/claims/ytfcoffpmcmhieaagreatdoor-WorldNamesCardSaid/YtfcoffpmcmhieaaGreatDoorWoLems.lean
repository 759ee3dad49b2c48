/- The lemmas are true. -/
import Derived.Test.YtfcoffpmcmhieaaGreatDoorWoRun0
import Derived.Test.YtfcoffpmcmhieaaGreatDoorWoRun1
import Derived.Test.YtfcoffpmcmhieaaGreatDoorWoRun2
import Derived.Test.YtfcoffpmcmhieaaGreatDoorWoRun3
import Derived.Test.YtfcoffpmcmhieaaGreatDoorWoRun4
import Derived.Test.YtfcoffpmcmhieaaGreatDoorWoRun5
import Derived.Test.YtfcoffpmcmhieaaGreatDoorWoRun6
import Derived.Test.YtfcoffpmcmhieaaGreatDoorWoRun7
import Derived.Test.YtfcoffpmcmhieaaGreatDoorWoRun8
import Derived.Test.YtfcoffpmcmhieaaGreatDoorWoRun9
import Derived.Test.YtfcoffpmcmhieaaGreatDoorWoRun10
import Derived.Test.YtfcoffpmcmhieaaGreatDoorWoRun11
namespace Go.Proofs.YtfcoffpmcmhieaaGreatDoor.Wo
open Go AI
theorem noCount : NoCount Tryz.prog := by
  have h : (Tryz.prog.funcs.toList.all fun fn => !(fn.name == "runtime.NumGoroutine")) = true := by kernel_rfl
  intro f fn hf
  have hm : fn ∈ Tryz.prog.funcs.toList := by simpa using Array.mem_of_getElem? hf
  simpa using List.all_eq_true.1 h fn hm
theorem mixed : Tryz.prog.follows .mixedOrders = true := by kernel_rfl
theorem q0 : LemOK Tryz.prog L0 := lem_of_run noCount mixed (extL_ok lems_nil) o0 r0
theorem q1 : LemOK Tryz.prog L1 := lem_of_run noCount mixed (extL_ok (lems_cons q0 o0 lems_nil)) o1 r1
theorem q2 : LemOK Tryz.prog L2 := lem_of_run noCount mixed (extL_ok lems_nil) o2 r2
theorem q3 : LemOK Tryz.prog L3 := lem_of_run noCount mixed (extL_ok lems_nil) o3 r3
theorem q4 : LemOK Tryz.prog L4 := lem_of_run noCount mixed (extL_ok lems_nil) o4 r4
theorem q5 : LemOK Tryz.prog L5 := lem_of_run noCount mixed (extL_ok lems_nil) o5 r5
theorem q6 : LemOK Tryz.prog L6 := lem_of_run noCount mixed (extL_ok (lems_cons q4 o4 (lems_cons q5 o5 lems_nil))) o6 r6
theorem q7 : LemOK Tryz.prog L7 := lem_of_run noCount mixed (extL_ok (lems_cons q6 o6 lems_nil)) o7 r7
theorem q8 : LemOK Tryz.prog L8 := lem_of_run noCount mixed (extL_ok lems_nil) o8 r8
theorem q9 : LemOK Tryz.prog L9 := lem_of_run noCount mixed (extL_ok lems_nil) o9 r9
theorem q10 : LemOK Tryz.prog L10 := lem_of_run noCount mixed (extL_ok lems_nil) o10 r10
theorem q11 : LemOK Tryz.prog L11 := cut_first noCount mixed (extL_ok (lems_cons q8 o8 (lems_cons q9 o9 (lems_cons q10 o10 lems_nil)))) o11 c11_0 (cut_last noCount mixed (extL_ok (lems_cons q8 o8 (lems_cons q9 o9 (lems_cons q10 o10 lems_nil)))) e11)
theorem q12 : LemOK Tryz.prog L12 := cut_first noCount mixed (extL_ok (lems_cons q8 o8 (lems_cons q9 o9 (lems_cons q11 o11 lems_nil)))) o12 c12_0 (cut_last noCount mixed (extL_ok (lems_cons q8 o8 (lems_cons q9 o9 (lems_cons q11 o11 lems_nil)))) e12)
theorem q13 : LemOK Tryz.prog L13 := lem_of_run noCount mixed (extL_ok lems_nil) o13 r13
theorem q14 : LemOK Tryz.prog L14 := lem_of_run noCount mixed (extL_ok lems_nil) o14 r14
theorem q15 : LemOK Tryz.prog L15 := lem_of_run noCount mixed (extL_ok lems_nil) o15 r15
theorem q16 : LemOK Tryz.prog L16 := lem_of_run noCount mixed (extL_ok (lems_cons q15 o15 lems_nil)) o16 r16
theorem q17 : LemOK Tryz.prog L17 := lem_of_run noCount mixed (extL_ok lems_nil) o17 r17
theorem q18 : LemOK Tryz.prog L18 := lem_of_run noCount mixed (extL_ok (lems_cons q15 o15 (lems_cons q16 o16 (lems_cons q17 o17 lems_nil)))) o18 r18
theorem q19 : LemOK Tryz.prog L19 := lem_of_run noCount mixed (extL_ok (lems_cons q18 o18 lems_nil)) o19 r19
theorem q20 : LemOK Tryz.prog L20 := lem_of_run noCount mixed (extL_ok (lems_cons q13 o13 (lems_cons q14 o14 (lems_cons q19 o19 lems_nil)))) o20 r20
theorem q21 : LemOK Tryz.prog L21 := lem_of_run noCount mixed (extL_ok (lems_cons q13 o13 (lems_cons q14 o14 (lems_cons q19 o19 lems_nil)))) o21 r21
theorem q22 : LemOK Tryz.prog L22 := lem_of_run noCount mixed (extL_ok (lems_cons q1 o1 (lems_cons q2 o2 (lems_cons q3 o3 (lems_cons q7 o7 (lems_cons q12 o12 (lems_cons q13 o13 (lems_cons q14 o14 (lems_cons q16 o16 (lems_cons q19 o19 (lems_cons q20 o20 (lems_cons q21 o21 lems_nil)))))))))))) o22 r22
theorem q23 : LemOK Tryz.prog L23 := lem_of_run noCount mixed (extL_ok (lems_cons q8 o8 (lems_cons q9 o9 lems_nil))) o23 r23
theorem q24 : LemOK Tryz.prog L24 := lem_of_run noCount mixed (extL_ok (lems_cons q8 o8 (lems_cons q9 o9 lems_nil))) o24 r24
theorem q25 : LemOK Tryz.prog L25 := lem_of_run noCount mixed (extL_ok (lems_cons q8 o8 (lems_cons q9 o9 lems_nil))) o25 r25
theorem q26 : LemOK Tryz.prog L26 := lem_of_run noCount mixed (extL_ok (lems_cons q8 o8 (lems_cons q9 o9 (lems_cons q25 o25 lems_nil)))) o26 r26
theorem q27 : LemOK Tryz.prog L27 := lem_of_run noCount mixed (extL_ok (lems_cons q8 o8 (lems_cons q9 o9 lems_nil))) o27 r27
theorem q28 : LemOK Tryz.prog L28 := lem_of_run noCount mixed (extL_ok (lems_cons q8 o8 (lems_cons q9 o9 (lems_cons q23 o23 (lems_cons q24 o24 (lems_cons q25 o25 (lems_cons q26 o26 (lems_cons q27 o27 lems_nil)))))))) o28 r28
theorem q29 : LemOK Tryz.prog L29 := lem_of_run noCount mixed (extL_ok (lems_cons q8 o8 (lems_cons q9 o9 (lems_cons q22 o22 (lems_cons q28 o28 lems_nil))))) o29 r29
theorem q30 : LemOK Tryz.prog L30 := lem_of_run noCount mixed (extL_ok lems_nil) o30 r30
theorem q31 : LemOK Tryz.prog L31 := lem_of_run noCount mixed (extL_ok lems_nil) o31 r31
theorem q32 : LemOK Tryz.prog L32 := lem_of_run noCount mixed (extL_ok lems_nil) o32 r32
theorem q33 : LemOK Tryz.prog L33 := lem_of_run noCount mixed (extL_ok lems_nil) o33 r33
theorem q34 : LemOK Tryz.prog L34 := lem_of_run noCount mixed (extL_ok lems_nil) o34 r34
theorem q35 : LemOK Tryz.prog L35 := lem_of_run noCount mixed (extL_ok lems_nil) o35 r35
theorem q36 : LemOK Tryz.prog L36 := lem_of_run noCount mixed (extL_ok lems_nil) o36 r36
theorem q37 : LemOK Tryz.prog L37 := lem_of_run noCount mixed (extL_ok (lems_cons q30 o30 (lems_cons q31 o31 (lems_cons q32 o32 (lems_cons q33 o33 (lems_cons q34 o34 (lems_cons q35 o35 (lems_cons q36 o36 lems_nil)))))))) o37 r37
theorem q38 : LemOK Tryz.prog L38 := lem_of_run noCount mixed (extL_ok (lems_cons q37 o37 lems_nil)) o38 r38
theorem q39 : LemOK Tryz.prog L39 := lem_of_run noCount mixed (extL_ok lems_nil) o39 r39
theorem q40 : LemOK Tryz.prog L40 := lem_of_run noCount mixed (extL_ok (lems_cons q39 o39 lems_nil)) o40 r40
theorem q41 : LemOK Tryz.prog L41 := lem_of_run noCount mixed (extL_ok (lems_cons q39 o39 lems_nil)) o41 r41
theorem q42 : LemOK Tryz.prog L42 := lem_of_run noCount mixed (extL_ok lems_nil) o42 r42
theorem q43 : LemOK Tryz.prog L43 := lem_of_run noCount mixed (extL_ok (lems_cons q39 o39 (lems_cons q41 o41 (lems_cons q42 o42 lems_nil)))) o43 r43
theorem q44 : LemOK Tryz.prog L44 := lem_of_run noCount mixed (extL_ok (lems_cons q8 o8 (lems_cons q9 o9 lems_nil))) o44 r44
theorem q45 : LemOK Tryz.prog L45 := lem_of_run noCount mixed (extL_ok (lems_cons q42 o42 (lems_cons q44 o44 lems_nil))) o45 r45
theorem q46 : LemOK Tryz.prog L46 := lem_of_run noCount mixed (extL_ok lems_nil) o46 r46
theorem q47 : LemOK Tryz.prog L47 := lem_of_run noCount mixed (extL_ok (lems_cons q39 o39 (lems_cons q46 o46 lems_nil))) o47 r47
theorem q48 : LemOK Tryz.prog L48 := lem_of_run noCount mixed (extL_ok (lems_cons q39 o39 (lems_cons q46 o46 (lems_cons q47 o47 lems_nil)))) o48 r48
theorem q49 : LemOK Tryz.prog L49 := lem_of_run noCount mixed (extL_ok (lems_cons q39 o39 (lems_cons q46 o46 (lems_cons q48 o48 lems_nil)))) o49 r49
theorem q50 : LemOK Tryz.prog L50 := lem_of_run noCount mixed (extL_ok (lems_cons q43 o43 (lems_cons q45 o45 (lems_cons q49 o49 lems_nil)))) o50 r50
theorem q51 : LemOK Tryz.prog L51 := lem_of_run noCount mixed (extL_ok lems_nil) o51 r51
theorem q52 : LemOK Tryz.prog L52 := lem_of_run noCount mixed (extL_ok (lems_cons q51 o51 lems_nil)) o52 r52
theorem q53 : LemOK Tryz.prog L53 := lem_of_run noCount mixed (extL_ok (lems_cons q51 o51 lems_nil)) o53 r53
theorem q54 : LemOK Tryz.prog L54 := lem_of_run noCount mixed (extL_ok (lems_cons q51 o51 (lems_cons q52 o52 (lems_cons q53 o53 lems_nil)))) o54 r54
theorem q55 : LemOK Tryz.prog L55 := lem_of_run noCount mixed (extL_ok (lems_cons q38 o38 (lems_cons q40 o40 (lems_cons q50 o50 (lems_cons q52 o52 (lems_cons q54 o54 lems_nil)))))) o55 r55
theorem q56 : LemOK Tryz.prog L56 := lem_of_run noCount mixed (extL_ok (lems_cons q30 o30 lems_nil)) o56 r56
theorem q57 : LemOK Tryz.prog L57 := lem_of_run noCount mixed (extL_ok (lems_cons q30 o30 (lems_cons q56 o56 lems_nil))) o57 r57
theorem q58 : LemOK Tryz.prog L58 := lem_of_run noCount mixed (extL_ok (lems_cons q37 o37 lems_nil)) o58 r58
theorem q59 : LemOK Tryz.prog L59 := lem_of_run noCount mixed (extL_ok (lems_cons q39 o39 (lems_cons q41 o41 (lems_cons q42 o42 lems_nil)))) o59 r59
theorem q60 : LemOK Tryz.prog L60 := lem_of_run noCount mixed (extL_ok (lems_cons q40 o40 (lems_cons q45 o45 (lems_cons q59 o59 lems_nil)))) o60 r60
theorem q61 : LemOK Tryz.prog L61 := lem_of_run noCount mixed (extL_ok (lems_cons q40 o40 (lems_cons q45 o45 lems_nil))) o61 r61
theorem q62 : LemOK Tryz.prog L62 := lem_of_run noCount mixed (extL_ok (lems_cons q40 o40 (lems_cons q45 o45 lems_nil))) o62 r62
theorem q63 : LemOK Tryz.prog L63 := lem_of_run noCount mixed (extL_ok (lems_cons q45 o45 lems_nil)) o63 r63
theorem q64 : LemOK Tryz.prog L64 := lem_of_run noCount mixed (extL_ok (lems_cons q45 o45 lems_nil)) o64 r64
theorem q65 : LemOK Tryz.prog L65 := lem_of_run noCount mixed (extL_ok (lems_cons q39 o39 (lems_cons q46 o46 (lems_cons q48 o48 lems_nil)))) o65 r65
theorem q66 : LemOK Tryz.prog L66 := lem_of_run noCount mixed (extL_ok (lems_cons q45 o45 (lems_cons q65 o65 lems_nil))) o66 r66
theorem q67 : LemOK Tryz.prog L67 := lem_of_run noCount mixed (extL_ok (lems_cons q40 o40 (lems_cons q52 o52 (lems_cons q61 o61 (lems_cons q62 o62 (lems_cons q63 o63 (lems_cons q64 o64 (lems_cons q66 o66 lems_nil)))))))) o67 r67
theorem q68 : LemOK Tryz.prog L68 := lem_of_run noCount mixed (extL_ok lems_nil) o68 r68
theorem kTop : ∀ L ∈ lsTop, LemOK Tryz.prog L ∧ lemOk L = true := (lems_cons q29 o29 (lems_cons q40 o40 (lems_cons q55 o55 (lems_cons q56 o56 (lems_cons q57 o57 (lems_cons q58 o58 (lems_cons q60 o60 (lems_cons q67 o67 (lems_cons q68 o68 lems_nil)))))))))
end Go.Proofs.YtfcoffpmcmhieaaGreatDoor.Wo
