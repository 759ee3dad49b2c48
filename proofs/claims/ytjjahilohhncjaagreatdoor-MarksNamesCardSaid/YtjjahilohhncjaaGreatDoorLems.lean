/- The lemmas are true. -/
import Derived.Test.YtjjahilohhncjaaGreatDoorRun0
import Derived.Test.YtjjahilohhncjaaGreatDoorRun1
import Derived.Test.YtjjahilohhncjaaGreatDoorRun2
import Derived.Test.YtjjahilohhncjaaGreatDoorRun3
import Derived.Test.YtjjahilohhncjaaGreatDoorRun4
import Derived.Test.YtjjahilohhncjaaGreatDoorRun5
import Derived.Test.YtjjahilohhncjaaGreatDoorRun6
import Derived.Test.YtjjahilohhncjaaGreatDoorRun7
import Derived.Test.YtjjahilohhncjaaGreatDoorRun8
import Derived.Test.YtjjahilohhncjaaGreatDoorRun9
import Derived.Test.YtjjahilohhncjaaGreatDoorRun10
import Derived.Test.YtjjahilohhncjaaGreatDoorRun11
import Derived.Test.YtjjahilohhncjaaGreatDoorRun12
import Derived.Test.YtjjahilohhncjaaGreatDoorRun13
namespace Go.Proofs.YtjjahilohhncjaaGreatDoor
open Go AI
theorem noCount : NoCount Tryz.prog := by
  have h : (Tryz.prog.funcs.toList.all fun fn => !(fn.name == "runtime.NumGoroutine")) = true := by kernel_rfl
  intro f fn hf
  have hm : fn ∈ Tryz.prog.funcs.toList := by simpa using Array.mem_of_getElem? hf
  simpa using List.all_eq_true.1 h fn hm
theorem mixed : Tryz.prog.follows .mixedOrders = true := by kernel_rfl
theorem q0 : LemOK Tryz.prog L0 := lem_of_run noCount mixed (extL_ok lems_nil) o0 r0
theorem q1 : LemOK Tryz.prog L1 := lem_of_run noCount mixed (extL_ok (lems_cons q0 o0 lems_nil)) o1 r1
theorem q2 : LemOK Tryz.prog L2 := lem_of_run noCount mixed (extL_ok lems_nil) o2 r2
theorem q3 : LemOK Tryz.prog L3 := lem_of_run noCount mixed (extL_ok lems_nil) o3 r3
theorem q4 : LemOK Tryz.prog L4 := lem_of_run noCount mixed (extL_ok lems_nil) o4 r4
theorem q5 : LemOK Tryz.prog L5 := lem_of_run noCount mixed (extL_ok lems_nil) o5 r5
theorem q6 : LemOK Tryz.prog L6 := lem_of_run noCount mixed (extL_ok (lems_cons q4 o4 (lems_cons q5 o5 lems_nil))) o6 r6
theorem q7 : LemOK Tryz.prog L7 := lem_of_run noCount mixed (extL_ok (lems_cons q6 o6 lems_nil)) o7 r7
theorem q8 : LemOK Tryz.prog L8 := lem_of_run noCount mixed (extL_ok lems_nil) o8 r8
theorem q9 : LemOK Tryz.prog L9 := lem_of_run noCount mixed (extL_ok lems_nil) o9 r9
theorem q10 : LemOK Tryz.prog L10 := lem_of_run noCount mixed (extL_ok lems_nil) o10 r10
theorem q11 : LemOK Tryz.prog L11 := lem_of_run noCount mixed (extL_ok (lems_cons q8 o8 (lems_cons q9 o9 (lems_cons q10 o10 lems_nil)))) o11 r11
theorem q12 : LemOK Tryz.prog L12 := lem_of_run noCount mixed (extL_ok (lems_cons q8 o8 (lems_cons q9 o9 (lems_cons q11 o11 lems_nil)))) o12 r12
theorem q13 : LemOK Tryz.prog L13 := lem_of_run noCount mixed (extL_ok lems_nil) o13 r13
theorem q14 : LemOK Tryz.prog L14 := lem_of_run noCount mixed (extL_ok lems_nil) o14 r14
theorem q15 : LemOK Tryz.prog L15 := lem_of_run noCount mixed (extL_ok lems_nil) o15 r15
theorem q16 : LemOK Tryz.prog L16 := lem_of_run noCount mixed (extL_ok (lems_cons q15 o15 lems_nil)) o16 r16
theorem q17 : LemOK Tryz.prog L17 := lem_of_run noCount mixed (extL_ok lems_nil) o17 r17
theorem q18 : LemOK Tryz.prog L18 := lem_of_run noCount mixed (extL_ok (lems_cons q15 o15 (lems_cons q16 o16 (lems_cons q17 o17 lems_nil)))) o18 r18
theorem q19 : LemOK Tryz.prog L19 := lem_of_run noCount mixed (extL_ok (lems_cons q18 o18 lems_nil)) o19 r19
theorem q20 : LemOK Tryz.prog L20 := lem_of_run noCount mixed (extL_ok (lems_cons q13 o13 (lems_cons q14 o14 (lems_cons q19 o19 lems_nil)))) o20 r20
theorem q21 : LemOK Tryz.prog L21 := lem_of_run noCount mixed (extL_ok (lems_cons q13 o13 (lems_cons q14 o14 (lems_cons q19 o19 lems_nil)))) o21 r21
theorem q22 : LemOK Tryz.prog L22 := lem_of_run noCount mixed (extL_ok (lems_cons q1 o1 (lems_cons q2 o2 (lems_cons q3 o3 (lems_cons q7 o7 (lems_cons q12 o12 (lems_cons q13 o13 (lems_cons q14 o14 (lems_cons q16 o16 (lems_cons q19 o19 (lems_cons q20 o20 (lems_cons q21 o21 lems_nil)))))))))))) o22 r22
theorem q23 : LemOK Tryz.prog L23 := lem_of_run noCount mixed (extL_ok (lems_cons q8 o8 (lems_cons q9 o9 lems_nil))) o23 r23
theorem q24 : LemOK Tryz.prog L24 := lem_of_run noCount mixed (extL_ok (lems_cons q8 o8 (lems_cons q9 o9 lems_nil))) o24 r24
theorem q25 : LemOK Tryz.prog L25 := lem_of_run noCount mixed (extL_ok (lems_cons q8 o8 (lems_cons q9 o9 lems_nil))) o25 r25
theorem q26 : LemOK Tryz.prog L26 := lem_of_run noCount mixed (extL_ok (lems_cons q8 o8 (lems_cons q9 o9 (lems_cons q25 o25 lems_nil)))) o26 r26
theorem q27 : LemOK Tryz.prog L27 := lem_of_run noCount mixed (extL_ok (lems_cons q8 o8 (lems_cons q9 o9 lems_nil))) o27 r27
theorem q28 : LemOK Tryz.prog L28 := lem_of_run noCount mixed (extL_ok (lems_cons q8 o8 (lems_cons q9 o9 (lems_cons q23 o23 (lems_cons q24 o24 (lems_cons q25 o25 (lems_cons q26 o26 (lems_cons q27 o27 lems_nil)))))))) o28 r28
theorem q29 : LemOK Tryz.prog L29 := lem_of_run noCount mixed (extL_ok lems_nil) o29 r29
theorem q30 : LemOK Tryz.prog L30 := lem_of_run noCount mixed (extL_ok (lems_cons q29 o29 lems_nil)) o30 r30
theorem q31 : LemOK Tryz.prog L31 := lem_of_run noCount mixed (extL_ok (lems_cons q29 o29 lems_nil)) o31 r31
theorem q32 : LemOK Tryz.prog L32 := lem_of_run noCount mixed (extL_ok (lems_cons q29 o29 lems_nil)) o32 r32
theorem q33 : LemOK Tryz.prog L33 := lem_of_run noCount mixed (extL_ok lems_nil) o33 r33
theorem q34 : LemOK Tryz.prog L34 := lem_of_run noCount mixed (extL_ok (lems_cons q33 o33 lems_nil)) o34 r34
theorem kTop : ∀ L ∈ lsTop, LemOK Tryz.prog L ∧ lemOk L = true := (lems_cons q8 o8 (lems_cons q9 o9 (lems_cons q22 o22 (lems_cons q28 o28 (lems_cons q29 o29 (lems_cons q30 o30 (lems_cons q31 o31 (lems_cons q32 o32 (lems_cons q33 o33 (lems_cons q34 o34 lems_nil))))))))))
end Go.Proofs.YtjjahilohhncjaaGreatDoor
