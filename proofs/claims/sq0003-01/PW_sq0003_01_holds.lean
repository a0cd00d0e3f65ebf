import PyProof.Rows.All
import Wide.All
import OpenK.AllK
import Wide.FinOn
import Lean
import PySem.Challenge.RW_sq0003_01
set_option Elab.async false
set_option maxRecDepth 100000
set_option maxHeartbeats 0
set_option linter.all false
set_option tactic.hygienic false
set_option genSizeOf false
set_option genInjectivity false
namespace Mine.Lake
section
theorem q0{P0 P1 G:Prop}(h:P0∧P1)(k:P0→P1→G):G:=by obtain⟨a0,a1⟩:=h;exact k a0 a1
theorem q1.{u0}{T0:Sort u0}{P0:T0→Prop}{G:Prop}(h:∃x0,P0 x0)(k:∀x0,P0 x0→G):G:=by obtain⟨a0,a1⟩:=h;exact k a0 a1
theorem q2{P0 P1 P2 G:Prop}(h:P0∧P1∧P2)(k:P0→P1→P2→G):G:=by obtain⟨a0,a1,a2⟩:=h;exact k a0 a1 a2
theorem q3{P0 P1 P2 P3 P4 G:Prop}(h:P0∧P1∧P2∧P3∧P4)(k:P0→P1→P2→P3→P4→G):G:=by obtain⟨a0,a1,a2,a3,a4⟩:=h;exact k a0 a1 a2 a3 a4
theorem q4{P0 P1 P2 P3 P4 P5 G:Prop}(h:P0∧P1∧P2∧P3∧P4∧P5)(k:P0→P1→P2→P3→P4→P5→G):G:=by obtain⟨a0,a1,a2,a3,a4,a5⟩:=h;exact k a0 a1 a2 a3 a4 a5
theorem q5.{u0,u1}{T0:Sort u0}{T1:Sort u1}{P0:T0→T1→Prop}{G:Prop}(h:∃x0 x1,P0 x0 x1)(k:∀x0 x1,P0 x0 x1→G):G:=by obtain⟨a0,a1,a2⟩:=h;exact k a0 a1 a2
theorem q6{P0 P1 P2 P3 G:Prop}(h:P0∧P1∧P2∧P3)(k:P0→P1→P2→P3→G):G:=by obtain⟨a0,a1,a2,a3⟩:=h;exact k a0 a1 a2 a3
theorem q7{P0 P1 P2 G:Prop}(h:(P0∧P1)∧P2)(k:P0→P1→P2→G):G:=by obtain⟨⟨a0,a1⟩,a2⟩:=h;exact k a0 a1 a2
theorem q8.{u0,u1,u2,u3,u4}{T0:Sort u0}{T1:Sort u1}{T2:Sort u2}{T3:Sort u3}{T4:Sort u4}{P0:T0→T1→T2→T3→T4→Prop}{G:Prop}(h:∃x0 x1 x2 x3 x4,P0 x0 x1 x2 x3 x4)(k:∀x0 x1,∀x2 x3 x4,P0 x0 x1 x2 x3 x4→G):G:=by obtain⟨a0,a1,a2,a3,a4,a5⟩:=h;exact k a0 a1 a2 a3 a4 a5
theorem q9.{u0,u1,u2}{T0:Sort u0}{T1:Sort u1}{T2:Sort u2}{P0:T0→T1→T2→Prop}{G:Prop}(h:∃x0 x1 x2,P0 x0 x1 x2)(k:∀x0 x1 x2,P0 x0 x1 x2→G):G:=by obtain⟨a0,a1,a2,a3⟩:=h;exact k a0 a1 a2 a3
theorem q10{P0 P1 P2 P3 G:Prop}(h:((P0∧P1)∧P2)∧P3)(k:P0→P1→P2→P3→G):G:=by obtain⟨⟨⟨a0,a1⟩,a2⟩,a3⟩:=h;exact k a0 a1 a2 a3
theorem q11{P0 P1 P2 P3 P4 P5 G:Prop}(h:((((P0∧P1)∧P2)∧P3)∧P4)∧P5)(k:P0→P1→P2→P3→P4→P5→G):G:=by obtain⟨⟨⟨⟨⟨a0,a1⟩,a2⟩,a3⟩,a4⟩,a5⟩:=h;exact k a0 a1 a2 a3 a4 a5
theorem q12.{u0,u1,u2,u3}{T0:Sort u0}{T1:Sort u1}{T2:Sort u2}{T3:Sort u3}{P0:T0→T1→T2→T3→Prop}{G:Prop}(h:∃x0 x1 x2 x3,P0 x0 x1 x2 x3)(k:∀x0 x1,∀x2 x3,P0 x0 x1 x2 x3→G):G:=by obtain⟨a0,a1,a2,a3,a4⟩:=h;exact k a0 a1 a2 a3 a4
theorem q13{P0 P1 P2 P3 P4 G:Prop}(h:(((P0∧P1)∧P2)∧P3)∧P4)(k:P0→P1→P2→P3→P4→G):G:=by obtain⟨⟨⟨⟨a0,a1⟩,a2⟩,a3⟩,a4⟩:=h;exact k a0 a1 a2 a3 a4
theorem q17.{u0}{T0:Sort u0}{P0 P1:T0→Prop}{G:Prop}(h:∃x0,P0 x0∧P1 x0)(k:∀x0,P0 x0→P1 x0→G):G:=by refine q1 h fun a0 w1_=> ?_;refine q0 w1_ fun a1 a2=> ?_;exact k a0 a1 a2
theorem q18.{u0,u1}{T0:Sort u0}{T1:Sort u1}{P0 P1 P2:T0→T1→Prop}{G:Prop}(h:∃x0 x1,P0 x0 x1∧P1 x0 x1∧P2 x0 x1)(k:∀x0 x1,P0 x0 x1→P1 x0 x1→P2 x0 x1→G):G:=by refine q5 h fun a0 a1 w1_=> ?_;refine q2 w1_ fun a2 a3 a4=> ?_;exact k a0 a1 a2 a3 a4
theorem q19.{u0}{T0:Sort u0}{P0 P1 P2:T0→Prop}{G:Prop}(h:∃x0,P0 x0∧P1 x0∧P2 x0)(k:∀x0,P0 x0→P1 x0→P2 x0→G):G:=by refine q1 h fun a0 w1_=> ?_;refine q2 w1_ fun a1 a2 a3=> ?_;exact k a0 a1 a2 a3
theorem q20.{u0,u1}{T0:Sort u0}{T1:Sort u1}{P0 P1:T0→T1→Prop}{G:Prop}(h:∃x0 x1,P0 x0 x1∧P1 x0 x1)(k:∀x0 x1,P0 x0 x1→P1 x0 x1→G):G:=by refine q5 h fun a0 a1 w1_=> ?_;refine q0 w1_ fun a2 a3=> ?_;exact k a0 a1 a2 a3
theorem q21{P0 P1 P2 P3 P4 P5 P6 P7 P8 P9 P10 P11 P12 G:Prop}(h:P0∧P1∧P2∧P3∧P4∧P5∧P6∧P7∧P8∧P9∧P10∧P11∧P12)(k:P0→P1→P2→P3→P4→P5→P6→P7→P8→P9→P10→P11→P12→G):G:=by refine q4 h fun a0 a1 a2 a3 a4 w1_=> ?_;refine q4 w1_ fun a5 a6 a7 a8 a9 w2_=> ?_;refine q2 w2_ fun a10 a11 a12=> ?_;exact k a0 a1 a2 a3 a4 a5 a6 a7 a8 a9 a10 a11 a12
theorem q22.{u0,u1}{T0:Sort u0}{T1:Sort u1}{P0 P1 P2 P3:T0→T1→Prop}{G:Prop}(h:∃x0 x1,P0 x0 x1∧P1 x0 x1∧P2 x0 x1∧P3 x0 x1)(k:∀x0 x1,P0 x0 x1→P1 x0 x1→P2 x0 x1→P3 x0 x1→G):G:=by refine q5 h fun a0 a1 w1_=> ?_;refine q6 w1_ fun a2 a3 a4 a5=> ?_;exact k a0 a1 a2 a3 a4 a5
theorem q23.{u0}{T0:Sort u0}{P0 P1 P2 P3:T0→Prop}{G:Prop}(h:∃x0,P0 x0∧P1 x0∧P2 x0∧P3 x0)(k:∀x0,P0 x0→P1 x0→P2 x0→P3 x0→G):G:=by refine q1 h fun a0 w1_=> ?_;refine q6 w1_ fun a1 a2 a3 a4=> ?_;exact k a0 a1 a2 a3 a4
theorem q24.{u0,u1,u2,u3}{T0:Sort u0}{T1:Sort u1}{T2:Sort u2}{T3:Sort u3}{P0 P1:T0→T1→T2→T3→Prop}{G:Prop}(h:∃x0 x1 x2 x3,P0 x0 x1 x2 x3∧P1 x0 x1 x2 x3)(k:∀x0 x1,∀x2 x3,P0 x0 x1 x2 x3→P1 x0 x1 x2 x3→G):G:=by refine q12 h fun a0 a1 a2 a3 w1_=> ?_;refine q0 w1_ fun a4 a5=> ?_;exact k a0 a1 a2 a3 a4 a5
theorem q25.{u0,u1,u2}{T0:Sort u0}{T1:Sort u1}{T2:Sort u2}{P0 P1:T0→T1→T2→Prop}{G:Prop}(h:∃x0 x1 x2,P0 x0 x1 x2∧P1 x0 x1 x2)(k:∀x0 x1 x2,P0 x0 x1 x2→P1 x0 x1 x2→G):G:=by refine q9 h fun a0 a1 a2 w1_=> ?_;refine q0 w1_ fun a3 a4=> ?_;exact k a0 a1 a2 a3 a4
theorem q26.{u0,u1,u2,u3}{T0:Sort u0}{T1:Sort u1}{T2:Sort u2}{T3:Sort u3}{P0 P1 P2 P3 P4 P5:T0→T1→T2→T3→Prop}{G:Prop}(h:∃x0 x1 x2 x3,P0 x0 x1 x2 x3∧P1 x0 x1 x2 x3∧P2 x0 x1 x2 x3∧P3 x0 x1 x2 x3∧P4 x0 x1 x2 x3∧P5 x0 x1 x2 x3)(k:∀x0 x1,∀x2 x3,P0 x0 x1 x2 x3→P1 x0 x1 x2 x3→P2 x0 x1 x2 x3→P3 x0 x1 x2 x3→P4 x0 x1 x2 x3→P5 x0 x1 x2 x3→G):G:=by refine q12 h fun a0 a1 a2 a3 w1_=> ?_;refine q4 w1_ fun a4 a5 a6 a7 a8 a9=> ?_;exact k a0 a1 a2 a3 a4 a5 a6 a7 a8 a9
theorem q27.{u0,u1,u2}{T0:Sort u0}{T1:Sort u1}{T2:Sort u2}{P0 P1 P2 P3:T0→T1→T2→Prop}{G:Prop}(h:∃x0 x1 x2,P0 x0 x1 x2∧P1 x0 x1 x2∧P2 x0 x1 x2∧P3 x0 x1 x2)(k:∀x0 x1 x2,P0 x0 x1 x2→P1 x0 x1 x2→P2 x0 x1 x2→P3 x0 x1 x2→G):G:=by refine q9 h fun a0 a1 a2 w1_=> ?_;refine q6 w1_ fun a3 a4 a5 a6=> ?_;exact k a0 a1 a2 a3 a4 a5 a6
theorem q28.{u0,u1,u2}{T0:Sort u0}{T1:Sort u1}{T2:Sort u2}{P0 P1 P2 P3 P4 P5 P6 P7:T0→T1→T2→Prop}{G:Prop}(h:∃x0 x1 x2,P0 x0 x1 x2∧P1 x0 x1 x2∧P2 x0 x1 x2∧P3 x0 x1 x2∧P4 x0 x1 x2∧P5 x0 x1 x2∧P6 x0 x1 x2∧P7 x0 x1 x2)(k:∀x0 x1 x2,P0 x0 x1 x2→P1 x0 x1 x2→P2 x0 x1 x2→P3 x0 x1 x2→P4 x0 x1 x2→P5 x0 x1 x2→P6 x0 x1 x2→P7 x0 x1 x2→G):G:=by refine q9 h fun a0 a1 a2 w1_=> ?_;refine q4 w1_ fun a3 a4 a5 a6 a7 w2_=> ?_;refine q2 w2_ fun a8 a9 a10=> ?_;exact k a0 a1 a2 a3 a4 a5 a6 a7 a8 a9 a10
theorem q29.{u0,u1,u2,u3,u4}{T0:Sort u0}{T1:Sort u1}{T2:Sort u2}{T3:Sort u3}{T4:Sort u4}{P0 P1 P2 P3 P4 P5 P6 P7 P8 P9:T0→T1→T2→T3→T4→Prop}{G:Prop}(h:∃x0 x1 x2 x3 x4,P0 x0 x1 x2 x3 x4∧P1 x0 x1 x2 x3 x4∧P2 x0 x1 x2 x3 x4∧P3 x0 x1 x2 x3 x4∧P4 x0 x1 x2 x3 x4∧P5 x0 x1 x2 x3 x4∧P6 x0 x1 x2 x3 x4∧P7 x0 x1 x2 x3 x4∧P8 x0 x1 x2 x3 x4∧P9 x0 x1 x2 x3 x4)(k:∀x0 x1,∀x2 x3 x4,P0 x0 x1 x2 x3 x4→P1 x0 x1 x2 x3 x4→P2 x0 x1 x2 x3 x4→P3 x0 x1 x2 x3 x4→P4 x0 x1 x2 x3 x4→P5 x0 x1 x2 x3 x4→P6 x0 x1 x2 x3 x4→P7 x0 x1 x2 x3 x4→P8 x0 x1 x2 x3 x4→P9 x0 x1 x2 x3 x4→G):G:=by refine q8 h fun a0 a1 a2 a3 a4 w1_=> ?_;refine q4 w1_ fun a5 a6 a7 a8 a9 w2_=> ?_;refine q3 w2_ fun a10 a11 a12 a13 a14=> ?_;exact k a0 a1 a2 a3 a4 a5 a6 a7 a8 a9 a10 a11 a12 a13 a14
theorem q30.{u0,u1}{T0:Sort u0}{T1:Sort u1}{P0 P1:Prop}{P2 P3:T0→T1→Prop}{G:Prop}(h:P0∧P1∧∃x0 x1,P2 x0 x1∧P3 x0 x1)(k:P0→P1→∀x0 x1,P2 x0 x1→P3 x0 x1→G):G:=by refine q2 h fun a0 a1 w1_=> ?_;refine q5 w1_ fun a2 a3 w2_=> ?_;refine q0 w2_ fun a4 a5=> ?_;exact k a0 a1 a2 a3 a4 a5
theorem q31.{u0,u1,u2}{T0:Sort u0}{T1:Sort u1}{T2:Sort u2}{P0 P1 P2 P3 P4:T0→T1→T2→Prop}{G:Prop}(h:∃x0 x1 x2,P0 x0 x1 x2∧P1 x0 x1 x2∧P2 x0 x1 x2∧P3 x0 x1 x2∧P4 x0 x1 x2)(k:∀x0 x1 x2,P0 x0 x1 x2→P1 x0 x1 x2→P2 x0 x1 x2→P3 x0 x1 x2→P4 x0 x1 x2→G):G:=by refine q9 h fun a0 a1 a2 w1_=> ?_;refine q3 w1_ fun a3 a4 a5 a6 a7=> ?_;exact k a0 a1 a2 a3 a4 a5 a6 a7
theorem q32.{u0,u1}{T0:Sort u0}{T1:Sort u1}{P0 P1 P2 P3 P4:T0→T1→Prop}{G:Prop}(h:∃x0 x1,P0 x0 x1∧P1 x0 x1∧P2 x0 x1∧P3 x0 x1∧P4 x0 x1)(k:∀x0 x1,P0 x0 x1→P1 x0 x1→P2 x0 x1→P3 x0 x1→P4 x0 x1→G):G:=by refine q5 h fun a0 a1 w1_=> ?_;refine q3 w1_ fun a2 a3 a4 a5 a6=> ?_;exact k a0 a1 a2 a3 a4 a5 a6
theorem q33.{u0,u1}{T0:Sort u0}{T1:Sort u1}{P0:Prop}{P1 P2 P3:T0→T1→Prop}{G:Prop}(h:P0∧∃x0 x1,P1 x0 x1∧P2 x0 x1∧P3 x0 x1)(k:P0→∀x0 x1,P1 x0 x1→P2 x0 x1→P3 x0 x1→G):G:=by refine q0 h fun a0 w1_=> ?_;refine q5 w1_ fun a1 a2 w2_=> ?_;refine q2 w2_ fun a3 a4 a5=> ?_;exact k a0 a1 a2 a3 a4 a5
theorem q34.{u0,u1,u2,u3}{T0:Sort u0}{T1:Sort u1}{T2:Sort u2}{T3:Sort u3}{P0 P1 P2:T0→T1→T2→T3→Prop}{G:Prop}(h:∃x0 x1 x2 x3,P0 x0 x1 x2 x3∧P1 x0 x1 x2 x3∧P2 x0 x1 x2 x3)(k:∀x0 x1,∀x2 x3,P0 x0 x1 x2 x3→P1 x0 x1 x2 x3→P2 x0 x1 x2 x3→G):G:=by refine q12 h fun a0 a1 a2 a3 w1_=> ?_;refine q2 w1_ fun a4 a5 a6=> ?_;exact k a0 a1 a2 a3 a4 a5 a6
theorem q35.{u0,u1,u2}{T0:Sort u0}{T1:Sort u1}{T2:Sort u2}{P0 P1 P2 P3 P4 P5:T0→T1→T2→Prop}{G:Prop}(h:∃x0 x1 x2,P0 x0 x1 x2∧P1 x0 x1 x2∧P2 x0 x1 x2∧P3 x0 x1 x2∧P4 x0 x1 x2∧P5 x0 x1 x2)(k:∀x0 x1 x2,P0 x0 x1 x2→P1 x0 x1 x2→P2 x0 x1 x2→P3 x0 x1 x2→P4 x0 x1 x2→P5 x0 x1 x2→G):G:=by refine q9 h fun a0 a1 a2 w1_=> ?_;refine q4 w1_ fun a3 a4 a5 a6 a7 a8=> ?_;exact k a0 a1 a2 a3 a4 a5 a6 a7 a8
theorem q38{P0 P1 P2 P3 P4 P5 P6 P7 G:Prop}(h:P0∧P1∧P2∧P3∧P4∧P5∧P6∧P7)(k:P0→P1→P2→P3→P4→P5→P6→P7→G):G:=by refine q4 h fun a0 a1 a2 a3 a4 w1_=> ?_;refine q2 w1_ fun a5 a6 a7=> ?_;exact k a0 a1 a2 a3 a4 a5 a6 a7
theorem q39.{u0,u1}{T0:Sort u0}{T1:Sort u1}{P0 P1 P2 P3 P4 P5:T0→T1→Prop}{G:Prop}(h:∃x0 x1,P0 x0 x1∧P1 x0 x1∧P2 x0 x1∧P3 x0 x1∧P4 x0 x1∧P5 x0 x1)(k:∀x0 x1,P0 x0 x1→P1 x0 x1→P2 x0 x1→P3 x0 x1→P4 x0 x1→P5 x0 x1→G):G:=by refine q5 h fun a0 a1 w1_=> ?_;refine q4 w1_ fun a2 a3 a4 a5 a6 a7=> ?_;exact k a0 a1 a2 a3 a4 a5 a6 a7
theorem q40.{u0}{T0:Sort u0}{P0 P1 P2 P3 P4:T0→Prop}{G:Prop}(h:∃x0,P0 x0∧P1 x0∧P2 x0∧P3 x0∧P4 x0)(k:∀x0,P0 x0→P1 x0→P2 x0→P3 x0→P4 x0→G):G:=by refine q1 h fun a0 w1_=> ?_;refine q3 w1_ fun a1 a2 a3 a4 a5=> ?_;exact k a0 a1 a2 a3 a4 a5
theorem q41{P0 P1 P2 P3 P4 P5 P6 G:Prop}(h:(((((P0∧P1)∧P2)∧P3)∧P4)∧P5)∧P6)(k:P0→P1→P2→P3→P4→P5→P6→G):G:=by refine q11 h fun w1_ a2 a3 a4 a5 a6=> ?_;refine q0 w1_ fun a0 a1=> ?_;exact k a0 a1 a2 a3 a4 a5 a6
theorem q42.{u0,u1,u2}{T0:Sort u0}{T1:Sort u1}{T2:Sort u2}{P0 P1 P2:T0→T1→T2→Prop}{G:Prop}(h:∃x0 x1 x2,P0 x0 x1 x2∧P1 x0 x1 x2∧P2 x0 x1 x2)(k:∀x0 x1 x2,P0 x0 x1 x2→P1 x0 x1 x2→P2 x0 x1 x2→G):G:=by refine q9 h fun a0 a1 a2 w1_=> ?_;refine q2 w1_ fun a3 a4 a5=> ?_;exact k a0 a1 a2 a3 a4 a5
theorem q43{P0 P1 P2 P3 P4 P5 P6 G:Prop}(h:P0∧P1∧P2∧P3∧P4∧P5∧P6)(k:P0→P1→P2→P3→P4→P5→P6→G):G:=by refine q4 h fun a0 a1 a2 a3 a4 w1_=> ?_;refine q0 w1_ fun a5 a6=> ?_;exact k a0 a1 a2 a3 a4 a5 a6
theorem q44.{u0}{T0:Sort u0}{P0 P1 P2:T0→Prop}{P3 G:Prop}(h:(∃x0,P0 x0∧P1 x0∧P2 x0)∧P3)(k:∀x0,P0 x0→P1 x0→P2 x0→P3→G):G:=by refine q0 h fun w1_ a4=> ?_;refine q1 w1_ fun a0 w3_=> ?_;refine q2 w3_ fun a1 a2 a3=> ?_;exact k a0 a1 a2 a3 a4
end
section
open PySem PySem.W PySem.Calls PyProof.Rows PySem.Spec
set_option genInjectivity true in
inductive MV where
 |none
 |bool (b:Bool)
 |int (i:Int)
 |str (s:Str)
 |ref (a:Addr)
set_option genInjectivity true in
inductive MO where
 |list (xs:List MV)
 |tuple (xs:List MV)
 |idict (f:Int→Option MV) (n:Nat)
 |sdict (f:Str→Option MV) (n:Nat)
 |inst (C:Addr) (f:String→Option MV) (n:Nat)
section
variable{α:Type}{z v:α}
noncomputable def onIntV(e:MV)(z:α)(f:Int→α):α:=MV.rec z (fun _=>z) f (fun _=>z) (fun _=>z) e
@[elab_as_elim]theorem onIntV_elim{P:MV→Prop}{e:MV}{f:Int→α}(h:onIntV e z f=v)(hz:z≠v)(k:∀a,f a=v→P (.int a)):P e:=by
 cases e with
 |int a=>exact k a h
 |_=>exact absurd h hz
noncomputable def onRefV(e:MV)(z:α)(f:Addr→α):α:=MV.rec z (fun _=>z) (fun _=>z) (fun _=>z) f e
@[elab_as_elim]theorem onRefV_elim{P:MV→Prop}{e:MV}{f:Addr→α}(h:onRefV e z f=v)(hz:z≠v)(k:∀a,f a=v→P (.ref a)):P e:=by
 cases e with
 |ref a=>exact k a h
 |_=>exact absurd h hz
noncomputable def onStrV(e:MV)(z:α)(f:Str→α):α:=MV.rec z (fun _=>z) (fun _=>z) f (fun _=>z) e
@[elab_as_elim]theorem onStrV_elim{P:MV→Prop}{e:MV}{f:Str→α}(h:onStrV e z f=v)(hz:z≠v)(k:∀s,f s=v→P (.str s)):P e:=by
 cases e with
 |str a=>exact k a h
 |_=>exact absurd h hz
end
theorem ne1{α β:Type}{a c:α}{b d:β}(h:a≠c):(a,b)≠(c,d):=fun e=>h (congrArg Prod.fst e)
theorem ne2{α β:Type}{a c:α}{b d:β}(h:b≠d):(a,b)≠(c,d):=fun e=>h (congrArg Prod.snd e)
theorem nem{α:Type}{a:α}:¬a∈([]:List α):=List.not_mem_nil
theorem m1{α:Type}{a:α}:a∈[a]:=List.mem_singleton.mpr rfl
theorem ff:false≠true:=Bool.false_ne_true
theorem nn{β:Type}{x:β}:none≠some x:=(Option.some_ne_none x).symm
theorem ite_some{β:Type}{c:Prop} [Decidable c]{x y:β}(h:(if c then some x else none)=some y):c∧x=y:=by
 by_cases q:c
 ·rw[if_pos q] at h;exact⟨q,Option.some.inj h⟩
 ·rw[if_neg q] at h;exact absurd h nn
noncomputable abbrev MH:=Addr→Option MO
noncomputable def upd{α β:Type} [DecidableEq α](f:α→β)(a:α)(b:β):α→β:=fun x=>if x=a then b else f x
theorem aj{α β:Type} [DecidableEq α](f:α→β)(a:α)(b:β):upd f a b a=b:=by simp[upd]
theorem af{α β:Type} [DecidableEq α](f:α→β){a x:α}(b:β)(h:x≠a):upd f a b x=f x:=by simp[upd,h]
noncomputable abbrev ao:=String→Option MV
noncomputable abbrev Pst:=MV→MH→Prop
noncomputable abbrev Exc:=MH→Prop
inductive MOp where
 |add |sub |fdiv |mod |mul
inductive MCmp where
 |lt |gt |eq |ne
inductive BM where
 |append |pop |popAt |extend |insert |index |remove |dget |dpop |join
set_option genCtorIdx false in
mutual
inductive ME where
 |var (x:String)
 |cst (v:MV)
 |glob (x:String) (v:MV)
 |attr (e:ME) (n:String)
 |item (e i:ME)
 |rev (e:ME)
 |init (e:ME)
 |bin (op:MOp) (l r:ME)
 |neg (e:ME)
 |cmp (op:MCmp) (l r:ME)
 |isNone (b:Bool) (e:ME)
 |isIn (l r:ME)
 |neNil (b:Bool) (e:ME)
 |boolop (isAnd:Bool) (l r:ME)
 |ite (c t e:ME)
 |call (f:ME) (args:MEs)
 |meth (C:Addr) (f:Addr) (e:ME) (n:String) (args:MEs)
 |new (C:Addr) (f:Addr) (x:String) (args:MEs)
 |len (e:ME)
 |sum (e:ME)
 |strOf (e:ME)
 |listOf (e:ME)
 |bm (n:BM) (e:ME) (args:MEs)
 |tuple (es:MEs)
 |list (es:MEs)
 |dict (ks:List String) (vs:MEs)
 |dict0
 |fstr (ps:MEs)
 |ladd (l r:ME)
 |comp (x g:String) (a:Addr) (y:String) (src:ME)
 |compIf (x:String) (k w:Str) (src:ME)
 |dead
inductive MEs where
 |nil
 |cons (e:ME) (r:MEs)
end
set_option genCtorIdx false in
inductive MT where
 |name (x:String)
 |attr (e:ME) (n:String)
 |item (e i:ME)
set_option genCtorIdx false in
mutual
inductive MS where
 |assign (t:MT) (e:ME)
 |assignC (x:String) (e:ME)
 |multi (ts:List MT) (es:MEs)
 |unpack (ts:List MT) (e:ME)
 |sliceSet (l i j e:ME)
 |expr (e:ME)
 |ret (e:ME)
 |retNone
 |ite (c:ME) (a b:MSs)
 |while (c:ME) (b:MSs)
 |for (x:String) (e:ME) (b:MSs)
 |forRange (x:String) (es:MEs) (b:MSs)
 |raise
 |tryS (e:ME) (x y:String)
 |dead
inductive MSs where
 |nil
 |cons (s:MS) (r:MSs)
end
noncomputable def LIM:Nat:=10000
noncomputable def pyIdx(i:Int)(n:Nat):Option Nat:=if LIM≤n then none else if 0≤i∧i < n then some i.toNat else if -(n:Int)≤i∧i < 0 then some (i+n).toNat else none
noncomputable def attrO(n:String)(o:MO):Option MV:=MO.rec (fun _=>none) (fun _=>none) (fun _ _=>none) (fun _ _=>none) (fun _ f _=>f n) o
noncomputable def attrOf(μ:MH)(v:MV)(n:String):Option MV:=onRefV v none fun a=> (μ a).bind (attrO n)
theorem bo{α β:Type}{o:Option α}{f:α→Option β}{x:α}(h:o=some x):o.bind f=f x:=by rw[h];rfl
theorem attr_at{μ:MH}{a C:Addr}{f:String→Option MV}{k:Nat}{n:String}(h:μ a=some (.inst C f k)):attrOf μ (.ref a) n=f n:=bo h
@[elab_as_elim]theorem attrOf_elim{μ:MH}{n:String}{w:MV}{P:MV→Prop}{v:MV}(h:attrOf μ v n=some w)(k:∀a C f j,μ a=some (.inst C f j)→f n=some w→P (.ref a)):P v:=by
 refine onRefV_elim h nn fun a h=> ?_
 refine q17 (Option.bind_eq_some_iff.mp h) fun o e h=> ?_
 cases o with
 |inst C f j=>exact k a C f j e h
 |_=>exact absurd h nn
noncomputable def getM(o:MO)(k:MV):Option MV:=MO.rec (fun xs=>onIntV k none fun i=> (pyIdx i xs.length).bind fun j=>xs[j]?) (fun xs=>onIntV k none fun i=> (pyIdx i xs.length).bind fun j=>xs[j]?)
 (fun f _=>onIntV k none f) (fun f _=>onStrV k none f) (fun _ _ _=>none) o
noncomputable def itemOf(μ:MH)(v k:MV):Option MV:=onRefV v none fun a=> (μ a).bind fun o=>getM o k
theorem item_of{μ:MH}{a:Addr}{o:MO}{k:MV}(h:μ a=some o):itemOf μ (.ref a) k=getM o k:=by
 show(μ a).bind _=_
 rw[h];rfl
theorem item_at{μ:MH}{a:Addr}{xs:List MV}(h:μ a=some (.list xs)){i:Int}{n:Nat}{v:MV}(e:pyIdx i xs.length=some n)(hv:xs[n]? =some v):itemOf μ (.ref a) (.int i)=some v:=by
 rw[item_of h]
 show(pyIdx i xs.length).bind _=_
 rw[e];exact hv
theorem pyIdx_nat{n l:Nat}(h:n < l)(hl:l < LIM):pyIdx n l=some n:=by
 unfold pyIdx
 rw[if_neg (by lia),if_pos ⟨by lia,by lia⟩,Int.toNat_natCast]
theorem item_list{μ:MH}{a:Addr}{xs:List MV}(h:μ a=some (.list xs)){n:Nat}{v:MV}(hv:xs[n]? =some v)(hl:xs.length < LIM):itemOf μ (.ref a) (.int n)=some v:=
 item_at h (pyIdx_nat (List.getElem?_eq_some_iff.mp hv).1 hl) hv
theorem ne_nb{μ:MH}{a b:Addr}{o:MO}(h:μ a=some o)(hb:μ b=none):a≠b:=fun e=>by rw[e,hb] at h;exact absurd h nn
noncomputable def listO(o:MO):Option (List MV):=MO.rec some (fun _=>none) (fun _ _=>none) (fun _ _=>none) (fun _ _ _=>none) o
noncomputable def listAt(μ:MH)(v:MV):Option (List MV):=onRefV v none fun a=> (μ a).bind listO
theorem aE{μ:MH}{a:Addr}{xs:List MV}(h:μ a=some (.list xs)):listAt μ (.ref a)=some xs:=bo h
@[elab_as_elim]theorem listAt_elim{μ:MH}{xs:List MV}{P:MV→Prop}{v:MV}(h:listAt μ v=some xs)(k:∀a,μ a=some (.list xs)→P (.ref a)):P v:=by
 refine onRefV_elim h nn fun a h=> ?_
 refine q17 (Option.bind_eq_some_iff.mp h) fun o e h=> ?_
 cases o with
 |list ys=>exact k a (e.trans (congrArg (fun l=>some (MO.list l)) (Option.some.inj h)))
 |_=>exact absurd h nn
noncomputable def seqO(o:MO):Option (List MV):=MO.rec some some (fun _ _=>none) (fun _ _=>none) (fun _ _ _=>none) o
noncomputable def seqAt(μ:MH)(v:MV):Option (List MV):=onRefV v none fun a=> (μ a).bind seqO
@[elab_as_elim]theorem seqAt_elim{μ:MH}{xs:List MV}{P:MV→Prop}{v:MV}(h:seqAt μ v=some xs)(k:∀a,μ a=some (.list xs)→P (.ref a))(k':∀a,μ a=some (.tuple xs)→P (.ref a)):P v:=by
 refine onRefV_elim h nn fun a h=> ?_
 refine q17 (Option.bind_eq_some_iff.mp h) fun o e h=> ?_
 cases o with
 |list ys=>exact k a (e.trans (congrArg (fun l=>some (MO.list l)) (Option.some.inj h)))
 |tuple ys=>exact k' a (e.trans (congrArg (fun l=>some (MO.tuple l)) (Option.some.inj h)))
 |_=>exact absurd h nn
noncomputable def intOf(v:MV):Option Int:=onIntV v none some
theorem int_of{i:Int}:intOf (.int i)=some i:=rfl
noncomputable def strOfV(v:MV):Option Str:=onStrV v none some
theorem str_of{i:Str}:strOfV (.str i)=some i:=rfl
noncomputable def intsOf(xs:List MV):Option (List Int):=xs.mapM intOf
noncomputable def strsOf(xs:List MV):Option (List Str):=xs.mapM strOfV
noncomputable def itext(i:Int):Str:=Str.ofString (toString i)
noncomputable def small(i:Int):Bool:=decide (-1000000000 < i∧i < 1000000000)
noncomputable def binII(op:MOp)(a b:Int):Option MV:=MOp.rec (some (.int (a+b))) (some (.int (a - b))) (if 0 < b∧b < 1000000000 then some (.int (Int.fdiv a b)) else none) (if 0 < b∧b < 1000000000 then some (.int (Int.fmod a b)) else none) none op
noncomputable def binSS(op:MOp)(a b:Str):Option MV:=MOp.rec (if a.length+b.length≤1000000 then some (.str (a++b)) else none) none none none none op
noncomputable def binSI(op:MOp)(a:Str)(n:Int):Option MV:=MOp.rec none none none none (if 0≤n∧n≤1000∧a.length=1 then some (.str (PySem.Txt.mul a n)) else none) op
noncomputable def binOf(op:MOp)(l r:MV):Option MV:=MV.rec none (fun _=>none) (fun a=>onIntV r none (binII op a)) (fun a=>MV.rec none (fun _=>none) (binSI op a) (binSS op a) (fun _=>none) r) (fun _=>none) l
noncomputable def cmpII(op:MCmp)(a b:Int):Bool:=MCmp.rec (decide (a < b)) (decide (a > b)) (decide (a=b)) (!decide (a=b)) op
noncomputable def cmpSS(op:MCmp)(a b:Str):Option Bool:=MCmp.rec none none (some (a==b)) (some (!(a==b))) op
noncomputable def cmpOf(op:MCmp)(l r:MV):Option Bool:=MV.rec none (fun _=>none) (fun a=>onIntV r none fun b=>some (cmpII op a b)) (fun a=>onStrV r none (cmpSS op a)) (fun _=>none) l
noncomputable def isNoneV(v:MV):Bool:=MV.rec true (fun _=>false) (fun _=>false) (fun _=>false) (fun _=>false) v
theorem none_n:isNoneV .none=true:=rfl
theorem none_i{i:Int}:isNoneV (.int i)=false:=rfl
theorem none_r{i:Addr}:isNoneV (.ref i)=false:=rfl
noncomputable def cnt(k:Nat)(w:Option MV):Nat:=Option.rec (k+1) (fun _=>k) w
noncomputable def setAttrO(μ:MH)(a:Addr)(n:String)(v:MV)(o:MO):Option MH:=MO.rec (fun _=>none) (fun _=>none) (fun _ _=>none) (fun _ _=>none) (fun C f k=>if k < 900 then some (upd μ a (some (.inst C (upd f n (some v)) (cnt k (f n))))) else none) o
noncomputable def setAttrM(μ:MH)(o:MV)(n:String)(v:MV):Option MH:=onRefV o none fun a=> (μ a).bind (setAttrO μ a n v)
theorem setAttr_at{μ:MH}{a C:Addr}{f:String→Option MV}{k j:Nat}{n:String}{v:MV}(h:μ a=some (.inst C f k))(hk:k < 900)(hj:cnt k (f n)=j):setAttrM μ (.ref a) n v=some (upd μ a (some (.inst C (upd f n (some v)) j))):=
 (bo h).trans ((if_pos hk).trans (by rw[hj]))
theorem cnt_s{k:Nat}{o:Option MV}{w:MV}(h:o=some w):cnt k o=k:=by rw[h];rfl
theorem cnt_n{k:Nat}{o:Option MV}(h:o=none):cnt k o=k+1:=by rw[h];rfl
noncomputable def setItemO(μ:MH)(a:Addr)(k v:MV)(o:MO):Option MH:=MO.rec
 (fun xs=>onIntV k none fun i=>if 0≤i∧i < xs.length∧xs.length < LIM then some (upd μ a (some (.list (xs.set i.toNat v)))) else none) (fun _=>none)
 (fun f n=>onIntV k none fun i=>if n < 10000 then some (upd μ a (some (.idict (upd f i (some v)) (n+1)))) else none)
 (fun f n=>onStrV k none fun s=>if n < 10000 then some (upd μ a (some (.sdict (upd f s (some v)) (n+1)))) else none) (fun _ _ _=>none) o
noncomputable def setItemM(μ:MH)(o k v:MV):Option MH:=onRefV o none fun a=> (μ a).bind (setItemO μ a k v)
theorem setItem_of{μ:MH}{a:Addr}{o:MO}{k v:MV}(h:μ a=some o):setItemM μ (.ref a) k v=setItemO μ a k v o:=by
 show(μ a).bind _=_
 rw[h];rfl
noncomputable def sumLen(ts:List Str):Nat:=(ts.map (·.length)).sum
noncomputable def sdictOf:List (Str×MV)→Str→Option MV
 | [],_=>none
 |(k,v)::r,s=>if s=k then some v else sdictOf r s
noncomputable def refP(v:MV)(f:Addr→Prop):Prop:=MV.rec False (fun _=>False) (fun _=>False) (fun _=>False) f v
noncomputable def intP(v:MV)(f:Int→Prop):Prop:=MV.rec False (fun _=>False) f (fun _=>False) (fun _=>False) v
noncomputable def strP(v:MV)(f:Str→Prop):Prop:=MV.rec False (fun _=>False) (fun _=>False) f (fun _=>False) v
noncomputable def noneP(v:MV)(p:Prop):Prop:=MV.rec p (fun _=>False) (fun _=>False) (fun _=>False) (fun _=>False) v
noncomputable def nilP(vs:List MV)(p:Prop):Prop:=List.rec p (fun _ _ _=>False) vs
noncomputable def consP(vs:List MV)(f:MV→List MV→Prop):Prop:=List.rec False (fun v r _=>f v r) vs
noncomputable def oneP(vs:List MV)(f:MV→Prop):Prop:=consP vs fun v r=>nilP r (f v)
noncomputable def twoP(vs:List MV)(f:MV→MV→Prop):Prop:=consP vs fun v r=>oneP r (f v)
noncomputable def bmP(n:BM)(v:MV)(vs:List MV)(μ:MH)(Φ:Pst):Prop:=match n with
 | .append=>refP v fun a=>oneP vs fun x=> ∃xs,listAt μ (.ref a)=some xs∧xs.length < LIM∧Φ .none (upd μ a (some (.list (xs++ [x]))))
 | .pop=>refP v fun a=>nilP vs (∃xs y,listAt μ (.ref a)=some xs∧xs.length < LIM∧xs.getLast?=some y∧Φ y (upd μ a (some (.list xs.dropLast))))
 | .popAt=>refP v fun a=>oneP vs fun x=>intP x fun i=> ∃xs j y,listAt μ (.ref a)=some xs∧xs.length < LIM∧pyIdx i xs.length=some j∧xs[j]? =some y∧Φ y (upd μ a (some (.list (xs.eraseIdx j))))
 | .extend=>refP v fun a=>oneP vs fun x=>refP x fun b=> ∃xs ys,listAt μ (.ref a)=some xs∧listAt μ (.ref b)=some ys∧xs.length < LIM∧ys.length < LIM∧Φ .none (upd μ a (some (.list (xs++ys))))
 | .insert=>refP v fun a=>twoP vs fun x y=>intP x fun i=> ∃xs,listAt μ (.ref a)=some xs∧xs.length < LIM∧0≤i∧i≤xs.length∧Φ .none (upd μ a (some (.list (xs.take i.toNat++y::xs.drop i.toNat))))
 | .index=>refP v fun a=>oneP vs fun x=>intP x fun k=> ∃xs is,listAt μ (.ref a)=some xs∧xs.length < LIM∧intsOf xs=some is∧k∈is∧Φ (.int (is.idxOf k)) μ
 | .remove=>refP v fun a=>oneP vs fun x=>intP x fun k=> ∃xs is,listAt μ (.ref a)=some xs∧xs.length < LIM∧intsOf xs=some is∧k∈is∧Φ .none (upd μ a (some (.list (xs.eraseIdx (is.idxOf k)))))
 | .dget=>refP v fun a=>twoP vs fun x y=>intP x fun k=>noneP y (∃w,itemOf μ (.ref a) (.int k)=some w∧(∃f n,μ a=some (.idict f n))∧Φ w μ)
 | .dpop=>refP v fun a=>oneP vs fun x=>intP x fun k=> ∃f n w,μ a=some (.idict f n)∧n < 10000∧f k=some w∧Φ w (upd μ a (some (.idict (upd f k none) n)))
 | .join=>strP v fun s=>oneP vs fun x=>refP x fun b=> ∃xs ts,listAt μ (.ref b)=some xs∧strsOf xs=some ts∧xs.length < LIM∧sumLen ts≤1000000∧s.length≤10∧Φ (.str (PySem.Txt.join s ts)) μ
noncomputable def dictO(o:MO):Option Unit:=MO.rec (fun _=>none) (fun _=>none) (fun _ _=>some ()) (fun _ _=>none) (fun _ _ _=>none) o
noncomputable def dictAt(μ:MH)(v:MV):Bool:=onRefV v false fun a=> ((μ a).bind dictO).isSome
theorem dict_at{μ:MH}{a:Addr}{f:Int→Option MV}{n:Nat}(h:μ a=some (.idict f n)):dictAt μ (.ref a)=true:=congrArg Option.isSome (bo h)
noncomputable def isStrV(v:MV):Bool:=onStrV v false fun _=>true
noncomputable def bmOk(n:BM)(v:MV)(μ:MH):Bool:=(fun l d:Bool=>BM.rec (motive:=fun _=>Bool) l l l l l l l d d (isStrV v) n) (listAt μ v).isSome (dictAt μ v)
noncomputable abbrev aB:=Addr→List MV→MH→Pst→Exc→Prop
section
variable(C:aB)
noncomputable def cmpG(s:Addr)(T:MV→MH→(MH→Prop)→Prop)(Φ:MH→Prop):Nat→Nat→MH→Prop
 | 0,_,_=>False
 |k+1,i,μ=> ∃xs,μ s=some (.list xs)∧match xs[i]? with
  |none=>Φ μ
  |some x=>T x μ fun μ=>cmpG s T Φ k (i+1) μ
noncomputable def addK(a:Addr)(w:Option MV)(K:MH→Prop)(μ:MH):Prop:=∃acc,μ a=some (.list acc)∧acc.length < LIM∧K (Option.rec μ (fun w=>upd μ a (some (.list (acc++ [w])))) w)
noncomputable def tEl(ρ:ao)(g:Addr)(y:String)(a:Addr)(v:MV)(μ:MH)(K:MH→Prop):Prop:=∃w,ρ y=some w∧C g [v,w] μ (fun w μ=>addK a (some w) K μ) (fun u_=>False)
noncomputable def tIf(k w:Str)(a:Addr)(v:MV)(μ:MH)(K:MH→Prop):Prop:=∃u,itemOf μ v (.str k)=some u∧∃c,cmpOf .ne u (.str w)=some c∧addK a (Bool.rec none (some v) c) K μ
noncomputable def evC(T:Addr→MV→MH→(MH→Prop)→Prop)(Φ:Pst)(v:MV)(μ:MH):Prop:=∃s k xs,v= .ref s∧μ s=some (.list xs)∧∀a,μ a=none→cmpG s (T a) (fun μ=>Φ (.ref a) μ) k 0 (upd μ a (some (.list [])))
mutual
noncomputable def evE(ρ:ao):ME→MH→Pst→Exc→Prop
 | .var x,μ,Φ,_=> ∃v,ρ x=some v∧Φ v μ
 | .cst v,μ,Φ,_=>Φ v μ
 | .glob _ v,μ,Φ,_=>Φ v μ
 | .attr e n,μ,Φ,Ψ=>evE ρ e μ (fun v μ=> ∃w,attrOf μ v n=some w∧Φ w μ) Ψ
 | .item e i,μ,Φ,Ψ=>evE ρ e μ (fun v μ=>evE ρ i μ (fun k μ=> ∃w,itemOf μ v k=some w∧Φ w μ) Ψ) Ψ
 | .rev e,μ,Φ,Ψ=>evE ρ e μ (fun v μ=> ∃xs,listAt μ v=some xs∧xs.length < LIM∧∀a,μ a=none→Φ (.ref a) (upd μ a (some (.list xs.reverse)))) Ψ
 | .init e,μ,Φ,Ψ=>evE ρ e μ (fun v μ=> ∃xs,listAt μ v=some xs∧xs.length < LIM∧∀a,μ a=none→Φ (.ref a) (upd μ a (some (.list xs.dropLast)))) Ψ
 | .bin op l r,μ,Φ,Ψ=>evE ρ l μ (fun x μ=>evE ρ r μ (fun y μ=> ∃w,binOf op x y=some w∧Φ w μ) Ψ) Ψ
 | .neg e,μ,Φ,Ψ=>evE ρ e μ (fun v μ=> ∃i,intOf v=some i∧Φ (.int (-i)) μ) Ψ
 | .cmp op l r,μ,Φ,Ψ=>evE ρ l μ (fun x μ=>evE ρ r μ (fun y μ=> ∃b,cmpOf op x y=some b∧Φ (.bool b) μ) Ψ) Ψ
 | .isNone b e,μ,Φ,Ψ=>evE ρ e μ (fun v μ=>Φ (.bool (isNoneV v==b)) μ) Ψ
 | .isIn l r,μ,Φ,Ψ=>evE ρ l μ (fun x μ=>evE ρ r μ (fun y μ=> ∃k xs is,intOf x=some k∧listAt μ y=some xs∧intsOf xs=some is∧Φ (.bool (decide (k∈is))) μ) Ψ) Ψ
 | .neNil b e,μ,Φ,Ψ=>evE ρ e μ (fun v μ=> ∃xs,listAt μ v=some xs∧Φ (.bool (xs.isEmpty==b)) μ) Ψ
 | .boolop c l r,μ,Φ,Ψ=>evE ρ l μ (fun v μ=> ∃b,v= .bool b∧if b=c then evE ρ r μ Φ Ψ else Φ (.bool b) μ) Ψ
 | .ite c t e,μ,Φ,Ψ=>evE ρ c μ (fun v μ=> ∃b,v= .bool b∧if b then evE ρ t μ Φ Ψ else evE ρ e μ Φ Ψ) Ψ
 | .call f as,μ,Φ,Ψ=>evE ρ f μ (fun v μ=>evEs ρ as μ (fun vs μ=> ∃a,v= .ref a∧C a vs μ Φ Ψ) Ψ) Ψ
 | .meth K f e n as,μ,Φ,Ψ=>evE ρ e μ (fun v μ=> ∃a g k,v= .ref a∧μ a=some (.inst K g k)∧g n=none∧evEs ρ as μ (fun vs μ=>C f (v::vs) μ Φ Ψ) Ψ) Ψ
 | .new K f _ as,μ,Φ,Ψ=>evEs ρ as μ (fun vs μ=> ∀a,μ a=none→C f (.ref a::vs) (upd μ a (some (.inst K (fun u_=>none) 0))) (fun v μ=>v= .none∧Φ (.ref a) μ) Ψ) Ψ
 | .len e,μ,Φ,Ψ=>evE ρ e μ (fun v μ=> ∃xs,listAt μ v=some xs∧xs.length < LIM∧Φ (.int xs.length) μ) Ψ
 | .sum e,μ,Φ,Ψ=>evE ρ e μ (fun v μ=> ∃xs is,listAt μ v=some xs∧xs.length < LIM∧intsOf xs=some is∧Φ (.int is.sum) μ) Ψ
 | .strOf e,μ,Φ,Ψ=>evE ρ e μ (fun v μ=> ∃i,intOf v=some i∧small i=true∧Φ (.str (itext i)) μ) Ψ
 | .listOf e,μ,Φ,Ψ=>evE ρ e μ (fun v μ=> ∃xs,listAt μ v=some xs∧xs.length < LIM∧∀a,μ a=none→Φ (.ref a) (upd μ a (some (.list xs)))) Ψ
 | .bm n e as,μ,Φ,Ψ=>evE ρ e μ (fun v μ=>bmOk n v μ=true∧evEs ρ as μ (fun vs μ=>bmP n v vs μ Φ) Ψ) Ψ
 | .tuple es,μ,Φ,Ψ=>evEs ρ es μ (fun vs μ=>vs.length < LIM∧∀a,μ a=none→Φ (.ref a) (upd μ a (some (.tuple vs)))) Ψ
 | .list es,μ,Φ,Ψ=>evEs ρ es μ (fun vs μ=>vs.length < LIM∧∀a,μ a=none→Φ (.ref a) (upd μ a (some (.list vs)))) Ψ
 | .dict ks es,μ,Φ,Ψ=> ∀a,μ a=none→evEs ρ es (upd μ a (some (.sdict (fun u_=>none) 0))) (fun vs μ=> (∃g,μ a=some (.sdict g 0))∧Φ (.ref a) (upd μ a (some (.sdict (sdictOf ((ks.map Str.ofString).zip vs)) ks.length)))) Ψ
 | .dict0,μ,Φ,_=> ∀a,μ a=none→Φ (.ref a) (upd μ a (some (.idict (fun u_=>none) 0)))
 | .fstr ps,μ,Φ,Ψ=>evFs ρ ps (Str.ofString "") μ (fun x μ=>Φ (.str x) μ) Ψ
 | .ladd l r,μ,Φ,Ψ=>evE ρ l μ (fun x μ=>evE ρ r μ (fun y μ=> ∃xs ys,listAt μ x=some xs∧listAt μ y=some ys∧xs.length < LIM∧ys.length < LIM∧∀a,μ a=none→Φ (.ref a) (upd μ a (some (.list (xs++ys))))) Ψ) Ψ
 | .comp _ _ g y src,μ,Φ,Ψ=>evE ρ src μ (evC (tEl C ρ g y) Φ) Ψ
 | .compIf _ k w src,μ,Φ,Ψ=>evE ρ src μ (evC (tIf k w) Φ) Ψ
 | .dead,_,_,_=>False
noncomputable def evEs(ρ:ao):MEs→MH→(List MV→MH→Prop)→Exc→Prop
 | .nil,μ,Φ,_=>Φ [] μ
 | .cons e r,μ,Φ,Ψ=>evE ρ e μ (fun v μ=>evEs ρ r μ (fun vs μ=>Φ (v::vs) μ) Ψ) Ψ
noncomputable def evFs(ρ:ao):MEs→Str→MH→(Str→MH→Prop)→Exc→Prop
 | .nil,out,μ,Φ,_=>Φ out μ
 | .cons e r,out,μ,Φ,Ψ=>match e with
  | .cst (.str b)=>evFs ρ r (out++b) μ Φ Ψ
  |e=>evE ρ e μ (fun v μ=> ∃i,intOf v=some i∧small i=true∧evFs ρ r (out++itext i) μ Φ Ψ) Ψ
end
set_option genCtorIdx false in
inductive MFl where
 |next
 |ret (v:MV)
noncomputable abbrev FPst:=MFl→ao→MH→Prop
noncomputable def asg(ρ:ao)(t:MT)(v:MV)(μ:MH)(Φ:ao→MH→Prop)(Ψ:Exc):Prop:=match t with
 | .name x=>Φ (upd ρ x (some v)) μ
 | .attr e n=>evE C ρ e μ (fun o μ=> ∃μ',setAttrM μ o n v=some μ'∧Φ ρ μ') Ψ
 | .item e i=>evE C ρ e μ (fun o μ=>evE C ρ i μ (fun k μ=> ∃μ',setItemM μ o k v=some μ'∧Φ ρ μ') Ψ) Ψ
noncomputable def asgs:List MT→List MV→ao→MH→(ao→MH→Prop)→Exc→Prop
 | [],vs,ρ,μ,Φ,_=>nilP vs (Φ ρ μ)
 |t::ts,vs,ρ,μ,Φ,Ψ=>consP vs fun v vs=>asg C ρ t v μ (fun ρ μ=>asgs ts vs ρ μ Φ Ψ) Ψ
noncomputable def whK(test:ao→MH→Pst→Prop)(body:ao→MH→FPst→Prop)(Φ:FPst):Nat→ao→MH→Prop
 | 0,_,_=>False
 |k+1,ρ,μ=>test ρ μ fun v μ=> ∃b,v= .bool b∧if b then body ρ μ (fun fl ρ μ=>match fl with
   | .next=>whK test body Φ k ρ μ
   | .ret v=>Φ (.ret v) ρ μ) else Φ .next ρ μ
noncomputable def foK(a:Addr)(x:String)(body:ao→MH→FPst→Prop)(Φ:FPst):Nat→Nat→ao→MH→Prop
 | 0,_,_,_=>False
 |k+1,i,ρ,μ=> ∃xs,μ a=some (.list xs)∧match xs[i]? with
  |none=>Φ .next ρ μ
  |some v=>body (upd ρ x (some v)) μ (fun fl ρ μ=>match fl with
   | .next=>foK a x body Φ k (i+1) ρ μ
   | .ret v=>Φ (.ret v) ρ μ)
noncomputable def frK(x:String)(body:ao→MH→FPst→Prop)(Φ:FPst):List Int→ao→MH→Prop
 | [],ρ,μ=>Φ .next ρ μ
 |i::r,ρ,μ=>body (upd ρ x (some (.int i))) μ (fun fl ρ μ=>match fl with
   | .next=>frK x body Φ r ρ μ
   | .ret v=>Φ (.ret v) ρ μ)
noncomputable def ap(x st:Int):Nat→List Int
 | 0=> []
 |n+1=>x::ap (x+st) st n
noncomputable def rg1(n:Int):Option (List Int):=if n≤100∧0≤n then some (ap 0 1 n.toNat) else none
noncomputable def rg3(a b c:Int):Option (List Int):=if c= -1∧a≤100∧b= -1∧ -1≤a then some (ap a (-1) (a+1).toNat) else none
noncomputable def onConsV{α:Type}(l:List MV)(z:α)(f:MV→List MV→α):α:=List.rec z (fun x r _=>f x r) l
noncomputable def rangeOf(vs:List MV):Option (List Int):=onConsV vs none fun x r=>onIntV x none fun a=>List.rec (rg1 a) (fun y r _=>onIntV y none fun b=>onConsV r none fun w r=>onIntV w none fun c=>List.rec (rg3 a b c) (fun _ _ _=>none) r) r
theorem rangeOf_one{n:Int}(h:n≤100∧0≤n):rangeOf [.int n]=some (ap 0 1 n.toNat):=if_pos h
theorem rangeOf_back{a:Int}{m:Nat}(h:a≤100)(h': -1≤a)(e:(a+1).toNat=m):rangeOf [.int a, .int (-1), .int (-1)]=some (ap a (-1) m):=by
 subst e
 exact if_pos ⟨rfl,h,rfl,h'⟩
noncomputable def sliceP(v i j w:MV)(μ:MH)(Φ:MH→Prop):Prop:=refP v fun a=>intP i fun x=>intP j fun y=> ∃xs ys,listAt μ (.ref a)=some xs∧listAt μ w=some ys∧w≠ .ref a∧0≤x∧x≤y∧y≤xs.length∧xs.length < LIM∧ys.length < LIM∧Φ (upd μ a (some (.list (xs.take x.toNat++ys++xs.drop y.toNat))))
mutual
noncomputable def evS:MS→ao→MH→FPst→Exc→Prop
 | .assign t e,ρ,μ,Φ,Ψ=>evE C ρ e μ (fun v μ=>asg C ρ t v μ (fun ρ μ=>Φ .next ρ μ) Ψ) Ψ
 | .assignC x e,ρ,μ,Φ,Ψ=>evE C ρ e μ (fun v μ=>Φ .next (upd ρ x (some v)) μ) Ψ
 | .multi ts es,ρ,μ,Φ,Ψ=>evEs C ρ es μ (fun vs μ=>vs.length=ts.length∧asgs C ts vs ρ μ (fun ρ μ=>Φ .next ρ μ) Ψ) Ψ
 | .unpack ts e,ρ,μ,Φ,Ψ=>evE C ρ e μ (fun v μ=> ∃vs,seqAt μ v=some vs∧vs.length=ts.length∧asgs C ts vs ρ μ (fun ρ μ=>Φ .next ρ μ) Ψ) Ψ
 | .sliceSet l i j e,ρ,μ,Φ,Ψ=>evE C ρ e μ (fun w μ=>evE C ρ l μ (fun v μ=>evE C ρ i μ (fun x μ=>evE C ρ j μ (fun y μ=>sliceP v x y w μ (fun μ=>Φ .next ρ μ)) Ψ) Ψ) Ψ) Ψ
 | .expr e,ρ,μ,Φ,Ψ=>evE C ρ e μ (fun u_ μ=>Φ .next ρ μ) Ψ
 | .ret e,ρ,μ,Φ,Ψ=>evE C ρ e μ (fun v μ=>Φ (.ret v) ρ μ) Ψ
 | .retNone,ρ,μ,Φ,_=>Φ (.ret .none) ρ μ
 | .ite c a b,ρ,μ,Φ,Ψ=>evE C ρ c μ (fun v μ=> ∃x,v= .bool x∧if x then aA a ρ μ Φ Ψ else aA b ρ μ Φ Ψ) Ψ
 | .while c b,ρ,μ,Φ,_=> ∃k,whK (fun ρ μ Φ=>evE C ρ c μ Φ (fun u_=>False)) (fun ρ μ Φ=>aA b ρ μ Φ (fun u_=>False)) Φ k ρ μ
 | .for x e b,ρ,μ,Φ,Ψ=>evE C ρ e μ (fun v μ=> ∃a k,v= .ref a∧foK a x (fun ρ μ Φ=>aA b ρ μ Φ (fun u_=>False)) Φ k 0 ρ μ) Ψ
 | .forRange x es b,ρ,μ,Φ,Ψ=>evEs C ρ es μ (fun vs μ=> ∃is,rangeOf vs=some is∧frK x (fun ρ μ Φ=>aA b ρ μ Φ (fun u_=>False)) Φ is ρ μ) Ψ
 | .raise,_,μ,_,Ψ=>Ψ μ
 | .tryS e x y,ρ,μ,Φ,Ψ=>evE C ρ e μ (fun u_ μ=>Φ .next ρ μ) (fun μ=> ∃v w,ρ x=some v∧ρ y=some w∧Φ (.ret (if isNoneV w then v else .none)) ρ μ)
 | .dead,_,_,_,_=>False
noncomputable def aA:MSs→ao→MH→FPst→Exc→Prop
 | .nil,ρ,μ,Φ,_=>Φ .next ρ μ
 | .cons s r,ρ,μ,Φ,Ψ=>evS s ρ μ (fun fl ρ μ=>match fl with
   | .next=>aA r ρ μ Φ Ψ
   | .ret v=>Φ (.ret v) ρ μ) Ψ
end
end
set_option genInjectivity false in structure Fn where
 params:List String
 body:MSs
noncomputable def bindM:List String→List MV→ao
 | [],_=>fun u_=>none
 |p::ps,vs=>List.rec (fun u_=>none) (fun v vs _=>upd (bindM ps vs) p (some v)) vs
noncomputable def az(tab:Addr→Option Fn):Nat→aB
 | 0,_,_,_,_,_=>False
 |d+1,f,vs,μ,Φ,Ψ=> ∃fn,tab f=some fn∧vs.length=fn.params.length∧aA (az tab d) fn.body (bindM fn.params vs) μ (fun fl u_ μ=>match fl with
   | .next=>Φ .none μ
   | .ret v=>Φ v μ) Ψ
noncomputable abbrev pw:Program:=PySem.Challenge.pw_sq0003_01
noncomputable abbrev NL:=List (Addr×Obj)
noncomputable def VR:MV→Value→Prop
 | .none,u=>u= .none
 | .bool b,u=>u= .bool b
 | .int i,u=> ∃t,u= .int i t
 | .str s,u=> ∃t,u= .str s t
 | .ref a,u=>u= .ref a
inductive VRs:List MV→List Value→Prop
 |nil:VRs [] []
 |cons {v u vs us}:VR v u→VRs vs us→VRs (v::vs) (u::us)
theorem VRs.length{vs:List MV}{us:List Value}(h:VRs vs us):us.length=vs.length:=VRs.rec rfl (fun _ _ e=>congrArg Nat.succ e) h
theorem VRs.append{vs us vs' us'}(h:VRs vs us)(h':VRs vs' us'):VRs (vs++vs') (us++us'):=VRs.rec (motive:=fun vs us _=>VRs (vs++vs') (us++us')) h' (fun a _ e=> .cons a e) h
theorem VRs.get{vs us}{i:Nat}{v}(h:VRs vs us)(e:vs[i]? =some v):∃u,us[i]? =some u∧VR v u:=by
 induction h generalizing i with
 |nil=>exact absurd e nn
 |cons a r ih=>cases i with
  |zero=>exact⟨_,rfl,Option.some.inj e▸a⟩
  |succ i=>exact ih e
theorem VRs.getNone:∀{vs us} {i:Nat},VRs vs us→vs[i]? =none→us[i]? =none:=fun h e=>by
 rw[List.getElem?_eq_none_iff] at e⊢;rw[h.length];exact e
theorem VRs.split{vs us}(h:VRs vs us){i:Nat}{v}(e:vs[i]? =some v):∃p u q,us=p++u::q∧p.length=i∧VR v u∧VRs (vs.take i) p∧VRs (vs.drop (i+1)) q:=by
 induction h generalizing i with
 |nil=>simp at e
 |cons a r ih=>cases i with
  |zero=>simp at e;replace e:=e.symm;subst e;exact⟨[],_,_,rfl,rfl,a, .nil,r⟩
  |succ i=>
   obtain⟨p,u,q,rfl,hl,hv,h1,h2⟩:=ih (by simpa using e)
   exact⟨_::p,u,q,rfl,by simp[hl],hv, .cons a h1,h2⟩
theorem VRs.take{vs us}(h:VRs vs us)(i:Nat):VRs (vs.take i) (us.take i):=by
 induction h generalizing i with
 |nil=>cases i <;> exact .nil
 |cons a r ih=>cases i with
  |zero=>exact .nil
  |succ i=>exact .cons a (ih i)
theorem VRs.drop{vs us}(h:VRs vs us)(i:Nat):VRs (vs.drop i) (us.drop i):=by
 induction h generalizing i with
 |nil=>cases i <;> exact .nil
 |cons a r ih=>cases i with
  |zero=>exact .cons a r
  |succ i=>exact ih i
theorem VRs.reverse{vs us}(h:VRs vs us):VRs vs.reverse us.reverse:=by
 induction h with
 |nil=>exact .nil
 |cons a r ih=>simp only[List.reverse_cons];exact ih.append (.cons a .nil)
theorem VRs.set{vs us}(h:VRs vs us)(i:Nat){v u}(hv:VR v u):VRs (vs.set i v) (us.set i u):=by
 induction h generalizing i with
 |nil=>exact .nil
 |cons a r ih=>cases i with
  |zero=>exact .cons hv r
  |succ i=>exact .cons a (ih i)
theorem VRs.eraseIdx{vs us}(h:VRs vs us)(i:Nat):VRs (vs.eraseIdx i) (us.eraseIdx i):=by
 induction h generalizing i with
 |nil=>exact .nil
 |cons a r ih=>cases i with
  |zero=>exact r
  |succ i=>exact .cons a (ih i)
noncomputable abbrev tupOf(its:Array Value)(n:Nat):Obj:={cls:= .type "tuple",data:= .seq its n}
noncomputable def clsOk(C:Addr):Bool:=C==93 ||C==164
noncomputable def RepO(w:World)(dx:Addr→Addr)(news:NL)(a:Addr):MO→Prop
 | .list xs=> ∃vs n,(a,listOf vs.toArray n)∈news∧VRs xs vs
 | .tuple xs=> ∃vs n,(a,tupOf vs.toArray n)∈news∧VRs xs vs
 | .idict f n=> ∃o kvs,(a,o)∈news∧o.IsDictOf (intKind pw w) kvs∧kvs.length≤n∧∀k v,f k=some v→∃u,valueAt kvs k=some u∧VR v u
 | .sdict f n=> ∃o kvs,(a,o)∈news∧o.IsDictOf (strKind pw w) kvs∧kvs.length≤n∧∀k v,f k=some v→∃u,valueAt kvs k=some u∧VR v u
 | .inst C f n=> (a,instObj C (dx a))∈news∧clsOk C=true∧∃es e,(dx a,dictOf es e)∈news∧es.length≤n∧(∀e∈es,∃x t,e.key= .str x t)∧
   ∀x:String,match f x with
    |some v=> ∃u,getL (Str.ofString x) es=some (some u)∧VR v u
    |none=>getL (Str.ofString x) es=some none
noncomputable def isInst:MO→Bool
 | .inst .. =>true
 |_=>false
structure Rep(w:World)(rs:List Addr)(μ:MH)(news:NL):Prop where
 nodup:(news.map (·.1)).Nodup
 rsin:∀r∈rs,r∈news.map (·.1)
 ex:∃dx:Addr→Addr,(∀a o,μ a=some o→RepO w dx news a o)∧(∀a o,μ a=some o→isInst o=true→μ (dx a)=none)∧
  (∀a b o o',μ a=some o→μ b=some o'→isInst o=true→isInst o'=true→dx a=dx b→a=b)∧
  ∀a o,μ a=some o→a∉rs∧(isInst o=true→dx a∉rs)
structure Foreign(o:Obj):Prop where
 seq:∀xs n,o.data≠ .seq xs n
 dict:∀es n,o.data≠ .dict es n
 plain:o.data≠ .plain
noncomputable def putE(news:NL)(d:Addr)(o:Obj):NL:=news.map fun p=>if p.1=d then(d,o) else p
theorem put_keys(news:NL)(d:Addr)(o:Obj):(putE news d o).map (·.1)=news.map (·.1):=by
 unfold putE
 rw[List.map_map]
 apply List.map_congr_left
 intro p _
 show(if p.1=d then(d,o) else p).1=p.1
 split
 ·rename_i h;exact h.symm
 ·rfl
theorem mem_put_ne{news:NL}{d:Addr}{o:Obj}{p:Addr×Obj}(h:p∈news)(hn:p.1≠d):p∈putE news d o:=
 List.mem_map.mpr ⟨p,h,((if_neg hn))⟩
theorem mem_put_same{news:NL}{d:Addr}{o o':Obj}(h:(d,o)∈news):(d,o')∈putE news d o':=
 List.mem_map.mpr ⟨(d,o),h,by simp⟩
theorem put_off{news:NL}{d:Addr}{o:Obj}(h:∀p∈news,p.1≠d):putE news d o=news:=by
 unfold putE
 conv=>rhs;rw[←List.map_id news]
 apply List.map_congr_left
 intro p hp
 rw[if_neg (h p hp)];rfl
theorem uniq{news:NL}(hn:(news.map (·.1)).Nodup){p q:Addr×Obj}(hp:p∈news)(hq:q∈news)(e:p.1=q.1):p=q:=by
 induction news with
 |nil=>exact absurd hp (by simp)
 |cons r l ih=>
  simp only[List.map_cons,List.nodup_cons] at hn
  rcases List.mem_cons.mp hp with e1 |hp'
  ·rcases List.mem_cons.mp hq with e2 |hq'
   ·exact e1.trans e2.symm
   ·exact(hn.1 (List.mem_map.mpr ⟨q,hq',by rw[←e1,e]⟩)).elim
  ·rcases List.mem_cons.mp hq with e2 |hq'
   ·exact(hn.1 (List.mem_map.mpr ⟨p,hp',by rw[←e2,e]⟩)).elim
   ·exact ih hn.2 hp' hq'
theorem upd_put{news:NL}(hn:(news.map (·.1)).Nodup){d:Addr}{o o':Obj}(h:(d,o)∈news):Upd d o o' news (putE news d o'):=by
 induction news with
 |nil=>exact absurd h (by simp)
 |cons r l ih=>
  simp only[List.map_cons,List.nodup_cons] at hn
  by_cases hr:r.1=d
  ·rcases List.mem_cons.mp h with rfl |h
   ·have off:∀p∈l,p.1≠d:=fun p hp e=>hn.1 (List.mem_map.mpr ⟨p,hp,e⟩)
    have:putE ((d,o)::l) d o'=(d,o')::l:=by
     show(if(d,o).1=d then(d,o') else(d,o))::putE l d o'=_
     rw[put_off off,if_pos rfl]
    rw[this];exact .head off
   ·exact absurd (List.mem_map.mpr ⟨_,h,hr.symm⟩) hn.1
  ·have:putE (r::l) d o'=r::putE l d o':=by
    show(if r.1=d then(d,o') else r)::putE l d o'=_
    rw[if_neg hr]
   rw[this]
   rcases List.mem_cons.mp h with rfl |h
   ·exact absurd rfl hr
   ·exact .tail hr (ih hn.2 h)
theorem updF_put{news:NL}(hn:(news.map (·.1)).Nodup){d:Addr}{o:Obj}(h:(d,o)∈news):UpdF d o news (putE news d):=by
 induction news with
 |nil=>exact absurd h (by simp)
 |cons r l ih=>
  simp only[List.map_cons,List.nodup_cons] at hn
  by_cases hr:r.1=d
  ·rcases List.mem_cons.mp h with rfl |h
   ·have off:∀p∈l,p.1≠d:=fun p hp e=>hn.1 (List.mem_map.mpr ⟨p,hp,e⟩)
    have:putE ((d,o)::l) d=fun o'=> (d,o')::l:=by
     funext o'
     show(if(d,o).1=d then(d,o') else(d,o))::putE l d o'=_
     rw[put_off off,if_pos rfl]
    rw[this];exact .head off
   ·exact absurd (List.mem_map.mpr ⟨_,h,hr.symm⟩) hn.1
  ·have:putE (r::l) d=fun o'=>r::putE l d o':=by
    funext o'
    show(if r.1=d then(d,o') else r)::putE l d o'=_
    rw[if_neg hr]
   rw[this]
   rcases List.mem_cons.mp h with rfl |h
   ·exact absurd rfl hr
   ·exact .tail hr (ih hn.2 h)
theorem RepO.mem{w:World}{dx:Addr→Addr}{news:NL}{a:Addr}{o:MO}(h:RepO w dx news a o):∃ob,(a,ob)∈news:=by
 cases o with
 |list xs=>obtain⟨vs,n,h,_⟩:=h;exact⟨_,h⟩
 |tuple xs=>obtain⟨vs,n,h,_⟩:=h;exact⟨_,h⟩
 |idict f n=>obtain⟨o,kvs,h,_⟩:=h;exact⟨_,h⟩
 |sdict f n=>obtain⟨o,kvs,h,_⟩:=h;exact⟨_,h⟩
 |inst C f n=>exact⟨_,h.1⟩
theorem Rep.fresh{w:World}{rs:List Addr}{μ:MH}{news:NL}(R:Rep w rs μ news){q:Addr}(hq:∀p∈news,p.1≠q):μ q=none:=by
 refine q17 R.ex fun dx h u_=> ?_
 cases e:μ q with
 |none=>rfl
 |some o=>obtain⟨ob,hm⟩:=(h q o e).mem;exact absurd rfl (hq _ hm)
theorem RepO.mono{w:World}{dx dx':Addr→Addr}{news news':NL}{a:Addr}{o:MO}(h:RepO w dx news a o)(h1:∀ob,(a,ob)∈news→(a,ob)∈news')
  (h2:isInst o=true→dx' a=dx a∧∀ob,(dx a,ob)∈news→(dx a,ob)∈news'):RepO w dx' news' a o:=by
 cases o with
 |list xs=>obtain⟨vs,n,h,r⟩:=h;exact⟨vs,n,h1 _ h,r⟩
 |tuple xs=>obtain⟨vs,n,h,r⟩:=h;exact⟨vs,n,h1 _ h,r⟩
 |idict f n=>obtain⟨o,kvs,h,r⟩:=h;exact⟨o,kvs,h1 _ h,r⟩
 |sdict f n=>obtain⟨o,kvs,h,r⟩:=h;exact⟨o,kvs,h1 _ h,r⟩
 |inst C f n=>
  refine q30 h fun h hc es e h' r=> ?_
  refine q0 (h2 rfl) fun e1 e2=> ?_
  refine⟨?_,hc,es,e,?_,r⟩
  ·rw[e1];exact h1 _ h
  ·rw[e1];exact e2 _ h'
theorem Rep.chg{w:World}{rs:List Addr}{μ:MH}{news:NL}(R:Rep w rs μ news){a:Addr}{ob ob':Obj}{o o':MO}(hm:μ a=some o)(_hi:isInst o=false)(hi':isInst o'=false)
  (hr:∀dx news',(a,ob')∈news'→RepO w dx news' a o') (hob:(a,ob)∈news):Rep w rs (upd μ a (some o')) (putE news a ob'):=by
 refine q23 R.ex fun dx h1 h2 h3 h4=> ?_
 have one:∀b x,upd μ a (some o') b=some x→(b=a∧x=o')∨(b≠a∧μ b=some x):=fun b x e=>by
  unfold upd at e
  split at e
  ·rename_i hb;obtain rfl:=Option.some.inj e;exact .inl ⟨hb,rfl⟩
  ·rename_i hb;exact .inr ⟨hb,e⟩
 refine⟨by rw[put_keys];exact R.nodup,by rw[put_keys];exact R.rsin,dx,fun b x e=> ?_,fun b x e i=> ?_,fun b c x y e1 e2 i1 i2=> ?_,fun b x e=> ?_⟩
 ·rcases one b x e with⟨rfl,rfl⟩ |⟨hb,e⟩
  ·exact hr _ _ (mem_put_same hob)
  ·refine(h1 b x e).mono (fun z hz=>mem_put_ne hz hb) fun i=> ⟨rfl,fun z hz=>mem_put_ne hz fun q=> ?_⟩
   have:=h2 b x e i
   rw[show dx b=a from q,hm] at this
   exact absurd this.symm nn
 ·rcases one b x e with⟨rfl,rfl⟩ |⟨hb,e⟩
  ·rw[hi'] at i;exact absurd i ff
  ·have:=h2 b x e i
   unfold upd
   split
   ·rename_i q;rw[q,hm] at this;exact absurd this.symm nn
   ·exact this
 ·rcases one b x e1 with⟨rfl,rfl⟩ |⟨hb,e1⟩
  ·rw[hi'] at i1;exact absurd i1 ff
  ·rcases one c y e2 with⟨rfl,rfl⟩ |⟨hc,e2⟩
   ·rw[hi'] at i2;exact absurd i2 ff
   ·exact h3 b c x y e1 e2 i1 i2
 ·rcases one b x e with⟨rfl,rfl⟩ |⟨hb,e⟩
  ·exact⟨(h4 _ _ hm).1,fun i=>by rw[hi'] at i;exact absurd i ff⟩
  ·exact h4 b x e
theorem Rep.chgInst{w:World}{rs:List Addr}{μ:MH}{news:NL}(R:Rep w rs μ news){a C:Addr}{f:String→Option MV}{n:Nat}(hm:μ a=some (.inst C f n)):
  ∃d es e,d∉rs∧(a,instObj C d)∈news∧clsOk C=true∧(d,dictOf es e)∈news∧es.length≤n∧(∀e∈es,∃x t,e.key= .str x t)∧
   (∀x:String,match f x with
    |some v=> ∃u,getL (Str.ofString x) es=some (some u)∧VR v u
    |none=>getL (Str.ofString x) es=some none)∧
   ∀f' n' es' e',es'.length≤n'→(∀e∈es',∃x t,e.key= .str x t)→
    (∀x:String,match f' x with
     |some v=> ∃u,getL (Str.ofString x) es'=some (some u)∧VR v u
     |none=>getL (Str.ofString x) es'=some none)→Rep w rs (upd μ a (some (.inst C f' n'))) (putE news d (dictOf es' e')):=by
 refine q23 R.ex fun dx h1 h2 h3 h4=> ?_
 refine q2 (h1 a _ hm) fun g1 gc w1_=> ?_
 refine q22 w1_ fun es e g2 g3 g4' g5=> ?_
 refine⟨dx a,es,e,(h4 a _ hm).2 rfl,g1,gc,g2,g3,g4',g5,fun f' n' es' e' k1 k2 k3=> ?_⟩
 have hd:μ (dx a)=none:=h2 a _ hm rfl
 have hda:a≠dx a:=ne_nb hm hd
 have one:∀b x,upd μ a (some (.inst C f' n')) b=some x→(b=a∧x= .inst C f' n')∨(b≠a∧μ b=some x):=fun b x e=>by
  unfold upd at e
  split at e
  ·rename_i hb;obtain rfl:=Option.some.inj e;exact .inl ⟨hb,rfl⟩
  ·rename_i hb;exact .inr ⟨hb,e⟩
 refine⟨by rw[put_keys];exact R.nodup,by rw[put_keys];exact R.rsin,dx,fun b x e=> ?_,fun b x e i=> ?_,fun b c x y e1 e2 i1 i2=> ?_,fun b x e=> ?_⟩
 ·rcases one b x e with⟨rfl,rfl⟩ |⟨hb,e⟩
  ·exact⟨mem_put_ne g1 hda,gc,es',e',mem_put_same g2,k1,k2,k3⟩
  ·refine(h1 b x e).mono (fun z hz=>mem_put_ne hz fun q=> ?_) fun i=> ⟨rfl,fun z hz=>mem_put_ne hz fun q=> ?_⟩
   ·rw[show b=dx a from q,hd] at e;exact absurd e nn
   ·exact hb (h3 b a x _ e hm i rfl q)
 ·have hx:∀b x,upd μ a (some (.inst C f' n')) b=some x→isInst x=true→μ (dx b)=none∧dx b≠a:=fun b x e i=>by
   rcases one b x e with⟨rfl,rfl⟩ |⟨hb,e⟩
   ·exact⟨hd,fun q=>hda q.symm⟩
   ·have:=h2 b x e i
    exact⟨this,((ne_nb hm this).symm)⟩
  refine q0 (hx b x e i) fun p q=> ?_
  rw[af _ _ q];exact p
 ·rcases one b x e1 with⟨q1,q2⟩ |⟨hb,k1⟩
  ·rcases one c y e2 with⟨r1,r2⟩ |⟨hc,k2⟩
   ·intro _;rw[q1,r1]
   ·rw[q1];exact h3 _ c _ y hm k2 rfl i2
  ·rcases one c y e2 with⟨r1,r2⟩ |⟨hc,k2⟩
   ·rw[r1];exact h3 b _ x _ k1 hm i1 rfl
   ·exact h3 b c x y k1 k2 i1 i2
 ·rcases one b x e with⟨rfl,rfl⟩ |⟨hb,e⟩
  ·exact⟨(h4 _ _ hm).1,fun u_=> (h4 _ _ hm).2 rfl⟩
  ·exact h4 b x e
theorem Rep.more{w:World}{rs:List Addr}{μ:MH}{news:NL}(R:Rep w rs μ news){q:Addr}(o:Obj)(hq:∀p∈news,p.1 < q):Rep w rs μ ((q,o)::news):=by
 refine q23 R.ex fun dx h1 h2 h3 h4=> ?_
 refine⟨?_,fun r hr=> .tail _ (R.rsin r hr),dx,fun b x e=> (h1 b x e).mono (fun u_ hz=> .tail _ hz) fun u_=> ⟨rfl,fun u_ hz=> .tail _ hz⟩,h2,h3,h4⟩
 rw[List.map_cons,List.nodup_cons]
 refine⟨fun h=> ?_,R.nodup⟩
 refine q17 (List.mem_map.mp h) fun p hp e=> ?_
 exact absurd (hq p hp) (by rw[show p.1=q from e];exact Nat.lt_irrefl _)
theorem Rep.sub{w:World}{rs:List Addr}{μ μ':MH}{news:NL}(R:Rep w rs μ news)(hs:∀a o,μ' a=some o→μ a=some o):Rep w rs μ' news:=by
 refine q23 R.ex fun dx h1 h2 h3 h4=> ?_
 refine⟨R.nodup,R.rsin,dx,fun a o e=>h1 a o (hs a o e),fun a o e i=> ?_,fun a b o o' e e'=>h3 a b o o' (hs _ _ e) (hs _ _ e'),fun a o e=>h4 a o (hs a o e)⟩
 have:=h2 a o (hs a o e) i
 cases q:μ' (dx a) with
 |none=>rfl
 |some x=>rw[hs _ _ q] at this;exact absurd this.symm nn
theorem Rep.cons{w:World}{rs:List Addr}{μ:MH}{news:NL}(R:Rep w rs μ news){q:Addr}{ob:Obj}{o:MO}(hq:∀p∈news,p.1 < q)(hi:isInst o=false)
  (hr:∀dx news',(q,ob)∈news'→RepO w dx news' q o):Rep w rs (upd μ q (some o)) ((q,ob)::news):=by
 have R':=R.more ob hq
 refine q23 R.ex fun dx h1 h2 h3 h4=> ?_
 have one:∀b x,upd μ q (some o) b=some x→(b=q∧x=o)∨(b≠q∧μ b=some x):=fun b x e=>by
  unfold upd at e
  split at e
  ·rename_i hb;obtain rfl:=Option.some.inj e;exact .inl ⟨hb,rfl⟩
  ·rename_i hb;exact .inr ⟨hb,e⟩
 refine⟨R'.nodup,R'.rsin,dx,fun b x e=> ?_,fun b x e i=> ?_,fun b c x y e1 e2 i1 i2=> ?_,fun b x e=> ?_⟩
 ·rcases one b x e with⟨rfl,rfl⟩ |⟨hb,e⟩
  ·exact hr _ _ (.head _)
  ·exact(h1 b x e).mono (fun u_ hz=> .tail _ hz) fun u_=> ⟨rfl,fun u_ hz=> .tail _ hz⟩
 ·rcases one b x e with⟨rfl,rfl⟩ |⟨hb,e⟩
  ·rw[hi] at i;exact absurd i ff
  ·have hne:dx b≠q:=fun z=>by
    have hx:=h1 b x e
    cases x with
    |inst C f n=>obtain⟨_,_,es,e',hm,_⟩:=hx;exact absurd (hq _ hm) (by rw[show((dx b,dictOf es e'):Addr×Obj).1=q from z];exact Nat.lt_irrefl _)
    |list |tuple |idict |sdict=>exact absurd i ff
   rw[af _ _ hne];exact h2 b x e i
 ·rcases one b x e1 with⟨rfl,rfl⟩ |⟨hb,e1⟩
  ·rw[hi] at i1;exact absurd i1 ff
  ·rcases one c y e2 with⟨rfl,rfl⟩ |⟨hc,e2⟩
   ·rw[hi] at i2;exact absurd i2 ff
   ·exact h3 b c x y e1 e2 i1 i2
 ·rcases one b x e with⟨rfl,rfl⟩ |⟨hb,e⟩
  ·refine⟨fun hr=> ?_,fun i=>by rw[hi] at i;exact absurd i ff⟩
   refine q17 (List.mem_map.mp (R.rsin _ hr)) fun p hp e=> ?_
   exact absurd (hq p hp) (by rw[show p.1=_ from e];exact Nat.lt_irrefl _)
  ·exact h4 b x e
theorem Rep.consInst{w:World}{rs:List Addr}{μ:MH}{news:NL}(R:Rep w rs μ news){q d C:Addr}(hc:clsOk C=true)(hd:∀p∈news,p.1 < d)(hq:d < q):
  Rep w rs (upd μ q (some (.inst C (fun u_=>none) 0))) ((q,instObj C d)::(d,dictOf [] 0)::news):=by
 refine q23 R.ex fun dx h1 h2 h3 h4=> ?_
 have R1:=R.more (q:=d) (dictOf [] 0) hd
 have R2:=R1.more (q:=q) (instObj C d) (fun p hp=>by
  rcases List.mem_cons.mp hp with rfl |hp
  ·exact hq
  ·exact Nat.lt_trans (hd p hp) hq)
 have fd:μ d=none:=R.fresh fun p hp=>Nat.ne_of_lt (hd p hp)
 have fq:∀p∈news,p.1≠q:=fun p hp=>Nat.ne_of_lt (Nat.lt_trans (hd p hp) hq)
 have one:∀b x,upd μ q (some (.inst C (fun u_=>none) 0)) b=some x→(b=q∧x= .inst C (fun u_=>none) 0)∨(b≠q∧μ b=some x):=fun b x e=>by
  unfold upd at e
  split at e
  ·rename_i hb;obtain rfl:=Option.some.inj e;exact .inl ⟨hb,rfl⟩
  ·rename_i hb;exact .inr ⟨hb,e⟩
 have dmem:∀b x,μ b=some x→isInst x=true→∃ob,(dx b,ob)∈news:=fun b x e i=>by
  have hx:=h1 b x e
  cases x with
  |inst C f n=>obtain⟨_,_,es,e',hm,_⟩:=hx;exact⟨_,hm⟩
  |list |tuple |idict |sdict=>exact absurd i ff
 refine⟨R2.nodup,R2.rsin,upd dx q d,fun b x e=> ?_,fun b x e i=> ?_,fun b c x y e1 e2 i1 i2=> ?_,fun b x e=> ?_⟩
 ·rcases one b x e with⟨rfl,rfl⟩ |⟨hb,e⟩
  ·refine⟨by rw[aj];exact .head _,hc,[],0,by rw[aj];exact .tail _ (.head _),Nat.le_refl _,(fun e h=> (nomatch h)),fun x=>rfl⟩
  ·exact(h1 b x e).mono (fun u_ hz=> .tail _ (.tail _ hz)) fun u_=> ⟨((af _ _ hb)),fun u_ hz=> .tail _ (.tail _ hz)⟩
 ·rcases one b x e with⟨rfl,rfl⟩ |⟨hb,e⟩
  ·rw[aj,af _ _ (Nat.ne_of_lt hq)];exact fd
  ·refine q1 (dmem b x e i) fun ob hm=> ?_
   rw[af _ _ hb,af _ _ (fq _ hm)];exact h2 b x e i
 ·intro hx
  rcases one b x e1 with⟨q1,q2⟩ |⟨hb,k1⟩
  ·rcases one c y e2 with⟨r1,r2⟩ |⟨hc,k2⟩
   ·rw[q1,r1]
   ·obtain⟨ob,hm⟩:=dmem c y k2 i2
    rw[q1,aj,af _ _ hc] at hx
    exact absurd (hd _ hm) (by rw[←hx];exact Nat.lt_irrefl _)
  ·rcases one c y e2 with⟨r1,r2⟩ |⟨hc,k2⟩
   ·refine q1 (dmem b x k1 i1) fun ob hm=> ?_
    rw[r1,aj,af _ _ hb] at hx
    exact absurd (hd _ hm) (by rw[show((dx b,ob):Addr×Obj).1=d from hx];exact Nat.lt_irrefl _)
   ·rw[af _ _ hb,af _ _ hc] at hx
    exact h3 b c x y k1 k2 i1 i2 hx
 ·have low:∀z,(∀p∈news,p.1 < z)→z∉rs:=fun z hz hr=>by
   refine q17 (List.mem_map.mp (R.rsin _ hr)) fun p hp e=> ?_
   exact absurd (hz p hp) (by rw[show p.1=_ from e];exact Nat.lt_irrefl _)
  rcases one b x e with⟨rfl,rfl⟩ |⟨hb,e⟩
  ·exact⟨low _ fun p hp=>Nat.lt_trans (hd p hp) hq,fun u_=>by rw[aj];exact low d hd⟩
  ·exact⟨(h4 b x e).1,fun i=>by rw[af _ _ hb];exact(h4 b x e).2 i⟩
theorem Rep.apart{w:World}{rs:List Addr}{μ:MH}{news:NL}(R:Rep w rs μ news){a:Addr}{o:MO}(h:μ a=some o):a∉rs:=by
 refine q23 R.ex fun dx u_ u_ u_ h4=> ?_
 exact(h4 a o h).1
theorem Rep.trans{w:World}{rs rs':List Addr}{μ:MH}{news news':NL}(R:Rep w rs μ news)(hn:(news'.map (·.1)).Nodup)(hr:∀r∈rs',r∈news'.map (·.1))(hs:∀r∈rs',r∈rs∨∀o,(r,o)∈news→Foreign o)
  (hk:∀p∈news,p.1∉rs→¬Foreign p.2→p∈news'):Rep w rs' μ news':=by
 refine q23 R.ex fun dx h1 h2 h3 h4=> ?_
 have nf:∀a o,μ a=some o→(∀ob,(a,ob)∈news→¬Foreign ob)∧(isInst o=true→∀ob,(dx a,ob)∈news→¬Foreign ob):=fun a o e=>by
  have un:∀{a:Addr} {ob ob':Obj},(a,ob)∈news→(a,ob')∈news→ob=ob':=fun ha hb=>congrArg Prod.snd (uniq R.nodup ha hb rfl)
  have hx:=h1 a o e
  cases o with
  |list xs=>obtain⟨vs,n,h,_⟩:=hx;exact⟨fun ob hob fo=>by rw[un hob h] at fo;exact fo.seq _ _ rfl,fun i=>by exact absurd i ff⟩
  |tuple xs=>obtain⟨vs,n,h,_⟩:=hx;exact⟨fun ob hob fo=>by rw[un hob h] at fo;exact fo.seq _ _ rfl,fun i=>by exact absurd i ff⟩
  |idict f n=>
   refine q18 hx fun o kvs h hd u_=> ?_
   refine q18 hd fun es ep u_ hd u_=> ?_
   exact⟨fun ob hob fo=>by rw[un hob h] at fo;exact fo.dict _ _ hd,fun i=>by exact absurd i ff⟩
  |sdict f n=>
   refine q18 hx fun o kvs h hd u_=> ?_
   refine q18 hd fun es ep u_ hd u_=> ?_
   exact⟨fun ob hob fo=>by rw[un hob h] at fo;exact fo.dict _ _ hd,fun i=>by exact absurd i ff⟩
  |inst C f n=>
   refine q30 hx fun h u_ es e' h' u_=> ?_
   refine⟨fun ob hob fo=> ?_,fun u_ ob hob fo=>by rw[un hob h'] at fo;exact fo.dict _ _ rfl⟩
   rw[un hob h] at fo;exact fo.plain rfl
 refine⟨hn,hr,dx,fun a o e=> ?_,h2,h3,fun a o e=> ?_⟩
 ·exact(h1 a o e).mono (fun ob hob=>hk _ hob (h4 a o e).1 ((nf a o e).1 ob hob)) fun i=> ⟨rfl,fun ob hob=>hk _ hob ((h4 a o e).2 i) ((nf a o e).2 i ob hob)⟩
 ·refine⟨fun q=> ?_,fun i q=> ?_⟩
  ·rcases hs a q with q |fo
   ·exact(h4 a o e).1 q
   ·refine q1 ((h1 a o e).mem) fun ob m=> ?_
    exact(nf a o e).1 ob m (fo ob m)
  ·rcases hs _ q with q |fo
   ·exact(h4 a o e).2 i q
   ·cases o with
    |inst C f n=>
     refine q30 (h1 a _ e) fun u_ u_ es e' m u_=> ?_
     exact(nf a _ e).2 rfl _ m (fo _ m)
    |list |tuple |idict |sdict=>exact absurd i ff
set_option genInjectivity false in structure Fm where
 w:World
 K:Frag
 A:Around
 h₀:Heap
 outer:List Env
 L:Addr
 a:Addr
 cn:Str
 cs:Scope
 ccd:Value
 cl:List (Str×Addr)
 s₀:Shared
 keep:NL
noncomputable abbrev Fm.env(f:Fm):Env:=envX f.cn f.cs f.L f.a f.ccd f.cl
noncomputable abbrev Fm.rs(f:Fm):List Addr:=f.keep.map (·.1)
noncomputable def OuterIn(outer:List Env)(keep:NL):Prop:=∀e∈outer,e.scope.kind= .function∧∃L o,e.frame=some L∧(L,o)∈keep∧∃es ep,o.data= .dict es ep
structure Fm.Ok(f:Fm)(d:Nat):Prop where
 frames:f.A.frames=some (f.env::f.outer)
 handled:f.A.handled=none
 kin:f.K.In f.h₀
 top:∃p loose mean mg mb,Top p loose mean mg mb f.h₀
 kind:f.cs.kind= .function
 mods:∃o,f.h₀.get? sysModules=some o
 depth:f.A.depth+3 * d+10 < recursionLimit
 units:f.A.units+40 * d+100 < cLine
 outs:OuterIn f.outer f.keep
 apart:∀p∈f.keep,p.1∉f.cl.map (·.2)
 cells:∀x,f.cs.names.lookup x=some .cell→∃c,f.cl.lookup x=some c
 inj:∀x y c,f.cl.lookup x=some c→f.cl.lookup y=some c→x=y
noncomputable def LocR(cs:Scope)(cl:List (Str×Addr))(m:Str→Option Value)(news:NL)(ρ:ao):Prop:=(∀x v,ρ x=some v→∃u,VR v u∧
 ((cs.names.lookup (Str.ofString x)=some .local∧m (Str.ofString x)=some u)∨
  ((cs.names.lookup (Str.ofString x)=some .cell∨cs.names.lookup (Str.ofString x)=some .free)∧∃c o,cl.lookup (Str.ofString x)=some c∧(c,o)∈news∧o.data= .cell (some u))))∧
 ∀c∈cl.map (·.2),∃o v,(c,o)∈news∧o.data= .cell v
noncomputable def Kept(keep news:NL):Prop:=∀p∈keep,∃sl,(p.1,{p.2 with slots:=sl})∈news∧(Foreign p.2→sl=p.2.slots)
noncomputable def St(f:Fm)(ρ:ao)(μ:MH)(s:Shared):Prop:=∃h tk m news,s={f.s₀ with heap:=h,toks:=tk}∧Fr f.h₀ f.L h m∧News f.h₀ f.L h news∧LocR f.cs f.cl m news ρ∧Rep f.w f.rs μ news∧Kept f.keep news
theorem foreign_cell{o:Obj}{v}(h:o.data= .cell v):Foreign o:=⟨(fun xs n q=>by rw[h] at q;cases q),(fun xs n q=>by rw[h] at q;cases q),(fun q=>by rw[h] at q;cases q)⟩
theorem LocR.subC{cs cl m}{news news':NL}{ρ:ao}(h:LocR cs cl m news ρ)(hs:∀p∈news,p.1∈cl.map (·.2)→p∈news'):LocR cs cl m news' ρ:=by
 have lm:∀{cl:List (Str×Addr)} {x c},cl.lookup x=some c→c∈cl.map (·.2):=by
  intro cl
  induction cl with
  |nil=>intro x c h;exact absurd h nn
  |cons p r ih=>
   intro x c h
   rw[List.lookup_cons] at h
   split at h
   ·obtain rfl:=Option.some.inj h;exact .head _
   ·exact .tail _ (ih h)
 refine⟨fun x v e=> ?_,fun c e=> ?_⟩
 ·refine q17 (h.1 x v e) fun u hv h=> ?_
  exact⟨u,hv,h.imp id fun⟨k,c,o,a,b,d⟩=> ⟨k,c,o,a,hs _ b (lm a),d⟩⟩
 ·refine q20 (h.2 c e) fun o v a b=> ?_
  exact⟨o,v,hs _ a e,b⟩
theorem lookup_mem{x:Str}{c:Addr}{cl:List (Str×Addr)}:cl.lookup x=some c→c∈cl.map (·.2):=by
 induction cl with
 |nil=>
  intro h
  exact absurd h nn
 |cons p r ih=>
  intro h
  rw[List.lookup_cons] at h
  split at h
  ·obtain rfl:=Option.some.inj h;exact .head _
  ·exact .tail _ (ih h)
theorem LocR.sub{cs cl m}{news news':NL}{ρ:ao}(h:LocR cs cl m news ρ)(hs:∀p∈news,Foreign p.2→p∈news'):LocR cs cl m news' ρ:=by
 refine⟨fun x v e=> ?_,fun c e=> ?_⟩
 ·refine q17 (h.1 x v e) fun u hv h=> ?_
  exact⟨u,hv,h.imp id fun⟨k,c,o,a,b,d⟩=> ⟨k,c,o,a,hs _ b (foreign_cell d),d⟩⟩
 ·refine q20 (h.2 c e) fun o v a b=> ?_
  exact⟨o,v,hs _ a (foreign_cell b),b⟩
theorem Kept.cons{keep news:NL}(h:Kept keep news)(p:Addr×Obj):Kept keep (p::news):=fun q hq=>let⟨sl,m,e⟩:=h q hq;⟨sl, .tail _ m,e⟩
theorem Kept.put{keep news:NL}(h:Kept keep news){d:Addr}{o:Obj}(hd:d∉keep.map (·.1)):Kept keep (putE news d o):=fun q hq=>
 let⟨sl,m,f⟩:=h q hq
 ⟨sl,mem_put_ne m fun e=>hd (List.mem_map.mpr ⟨q,hq,e⟩),f⟩
theorem keep_put{news:NL}(hn:(news.map (·.1)).Nodup){d:Addr}{o o':Obj}(h:(d,o)∈news)(hf:¬Foreign o):∀p∈news,Foreign p.2→p∈putE news d o':=fun p hp fp=>
 mem_put_ne hp fun e=>hf (by have q:(d,o)=p:=uniq hn h hp e.symm;rw[←q] at fp;exact fp)
theorem not_foreign_seq{c:Value}{d:Option Addr}{xs:Array Value}{n:Nat}{sl}:¬Foreign ⟨c,d, .seq xs n,sl⟩:=fun h=>h.seq xs n rfl
theorem not_foreign_dict{c:Value}{d:Option Addr}{xs:Array DictEntry}{n:Nat}{sl}:¬Foreign ⟨c,d, .dict xs n,sl⟩:=fun h=>h.dict xs n rfl
section
variable{f:Fm}{ρ:ao}{μ:MH}{s:Shared}
theorem St.heap_eq(S:St f ρ μ s):∃m news,Fr f.h₀ f.L s.heap m∧News f.h₀ f.L s.heap news∧LocR f.cs f.cl m news ρ∧Rep f.w f.rs μ news∧Kept f.keep news∧s={f.s₀ with heap:=s.heap,toks:=s.toks}:=by
 refine q26 S fun h tk m news rf4 F N l R k=> ?_
 replace rf4:=rf4.symm;subst rf4
 exact⟨m,news,F,N,l,R,k,rfl⟩
theorem St.heapE{P:Prop}(S:St f ρ μ s)(k:∀m news,Fr f.h₀ f.L s.heap m→News f.h₀ f.L s.heap news→LocR f.cs f.cl m news ρ→Rep f.w f.rs μ news→Kept f.keep news→s={f.s₀ with heap:=s.heap,toks:=s.toks}→P):P:=by
 refine q39 S.heap_eq fun m news F N l R kp e=> ?_
 exact k m news F N l R kp e
theorem St.toks(S:St f ρ μ s)(t:Nat):St f ρ μ {s with toks:=t}:=by
 refine q26 S fun h tk m news rf4 F N l R k=> ?_
 subst rf4
 exact⟨h,t,m,news,rfl,F,N,l,R,k⟩
theorem St.of{m:Str→Option Value}{news:NL}{h:Heap}{t:Nat}{s':Shared}(S:St f ρ μ s)(e:s'={s with heap:=h,toks:=t})(F:Fr f.h₀ f.L h m)(N:News f.h₀ f.L h news)(l:LocR f.cs f.cl m news ρ){μ':MH}(R:Rep f.w f.rs μ' news)(k:Kept f.keep news):St f ρ μ' s':=by
 refine q24 S fun h' tk m' news' rf4 u_=> ?_
 subst rf4
 subst e
 exact⟨h,t,m,news,rfl,F,N,l,R,k⟩
theorem St.sub(S:St f ρ μ s){μ':MH}(hs:∀a o,μ' a=some o→μ a=some o):St f ρ μ' s:=by
 refine q26 S fun h tk m news rf4 F N l R k=> ?_
 subst rf4
 exact⟨h,tk,m,news,rfl,F,N,l,R.sub hs,k⟩
end
noncomputable def clsAll(P:Addr→Bool):Bool:=P 93 && P 164
theorem clsAll_of{P:Addr→Bool}(h:clsAll P=true){C:Addr}(hc:clsOk C=true):P C=true:=by
 unfold clsAll at h
 unfold clsOk at hc
 simp only[Bool.and_eq_true,Bool.or_eq_true,beq_iff_eq] at h hc
 rcases hc with rfl |rfl
 ·exact h.1
 ·exact h.2
noncomputable def attrChk(K:Frag)(x:Str):Bool:=clsAll fun C=>plainGet K C x && hasDictIn K C && (match findIn K (.ref C) x with
 |some a=>noGet K a
 |none=>false)
theorem handed_VR{v:MV}{u:Value}(h:VR v u):handedIn u=true:=by
 cases v with
 |none |bool |ref=>subst h;rfl
 |int |str=>obtain⟨t,rfl⟩:=h;rfl
section
variable{f:Fm}{d:Nat}{ρ:ao}{μ:MH}{s:Shared}{E:Value→Shared→Prop}{Q:Value→Shared→Prop}
theorem Rep.inst(R:Rep f.w f.rs μ news){a C:Addr}{g:String→Option MV}{n:Nat}(hm:μ a=some (.inst C g n)){h:Heap}(N:News f.h₀ f.L h news):
  ∃dx es e,dx∉f.rs∧(a,instObj C dx)∈news∧clsOk C=true∧(dx,dictOf es e)∈news∧es.length≤n∧(∀e∈es,∃x t,e.key= .str x t)∧InstAt h a (instObj C dx) C (some (dictOf es e))∧
   ∀x:String,match g x with
    |some v=> ∃u,getL (Str.ofString x) es=some (some u)∧VR v u
    |none=>getL (Str.ofString x) es=some none:=by
 refine q28 (R.chgInst hm) fun dx es e h0 h1 hc h2 h3 h4 h5 u_=> ?_
 exact⟨dx,es,e,h0,h1,hc,h2,h3,h4,InstAt.of_news N h1 h2,h5⟩
set_option tactic.hygienic true in theorem st_attr(ok:f.Ok d)(S:St f ρ μ s){v w:MV}{u:Value}{n:String}{ex:Bool}(hv:VR v u)(h:attrOf μ v n=some w)(hk:attrChk f.K (Str.ofString n)=true)(hQ:∀u' s',VR w u'→St f ρ μ s'→Q u' s'):
  wpAny (model pw f.w) f.A (getAttr u (Str.ofString n) ex) Q E s:=by
 refine S.heapE fun m news F N l R k e=> ?_
 revert hv
 refine attrOf_elim h fun a C g j hm h hv=> ?_
 ·subst hv
  ·refine q28 (R.inst hm N) fun dx es e h0 h1 hc h2 h3 h4 I h5=> ?_
   have hg:=h5 n
   rw[h] at hg
   refine q17 hg fun u' hl hu=> ?_
   have hk':=clsAll_of hk hc
   simp only[Bool.and_eq_true] at hk'
   refine q7 hk' fun k1 k2 k3=> ?_
   split at k3
   ·rename_i at_ ha
    exact get_own F ok.kin I k1 k2 ha k3 hl (handed_VR hu) (hQ _ _ hu (S.toks _))
   ·exact absurd k3 ff
end
theorem lim_line{n:Nat}(h:n < LIM):n≤sizeLine:=by
 rw[sizeLine_eq];unfold LIM at h;lia
theorem VRs.toList{xs:List MV}{vs:List Value}(h:VRs xs vs):VRs xs vs.toArray.toList:=h
theorem VR.int{i:Int}{u:Value}(h:VR (.int i) u):∃t,u= .int i t:=h
theorem VR.str{i:Str}{u:Value}(h:VR (.str i) u):∃t,u= .str i t:=h
theorem VR.ref{a:Addr}{u:Value}(h:VR (.ref a) u):u= .ref a:=h
section
variable{f:Fm}{d:Nat}{ρ:ao}{μ:MH}{s:Shared}{E:Value→Shared→Prop}{Q:Value→Shared→Prop}
set_option tactic.hygienic true in theorem St.list(S:St f ρ μ s){v:MV}{u:Value}{xs:List MV}(hv:VR v u)(h:listAt μ v=some xs):
  ∃a vs n m news,v= .ref a∧u= .ref a∧μ a=some (.list xs)∧VRs xs vs∧Fr f.h₀ f.L s.heap m∧News f.h₀ f.L s.heap news∧LocR f.cs f.cl m news ρ∧Rep f.w f.rs μ news∧Kept f.keep news∧(a,listOf vs.toArray n)∈news:=by
 refine S.heapE fun m news F N l R k e=> ?_
 revert hv
 refine listAt_elim h fun a hm hv=> ?_
 refine q17 R.ex fun dx h1 _=> ?_
 refine q20 (h1 a _ hm) fun vs n hn hr=> ?_
 exact⟨a,vs,n,m,news,rfl,hv,hm,hr,F,N,l,R,k,hn⟩
@[elab_as_elim]theorem St.listR{a:Addr}{u:Value}{xs:List MV}{P:Value→Prop}(S:St f ρ μ s)(hv:VR (.ref a) u)(h:listAt μ (.ref a)=some xs)(k:∀vs n m news,μ a=some (.list xs)→VRs xs vs→Fr f.h₀ f.L s.heap m→News f.h₀ f.L s.heap news→LocR f.cs f.cl m news ρ→Rep f.w f.rs μ news→Kept f.keep news→(a,listOf vs.toArray n)∈news→P (.ref a)):P u:=by
 refine q29 (S.list hv h) fun a' vs n m news hva e hm hr F N l R kp hmem=> ?_
 cases hva
 subst e
 exact k vs n m news hm hr F N l R kp hmem
theorem St.listP{a:Addr}{xs:List MV}{P:Prop}(S:St f ρ μ s)(h:μ a=some (.list xs))(k:∀vs n m news,μ a=some (.list xs)→VRs xs vs→Fr f.h₀ f.L s.heap m→News f.h₀ f.L s.heap news→LocR f.cs f.cl m news ρ→Rep f.w f.rs μ news→Kept f.keep news→(a,listOf vs.toArray n)∈news→P):P:=
 S.listR (P:=fun u_=>P) (u:= .ref a) rfl (aE h) k
@[elab_as_elim]theorem St.listE{v:MV}{u:Value}{xs:List MV}{P:MV→Value→Prop}(S:St f ρ μ s)(hv:VR v u)(h:listAt μ v=some xs)(k:∀a,∀vs n m news,μ a=some (.list xs)→VRs xs vs→Fr f.h₀ f.L s.heap m→News f.h₀ f.L s.heap news→LocR f.cs f.cl m news ρ→Rep f.w f.rs μ news→Kept f.keep news→(a,listOf vs.toArray n)∈news→P (.ref a) (.ref a)):P v u:=by
 refine q29 (S.list hv h) fun a vs n m news rf5 rf6 hm hr F N l R kp hmem=> ?_
 rw[rf5]
 rw[rf6]
 exact k a vs n m news hm hr F N l R kp hmem
theorem news_isList{h₀ h:Heap}{L a:Addr}{news:NL}{vs:List Value}{n:Nat}(N:News h₀ L h news)(hm:(a,listOf vs.toArray n)∈news):h.IsList a vs.toArray:=⟨_,(N _ hm).1,rfl,n,rfl⟩
theorem St.alloc(S:St f ρ μ s){m:Str→Option Value}{news:NL}{ob:Obj}{o:MO}{q:Addr}{h':Heap}(l:LocR f.cs f.cl m news ρ)(R:Rep f.w f.rs μ news)(k:Kept f.keep news)
  (F':Fr f.h₀ f.L h' m) (N':News f.h₀ f.L h' ((q,ob)::news)) (hq:∀p∈news,p.1 < q) (hi:isInst o=false) (hr:∀dx news',(q,ob)∈news'→RepO f.w dx news' q o):
  μ q=none∧St f ρ (upd μ q (some o)) {s with heap:=h'}:=
 ⟨R.fresh fun p hp=>Nat.ne_of_lt (hq p hp),S.of (h:=h') (t:=s.toks) rfl F' N' (l.sub fun p hp u_=> .tail _ hp) (R.cons hq hi hr) (k.cons _)⟩
theorem St.chgList(S:St f ρ μ s){m:Str→Option Value}{news:NL}{a:Addr}{xs ys:List MV}{vs us:List Value}{n n':Nat}{h':Heap}(l:LocR f.cs f.cl m news ρ)(R:Rep f.w f.rs μ news)(k:Kept f.keep news)(ok:f.Ok d)
  (hm:μ a=some (.list xs)) (hmem:(a,listOf vs.toArray n)∈news) (hr:VRs ys us)
  (F':Fr f.h₀ f.L h' m) (N':News f.h₀ f.L h' (putE news a (listOf us.toArray n'))):St f ρ (upd μ a (some (.list ys))) {s with heap:=h'}:=
 have kp:=keep_put (o':=listOf us.toArray n') R.nodup hmem not_foreign_seq
 S.of (h:=h') (t:=s.toks) rfl F' N' (l.sub kp) (R.chg hm rfl rfl (fun u_ u_ h=> ⟨us,n',h,hr⟩) hmem) (k.put (R.apart hm))
theorem pyIdx_inv{i:Int}{n q:Nat}(h:pyIdx i n=some q):n < 10000∧(0≤i∧i < n∧q=i.toNat∨i < 0∧ -(n:Int)≤i∧q=(i+n).toNat):=by
 unfold pyIdx LIM at h
 by_cases c:10000≤n
 ·rw[if_pos c] at h;exact absurd h nn
 ·rw[if_neg c] at h
  by_cases c1:0≤i∧i < n
  ·rw[if_pos c1] at h
   exact⟨by lia, .inl ⟨c1.1,c1.2,(Option.some.inj h).symm⟩⟩
  ·rw[if_neg c1] at h
   refine q0 (ite_some h) fun c2 e=> ?_
   exact⟨by lia, .inr ⟨c2.2,c2.1,e.symm⟩⟩
theorem pyIdx_seq{i:Int}{n q:Nat}(h:pyIdx i n=some q):seqIndex? i n=some q∧ -(2 ^ 63)≤i∧i < 2 ^ 63:=by
 refine q0 (pyIdx_inv h) fun c h=> ?_
 unfold seqIndex?
 rcases h with h |h
 ·refine q2 h fun h1 h2 e=> ?_
  replace e:=e.symm;subst e
  have g:¬i < 0:=by lia
  simp[g,h1,h2]
  lia
 ·refine q2 h fun h1 h2 e=> ?_
  subst e
  have g2:0≤i+(n:Int):=by lia
  have g3:i+(n:Int) < (n:Int):=by lia
  simp[h1,g2,g3]
  lia
theorem st_item(ok:f.Ok d)(S:St f ρ μ s){v i w:MV}{u ui:Value}{value slice:Expr}(hv:VR v u)(hi:VR i ui)(h:itemOf μ v i=some w)(hs:∀o k,subscripted slice false o k=operate [o,k] (getItem o k))
  (hQ:∀u' s',VR w u'→St f ρ μ s'→Q u' s'):wpAny (model pw f.w) f.A (subscriptTail value slice u ui) Q E s:=by
 refine S.heapE fun m news F N l R k e=> ?_
 revert hv
 unfold itemOf at h
 refine onRefV_elim (e:=v) h nn fun a h hv=> ?_
 subst hv
 refine q17 (Option.bind_eq_some_iff.mp h) fun o hm hg=> ?_
 refine q17 R.ex fun dx h1 _=> ?_
 have hr:=h1 a o hm
 clear h1 h hm
 cases o with
 |list xs=>
  revert hi
  refine onIntV_elim (e:=i) hg nn fun j hg hi=> ?_
  refine q1 hi.int fun t rf1=> ?_
  subst rf1
  refine q20 hr fun vs n hn hr=> ?_
  refine q17 (Option.bind_eq_some_iff.mp hg) fun q hq hx=> ?_
  refine q17 (hr.get hx) fun u' hu hvr=> ?_
  have hL:=news_isList N hn
  have hlen:=hr.length
  refine q0 (pyIdx_inv hq) fun c h=> ?_
  rcases h with h |h
  ·refine q2 h fun h1 h2 e=> ?_
   subst e
   exact tail_any hL.typeIs slot_list_getitem.lookup (wpAny_getItem_list hL h1 (by lia) (by simpa using hu) (hQ _ _ hvr S)) (hs _ _)
  ·refine q2 h fun h1 h2 e=> ?_
   subst e
   exact tail_any hL.typeIs slot_list_getitem.lookup (wpAny_getItem_list_neg hL h1 (by rw[List.size_toArray,hlen];exact h2) (by lia) (by rw[List.size_toArray,hlen];simpa using hu) (hQ _ _ hvr S)) (hs _ _)
 |tuple xs=>
  revert hi
  refine onIntV_elim (e:=i) hg nn fun j hg hi=> ?_
  refine q1 hi.int fun t rf1=> ?_
  subst rf1
  refine q20 hr fun vs n hn hr=> ?_
  refine q17 (Option.bind_eq_some_iff.mp hg) fun q hq hx=> ?_
  refine q17 (hr.get hx) fun u' hu hvr=> ?_
  have hL:IsTup s.heap a vs.toArray:=⟨_,(N _ hn).1,rfl,n,rfl⟩
  rw[←hr.length] at hq
  refine q2 (pyIdx_seq hq) fun c1 c2 c3=> ?_
  exact tail_any hL.typeIs PySem.F.slot_tuple_getitem.lookup (getItem_tuple hL c2 c3 c1 (by simpa using hu) (hQ _ _ hvr S)) (hs _ _)
 |idict g n=>
  revert hi
  refine onIntV_elim (e:=i) hg nn fun j hg hi=> ?_
  refine q1 hi.int fun t rf1=> ?_
  subst rf1
  refine q22 hr fun o kvs hn hd _ hf=> ?_
  refine q17 (hf _ _ hg) fun u' hu hvr=> ?_
  have hD:=kda_dict N hn hd
  exact tail_any hD.typeIs slot_dict_getitem.lookup (wpAny_getItem_of (intKind_is _ _ _ _) hD.mapOf hu (hQ _ _ hvr (S.toks _))) (hs _ _)
 |sdict g n=>
  revert hi
  refine onStrV_elim (e:=i) hg nn fun j hg hi=> ?_
  refine q1 hi.str fun t rf1=> ?_
  subst rf1
  refine q22 hr fun o kvs hn hd _ hf=> ?_
  refine q17 (hf _ _ hg) fun u' hu hvr=> ?_
  have hD:=kda_dict N hn hd
  exact tail_any hD.typeIs slot_dict_getitem.lookup (wpAny_getItem_of (strKind_is _ _ _ _) hD.mapOf hu (hQ _ _ hvr (S.toks _))) (hs _ _)
 |inst=>exact absurd hg nn
end
theorem small_log{i:Int}(h:small i=true):i.natAbs.log2 < 1920:=by
 unfold small at h
 have h:=of_decide_eq_true h
 rcases Nat.eq_zero_or_pos i.natAbs with h0 |h0
 ·rw[h0];decide
 ·have h1:i.natAbs < 2 ^ 30:=by
   have:(2:Nat) ^ 30=1073741824:=by decide
   lia
  exact Nat.lt_trans ((Nat.log2_lt (by lia)).mpr h1) (by decide)
theorem VRs.ints{xs:List MV}{vs:List Value}{is:List Int}(hv:VRs xs vs)(h:intsOf xs=some is):IntsAre vs is:=by
 induction hv generalizing is with
 |nil=>
  obtain rfl:=Option.some.inj (h:some []=some is)
  exact .nil
 | @cons v u _ _ a r ih=>
  unfold intsOf at h
  rw[List.mapM_cons] at h
  cases v with
  |int i=>
   refine q1 a.int fun t rf1=> ?_
   subst rf1
   refine q17 (Option.bind_eq_some_iff.mp h) fun j hj h=> ?_
   refine q17 (Option.bind_eq_some_iff.mp h) fun js hjs h=> ?_
   obtain rfl:=Option.some.inj hj;obtain rfl:=Option.some.inj h
   exact .cons _ t (ih hjs)
  |none |bool |str |ref=>exact absurd h nn
theorem VRs.strs{xs:List MV}{vs:List Value}{is:List Str}(hv:VRs xs vs)(h:strsOf xs=some is):StrsAre vs is:=by
 induction hv generalizing is with
 |nil=>
  obtain rfl:=Option.some.inj (h:some []=some is)
  exact .nil
 | @cons v u _ _ a r ih=>
  unfold strsOf at h
  rw[List.mapM_cons] at h
  cases v with
  |str i=>
   refine q1 a.str fun t rf1=> ?_
   subst rf1
   refine q17 (Option.bind_eq_some_iff.mp h) fun j hj h=> ?_
   refine q17 (Option.bind_eq_some_iff.mp h) fun js hjs h=> ?_
   obtain rfl:=Option.some.inj hj;obtain rfl:=Option.some.inj h
   exact .cons _ t (ih hjs)
  |none |bool |int |ref=>exact absurd h nn
theorem kf_ints_of{vs:List Value}{is:List Int}(h:IntsAre vs is):kf_ints vs=true:=by
 induction h with
 |nil=>rfl
 |cons i t r ih=>exact ih
theorem isInt_of{k i:Int}{t:Tok}:isInt k (.int i t)=decide (i=k):=rfl
theorem any_isInt(k:Int){vs:List Value}{is:List Int}(h:IntsAre vs is):vs.any (isInt k)=decide (k∈is):=by
 induction h with
 |nil=>rfl
 |cons i t r ih=>
  rw[List.any_cons,ih,isInt_of]
  by_cases h:i=k
  ·subst h;simp
  ·have h':¬k=i:=fun e=>h e.symm
   simp[h,h']
theorem kf_at_of(k:Int){vs:List Value}{is:List Int}(h:IntsAre vs is)(m:k∈is):kf_at k vs=some (is.idxOf k):=by
 induction h with
 |nil=>exact absurd m nem
 | @cons i t vs ns r ih=>
  show cond (isInt k (.int i t)) (some 0) (match kf_at k vs with |some j=>some (j+1) |none=>none)=_
  rw[isInt_of]
  by_cases e:i=k
  ·subst e;rw[decide_eq_true rfl,List.idxOf_cons_self];rfl
  ·rw[decide_eq_false e,ih ((List.mem_cons.mp m).resolve_left fun q=>e q.symm),List.idxOf_cons,beq_false_of_ne e]
   rfl
section
variable{f:Fm}{d:Nat}{ρ:ao}{μ:MH}{s:Shared}{E:Value→Shared→Prop}{Q:Value→Shared→Prop}
noncomputable def opOf:MOp→Operator
 | .add=> .Add
 | .sub=> .Sub
 | .fdiv=> .FloorDiv
 | .mod=> .Mod
 | .mul=> .Mult
noncomputable def copOf:MCmp→CmpOp
 | .lt=> .Lt
 | .gt=> .Gt
 | .eq=> .Eq
 | .ne=> .NotEq
theorem st_bin(S:St f ρ μ s){op:MOp}{x y w:MV}{u v:Value}(hx:VR x u)(hy:VR y v)(h:binOf op x y=some w)
  (hQ:∀u' s',VR w u'→St f ρ μ s'→Q u' s'):wpAny (model pw f.w) f.A (binaryOp (opOf op) u v) Q E s:=by
 cases x with
 |int a=>
  revert hy
  refine onIntV_elim (e:=y) h nn fun b h hy=> ?_
  refine q1 hx.int fun t rf1=> ?_
  replace rf1:=rf1.symm;subst rf1
  refine q1 hy.int fun t' rf1=> ?_
  subst rf1
  cases op with
  |add=>obtain rfl:=Option.some.inj h;exact P.add_int (hQ _ _ ⟨_,rfl⟩ (S.toks _))
  |sub=>obtain rfl:=Option.some.inj h;exact P.sub_int (hQ _ _ ⟨_,rfl⟩ (S.toks _))
  |fdiv=>
   refine q0 (ite_some h) fun hc e=> ?_
   subst e
   exact floordiv_int (by lia) (hQ _ _ ⟨_,rfl⟩ (S.toks _)) (.inl (PyProof.noPylong_small (by lia)))
  |mod=>
   refine q0 (ite_some h) fun hc e=> ?_
   subst e
   exact mod_int' (by lia) (hQ _ _ ⟨_,rfl⟩ (S.toks _))
  |mul=>exact absurd h nn
 |str a=>
  refine q1 hx.str fun t rf1=> ?_
  subst rf1
  cases y with
  |str b=>
   refine q1 hy.str fun t' rf1=> ?_
   subst rf1
   cases op with
   |add=>
    refine q0 (ite_some h) fun hc e=> ?_
    subst e
    exact SB.add (fun t' k=>hQ _ _ ⟨_,rfl⟩ (S.toks _)) (by rw[sizeLine_eq];lia)
   |_=>exact absurd h nn
  |int b=>
   refine q1 hy.int fun t' rf1=> ?_
   subst rf1
   cases op with
   |mul=>
    refine q0 (ite_some h) fun hc e=> ?_
    subst e
    exact SB.mul (mulOk_of 1 1000 (by lia) (by lia) (by lia) (by decide) (by decide)) (fun t' k=>hQ _ _ ⟨_,rfl⟩ (S.toks _))
   |_=>exact absurd h nn
  |_=>exact absurd h nn
 |_=>exact absurd h nn
theorem st_cmp(S:St f ρ μ s){op:MCmp}{x y:MV}{b:Bool}{u v:Value}(hx:VR x u)(hy:VR y v)(h:cmpOf op x y=some b)
  (hQ:Q (.bool b) s):wpAny (model pw f.w) f.A (compareOp (copOf op) u v) Q E s:=by
 cases x with
 |int a=>
  revert hy
  refine onIntV_elim (e:=y) h nn fun c h hy=> ?_
  refine q1 hx.int fun t rf1=> ?_
  subst rf1
  refine q1 hy.int fun t' rf1=> ?_
  subst rf1
  obtain rfl:=Option.some.inj h
  cases op with
  |lt=>exact P.lt_int hQ
  |gt=>exact P.gt_int hQ
  |eq=>exact P.eq_int hQ
  |ne=>exact P.ne_int hQ
 |str a=>
  revert hy
  refine onStrV_elim (e:=y) h nn fun c h hy=> ?_
  refine q1 hx.str fun t rf1=> ?_
  subst rf1
  refine q1 hy.str fun t' rf1=> ?_
  subst rf1
  cases op with
  |eq=>obtain rfl:=Option.some.inj h;exact EqBoolInt.of_rc (SeqAt.RcAt.str_str _ _ _ _) hQ
  |ne=>obtain rfl:=Option.some.inj h;exact EqBoolInt.of_rcne (SeqAt.RcNeAt.str_str _ _ _ _) hQ
  |_=>exact absurd h nn
 |_=>exact absurd h nn
theorem isNone_VR{v:MV}{u:Value}(h:VR v u):(u== .none)=isNoneV v:=by
 cases v with
 |none |bool |ref=>subst h;rfl
 |int |str=>obtain⟨t,rfl⟩:=h;rfl
theorem st_isIn(S:St f ρ μ s){x y:MV}{k:Int}{xs:List MV}{is:List Int}{u v:Value}(hx:VR x u)(hy:VR y v)(h1:intOf x=some k)(h2:listAt μ y=some xs)(h3:intsOf xs=some is)
  (hQ:Q (.bool (decide (k∈is))) s):wpAny (model pw f.w) f.A (compareOp .In u v) Q E s:=by
 refine S.listE hy h2 fun a vs n m news hm hr F N l R kp hmem=> ?_
 cases x with
 |int i=>
  cases h1
  refine q1 hx.int fun t rf1=> ?_
  subst rf1
  have hi:=hr.ints h3
  exact kf_in N hmem (by simpa using kf_ints_of hi) (by simpa using any_isInt k hi) hQ
 |none |bool |str |ref=>exact absurd h1 nn
theorem st_newList(S:St f ρ μ s){xs:List MV}{vs:List Value}(hr:VRs xs vs)(hl:xs.length < LIM)(hQ:∀a s',μ a=none→St f ρ (upd μ a (some (.list xs))) s'→Q (.ref a) s'):
  wpAny (model pw f.w) f.A (newList vs) Q E s:=by
 refine S.heapE fun m news F N l R k e=> ?_
 refine newList_K F N (fun q h' F' N' hq=> ?_) (by rw[hr.length];exact lim_line hl)
 refine q0 (S.alloc (o:= .list xs) l R k F' N' hq rfl fun u_ u_ h=> ⟨vs,0,h,hr⟩) fun h1 h2=> ?_
 exact hQ _ _ h1 h2
theorem st_newTuple(S:St f ρ μ s){xs:List MV}{vs:List Value}(hr:VRs xs vs)(hl:xs.length < LIM)(hQ:∀a s',μ a=none→St f ρ (upd μ a (some (.tuple xs))) s'→Q (.ref a) s'):
  wpAny (model pw f.w) f.A (newTuple vs) Q E s:=by
 refine S.heapE fun m news F N l R k e=> ?_
 refine newTuple_N F N (fun h' F' N'=> ?_) (by rw[hr.length];exact lim_line hl)
 refine q0 (S.alloc (o:= .tuple xs) l R k F' N' (fun p hp=>Heap.lt_size (N p hp).1) rfl fun u_ u_ h=> ⟨vs,0,h,hr⟩) fun h1 h2=> ?_
 exact hQ _ _ h1 h2
theorem st_neNil(ok:f.Ok d)(S:St f ρ μ s){v:MV}{u:Value}{xs:List MV}(b:Bool)(hv:VR v u)(h:listAt μ v=some xs)(hQ:∀s',St f ρ μ s'→Q (.bool (xs.isEmpty==b)) s'):
  wpAny (model pw f.w) f.A (newList []) (fun r s₁=>wpAny (model pw f.w) f.A (compareOp (if b then .Eq else .NotEq) u r) Q E s₁) E s:=by
 refine S.listE hv h fun a vs n m news hm hr F N l R kp hmem=> ?_
 refine newList_K F N (fun q h' F' N' hq=> ?_) (by rw[sizeLine_eq];decide)
 have S':St f ρ μ {s with heap:=h'}:=S.of (h:=h') (t:=s.toks) rfl F' N' (l.sub fun p hp u_=> .tail _ hp) (R.more _ hq) (kp.cons _)
 have h1:h'.IsList a vs.toArray:=news_isList N' (.tail _ hmem)
 have h2:h'.IsList q (#[]:Array Value):=news_isList N' (.head _)
 have hu:f.A.units < cLine:=by have:=ok.units;lia
 have hlen:=hr.length
 cases xs with
 |nil=>
  have hv0:vs= []:=List.eq_nil_of_length_eq_zero (hlen)
  subst hv0
  cases b
  ·exact EqBoolInt.of_rcne (SeqAt.RcNeAt.lists (s:={s with heap:=h'}) (e:=fun u_=>true) h1 h2 rfl hu (fun j hj=>absurd hj (Nat.not_lt_zero _))) (hQ _ S')
  ·exact EqBoolInt.of_rc (SeqAt.RcAt.lists (s:={s with heap:=h'}) (e:=fun u_=>true) h1 h2 rfl hu (fun j hj=>absurd hj (Nat.not_lt_zero _))) (hQ _ S')
 |cons x r=>
  have hne:(vs.toArray.size !=(#[]:Array Value).size)=true:=by
   rw[List.size_toArray,hlen];simp
  cases b
  ·exact EqBoolInt.of_rcne (SeqAt.RcNeAt.lists_lengths (s:={s with heap:=h'}) h1 h2 hne hu) (hQ _ S')
  ·exact EqBoolInt.of_rc (SeqAt.RcAt.lists_lengths (s:={s with heap:=h'}) h1 h2 hne hu) (hQ _ S')
set_option tactic.hygienic true in theorem st_ladd(S:St f ρ μ s){x y:MV}{u v:Value}{xs ys:List MV}(hx:VR x u)(hy:VR y v)(h1:listAt μ x=some xs)(h2:listAt μ y=some ys)(l1:xs.length < LIM)(l2:ys.length < LIM)
  (hQ:∀a s',μ a=none→St f ρ (upd μ a (some (.list (xs++ys)))) s'→Q (.ref a) s'):wpAny (model pw f.w) f.A (binaryOp .Add u v) Q E s:=by
 refine S.listE hx h1 fun a vs n m news hm hr F N l R kp hmem=> ?_
 refine q17 R.ex fun dx q1 _=> ?_
 revert hy
 refine listAt_elim h2 fun b hm2 hy=> ?_
 ·subst hy
  ·refine q20 (q1 b _ hm2) fun vs2 n2 hmem2 hr2=> ?_
   refine kmk_add_lit (zs:=vs++vs2) F N (news_isList N hmem) (news_isList N hmem2) (rfl) (fun q h' F' N' hq=> ?_) (by simp only;rw[hr.length,hr2.length,sizeLine_eq];unfold LIM at l1 l2;lia)
   refine q0 (S.alloc (o:= .list (xs++ys)) l R kp F' N' hq rfl fun _ _ h=> ⟨vs++vs2,0,h,hr.append hr2⟩) fun k1 k2=> ?_
   exact hQ _ _ k1 k2
end
theorem map_toNat_inj:∀{a b:List Char},a.map Char.toNat=b.map Char.toNat→a=b
 | [],[],_=>rfl
 | [],_::_,h=>by simp at h
 |_::_,[],h=>by simp at h
 |a::l,b::r,h=>by
  simp only[List.map_cons,List.cons.injEq] at h
  have h1:a=b:=Char.ext (UInt32.toNat_inj.mp h.1)
  rw[h1,map_toNat_inj h.2]
theorem ofString_inj{a b:String}(h:Str.ofString a=Str.ofString b):a=b:=by
 rw[Str.ofString_eq_byList] at h
 unfold Str.ofStringByList at h
 injection h with h
 have h:=congrArg Array.toList h
 simp only at h
 exact String.ext (map_toNat_inj (by simpa using h))
noncomputable def StrKd(es:List DictEntry):Prop:=∀e∈es,∃x t,e.key= .str x t
theorem StrKd.noRef{es:List DictEntry}(h:StrKd es):es.any (·.refKey)=false:=by
 rw[List.any_eq_false]
 intro e he
 refine q5 (h e he) fun x t hk=> ?_
 simp[DictEntry.refKey,hk]
theorem getL_eq{es:List DictEntry}(h:StrKd es)(x:Str):getL x es=some ((es.find? (·.key.isStr x)).map (·.val)):=by
 unfold getL
 cases q:es.find? (·.key.isStr x) with
 |some e=>rfl
 |none=>simp only[h.noRef];rfl
theorem putL_keys{name:Str}{hsh:Int}{t:Tok}{v:Value}{es:List DictEntry}:StrKd es→StrKd (putL name hsh (.str name t) v es):=by
 induction es with
 |nil=>
  intro _
  intro e he
  unfold putL at he
  rw[List.mem_singleton.mp he];exact⟨name,t,rfl⟩
 |cons e r ih=>
  intro h
  intro e' he
  unfold putL at he
  split at he
  ·rcases List.mem_cons.mp he with rfl |he
   ·exact h e (.head _)
   ·exact h _ (.tail _ he)
  ·rcases List.mem_cons.mp he with rfl |he
   ·exact h _ (.head _)
   ·exact ih (fun z hz=>h z (.tail _ hz)) e' he
theorem isStr_same(x:Str)(t:Tok):Value.isStr (.str x t) x=true:=by simp[Value.isStr]
theorem putL_find_same{name:Str}{hsh:Int}{t:Tok}{v:Value}{es:List DictEntry}:((putL name hsh (.str name t) v es).find? (·.key.isStr name)).map (·.val)=some v:=by
 induction es with
 |nil=>
  simp[putL,isStr_same]
 |cons e r ih=>
  unfold putL
  split
  ·rename_i h;simp[h]
  ·rename_i h;simp only[List.find?_cons,h];exact ih
theorem putL_find_ne{name x:Str}(hne:x≠name){hsh:Int}{t:Tok}{v:Value}:∀{es:List DictEntry},((putL name hsh (.str name t) v es).find? (·.key.isStr x)).map (·.val)=(es.find? (·.key.isStr x)).map (·.val)
 | []=>by
  have:Value.isStr (.str name t) x=false:=by simpa[Value.isStr] using fun e=>hne e.symm
  simp[putL,this]
 |e::r=>by
  unfold putL
  split
  ·rename_i h
   have:e.key.isStr x=false:=by
    cases q:e.key.isStr x with
    |false=>rfl
    |true=>exact absurd (Value.isStr_inj _ _ _ q h) hne
   simp[this]
  ·simp only[List.find?_cons]
   split
   ·rfl
   ·exact putL_find_ne hne (es:=r)
theorem putL_length{name:Str}{hsh:Int}{key v:Value}{es:List DictEntry}:(putL name hsh key v es).length≤es.length+1:=by
 induction es with
 |nil=>
  simp[putL]
 |cons e r ih=>
  unfold putL
  split
  ·simp
  ·simp only[List.length_cons];exact Nat.succ_le_succ (ih)
theorem putL_length_old{name:Str}{hsh:Int}{key v:Value}{es:List DictEntry}:∀{e:DictEntry},es.find? (·.key.isStr name)=some e→(putL name hsh key v es).length=es.length:=by
 induction es with
 |nil=>
  intro _ h
  simp at h
 |cons e r ih=>
  intro _ h
  unfold putL
  split
  ·simp
  ·rename_i q
   simp only[List.find?_cons,q] at h
   simp only[List.length_cons,ih h]
noncomputable def setChk(K:Frag)(x:Str):Bool:=clsAll fun C=>findIn K (.ref C) "__setattr__"==some (some (.builtin "object.__setattr__")) && plainOver K C && (takerIn K C x==some none) && hasDictIn K C
section
variable{f:Fm}{d:Nat}{ρ:ao}{μ:MH}{s:Shared}{E:Value→Shared→Prop}
set_option tactic.hygienic true in theorem st_setAttr(ok:f.Ok d)(S:St f ρ μ s){o v:MV}{uo u:Value}{n:String}{μ':MH}{Q:Unit→Shared→Prop}(ho:VR o uo)(hv:VR v u)(h:setAttrM μ o n v=some μ')(hk:setChk f.K (Str.ofString n)=true)
  (hQ:∀s',St f ρ μ' s'→Q () s'):wpAny (model pw f.w) f.A (setAttr uo (Str.ofString n) u) Q E s:=by
 refine S.heapE fun m news F N l R k e=> ?_
 revert ho
 refine onRefV_elim h nn fun a h ho=> ?_
 ·subst ho
  refine q17 (Option.bind_eq_some_iff.mp h) fun ob hm h=> ?_
  cases ob with
  |inst C g j=>
   replace h:(if j < 900 then some (upd μ a (some (.inst C (upd g n (some v)) (cnt j (g n))))) else none)=some μ':=h
   split at h
   ·rename_i hj
    obtain rfl:=Option.some.inj h
    refine q28 (R.chgInst hm) fun dx es ep h0 h1 hc h2 h3 h4 h5 h6=> ?_
    have I:=InstAt.of_news N h1 h2
    have hk':=clsAll_of hk hc
    simp only[Bool.and_eq_true,beq_iff_eq] at hk'
    refine q10 hk' fun k1 k2 k3 k4=> ?_
    have hK:StrKd es:=h4
    have hsome:(getL (Str.ofString n) es).isSome=true:=by rw[getL_eq hK];rfl
    refine set_dict F ok.kin N I rfl k1 k2 k3 k4 hsome rfl (upd_put R.nodup h2) ?_ fun h' F' N'=>hQ _ ?_
    ·exact Nat.le_trans putL_length (by lia)
    ·have kp:=keep_put (o':=dictOf (putL (Str.ofString n) (PyData.keyHash f.w.params (Str.ofString n)) (.str (Str.ofString n) (s.toks+1)) u es) (putN (Str.ofString n) es ep)) R.nodup h2 not_foreign_dict
     refine S.of (h:=h') (t:=s.toks+2) rfl F' N' (l.sub kp) (h6 _ _ _ _ ?_ (putL_keys hK) fun x=> ?_) (k.put h0)
     ·cases q:g n with
      |none=>exact Nat.le_trans putL_length (Nat.succ_le_succ h3)
      |some w=>
       have:=h5 n
       rw[q] at this
       refine q17 this fun u' hu _=> ?_
       rw[getL_eq hK] at hu
       cases hf:es.find? (·.key.isStr (Str.ofString n)) with
       |none=>rw[hf] at hu;cases hu
       |some e=>rw[putL_length_old hf];exact h3
     ·have hp:=putL_keys (name:=Str.ofString n) (hsh:=PyData.keyHash f.w.params (Str.ofString n)) (t:=s.toks+1) (v:=u) hK
      by_cases hx:x=n
      ·rw[hx]
       rw[aj]
       exact⟨u,by rw[getL_eq hp,putL_find_same],hv⟩
      ·rw[af _ _ hx]
       have:=h5 x
       rw[getL_eq hp,putL_find_ne (fun e=>hx (ofString_inj e)),←getL_eq hK]
       exact this
   ·exact absurd h nn
  |_=>exact absurd h nn
theorem valueAt_stored{K:Type} [DecidableEq K](kvs:List (K×Value))(k k':K)(v:Value):valueAt (stored kvs k v) k'=if k'=k then some v else valueAt kvs k':=by
 unfold valueAt stored
 by_cases hany:(kvs.any fun kv=>decide (kv.1=k))=true
 ·rw[if_pos hany]
  induction kvs with
  |nil=>simp at hany
  |cons p r ih=>
   simp only[List.map_cons,List.find?_cons]
   by_cases hp:p.1=k
   ·simp only[hp,if_true]
    by_cases hk:k=k'
    ·rw[hk];simp
    ·have hk':¬k'=k:=fun e=>hk e.symm
     simp only[hk,decide_false,hk',if_false]
     have:∀l:List (K×Value),(l.map fun kv=>if kv.1=k then(kv.1,v) else kv).find? (fun kv=>decide (kv.1=k'))=l.find? (fun kv=>decide (kv.1=k')):=by
      intro l
      induction l with
      |nil=>rfl
      |cons z l il=>
       simp only[List.map_cons,List.find?_cons]
       by_cases hz:z.1=k
       ·have:¬z.1=k':=fun e=>hk (hz.symm.trans e)
        simp only[hz,if_true,hk,decide_false];exact il
       ·simp only[hz,if_false]
        split <;> first |rfl |exact il
     rw[this]
   ·simp only[hp,if_false]
    have hr:(r.any fun kv=>decide (kv.1=k))=true:=by simpa[hp] using hany
    by_cases hk:p.1=k'
    ·have:¬k'=k:=fun e=>hp (hk.trans e)
     simp[hk,this]
    ·simp only[hk,decide_false];exact ih hr
 ·rw[if_neg hany]
  rw[List.find?_append]
  by_cases hk:k'=k
  ·subst hk
   have:kvs.find? (fun kv=>decide (kv.1=k'))=none:=by
    rw[List.find?_eq_none]
    intro x hx
    have h:=hany
    simp only[List.any_eq_true,not_exists,not_and] at h
    exact h x hx
   rw[this];simp
  ·rw[if_neg hk]
   cases kvs.find? (fun kv=>decide (kv.1=k')) with
   |some x=>rfl
   |none=>simp[show¬k=k' from fun e=>hk e.symm]
theorem stored_length{K:Type} [DecidableEq K](kvs:List (K×Value))(k:K)(v:Value):(stored kvs k v).length≤kvs.length+1:=by
 unfold stored
 split <;> simp
theorem valueAt_without{K:Type} [DecidableEq K](kvs:List (K×Value))(k k':K)(h:k'≠k):valueAt (without kvs k) k'=valueAt kvs k':=by
 unfold valueAt without
 congr 1
 induction kvs with
 |nil=>rfl
 |cons p r ih=>
  simp only[List.filter_cons,List.find?_cons]
  by_cases hp:p.1=k
  ·simp only[hp,ne_eq,not_true,decide_false,Bool.false_eq_true,if_false]
   have:¬k=k':=fun e=>h e.symm
   simp only[this,decide_false];exact ih
  ·simp only[hp,ne_eq,not_false_iff,decide_true,if_true,List.find?_cons]
   split
   ·rfl
   ·exact ih
theorem without_length{K:Type} [DecidableEq K](kvs:List (K×Value))(k:K):(without kvs k).length≤kvs.length:=List.length_filter_le _ _
theorem isDictOf_notForeign{w:World}{K:Type} [DecidableEq K]{knd:KeyKind pw w K}{o:Obj}{kvs:List (K×Value)}(h:o.IsDictOf knd kvs):¬Foreign o:=fun q=>by
 refine q18 h fun es ep u_ hd u_=> ?_
 exact q.2 es ep hd
theorem ki_setL_set{u:Value}:∀(l:List Value) (i:Nat),i < l.length→ki_setL l i u=some (l.set i u):=by
 intro l
 induction l with
 |nil=>intro i hi;simp at hi
 |cons x r ih=>
  intro i hi
  cases i with
  |zero=>rfl
  |succ i=>unfold ki_setL;rw[ih i (by simpa using hi)];rfl
theorem st_setItem(ok:f.Ok d)(S:St f ρ μ s){o i v:MV}{uo ui u:Value}{μ':MH}{Q:Unit→Shared→Prop}(ho:VR o uo)(hi:VR i ui)(hv:VR v u)(h:setItemM μ o i v=some μ')
  (hQ:∀s',St f ρ μ' s'→Q () s'):wpAny (model pw f.w) f.A (setItem uo ui u) Q E s:=by
 refine S.heapE fun m news F N l R k e=> ?_
 revert ho
 refine onRefV_elim (e:=o) h nn fun a h ho=> ?_
 subst ho
 refine q17 (Option.bind_eq_some_iff.mp h) fun o hm h=> ?_
 refine q17 R.ex fun dx hx _=> ?_
 cases o with
 |idict g n=>
  revert hi
  refine onIntV_elim (e:=i) h nn fun j h hi=> ?_
  refine q0 (ite_some h) fun hn e=> ?_
  subst e
  refine q1 hi.int fun t rf1=> ?_
  subst rf1
  refine q22 (hx a _ hm) fun ob kvs h1 h2 h3 h4=> ?_
  refine kda_set F N (updF_put R.nodup h1) h2 (intKind_is _ _ _ _) (by rw[sizeLine_eq];lia) fun h' o' F' N' hd=>hQ _ ?_
  have kp:=keep_put (o':=o') R.nodup h1 (isDictOf_notForeign h2)
  exact S.of (h:=h') (t:=s.toks+1) rfl F' N' (l.sub kp) (R.chg hm rfl rfl (fun _ _ hmem=> ⟨o',_,hmem,hd,Nat.le_trans (stored_length _ _ _) (Nat.succ_le_succ h3),fun k' v' e=>by
   rw[valueAt_stored]
   unfold upd at e
   by_cases q:k'=j
   ·rw[if_pos q] at e⊢;obtain rfl:=Option.some.inj e;exact⟨u,rfl,hv⟩
   ·rw[if_neg q] at e⊢;exact h4 k' v' e⟩) h1) (k.put (R.apart hm))
 |sdict g n=>
  revert hi
  refine onStrV_elim (e:=i) h nn fun j h hi=> ?_
  refine q0 (ite_some h) fun hn e=> ?_
  subst e
  refine q1 hi.str fun t rf1=> ?_
  subst rf1
  refine q22 (hx a _ hm) fun ob kvs h1 h2 h3 h4=> ?_
  refine kda_set F N (updF_put R.nodup h1) h2 (strKind_is _ _ _ _) (by rw[sizeLine_eq];lia) fun h' o' F' N' hd=>hQ _ ?_
  have kp:=keep_put (o':=o') R.nodup h1 (isDictOf_notForeign h2)
  exact S.of (h:=h') (t:=s.toks+1) rfl F' N' (l.sub kp) (R.chg hm rfl rfl (fun _ _ hmem=> ⟨o',_,hmem,hd,Nat.le_trans (stored_length _ _ _) (Nat.succ_le_succ h3),fun k' v' e=>by
   rw[valueAt_stored]
   unfold upd at e
   by_cases q:k'=j
   ·rw[if_pos q] at e⊢;obtain rfl:=Option.some.inj e;exact⟨u,rfl,hv⟩
   ·rw[if_neg q] at e⊢;exact h4 k' v' e⟩) h1) (k.put (R.apart hm))
 |list xs=>
  revert hi
  refine onIntV_elim (e:=i) h nn fun j h hi=> ?_
  refine q0 (ite_some h) fun hc e=> ?_
  replace e:=e.symm;subst e
  refine q1 hi.int fun t rf1=> ?_
  subst rf1
  refine q20 (hx a _ hm) fun vs n h1 h2=> ?_
  have hlen:=h2.length
  refine q2 hc fun c1 c2 c3=> ?_
  unfold LIM at c3
  have hlt:j.toNat < vs.length:=by lia
  exact ki_set (q:=vs.set j.toNat u) F N c1 (by lia) (by simpa using ki_setL_set vs j.toNat hlt) (upd_put R.nodup h1) fun h' F' N'=>hQ _ (S.chgList l R k ok hm h1 (h2.set _ hv) F' N')
 |_=>exact absurd h nn
end
noncomputable def bmName:BM→Str
 | .append=>"append"
 | .pop=>"pop"
 | .popAt=>"pop"
 | .extend=>"extend"
 | .insert=>"insert"
 | .index=>"index"
 | .remove=>"remove"
 | .dget=>"get"
 | .dpop=>"pop"
 | .join=>"join"
noncomputable def bmId:BM→String
 | .append=>"list.append"
 | .pop=>"list.pop"
 | .popAt=>"list.pop"
 | .extend=>"list.extend"
 | .insert=>"list.insert"
 | .index=>"list.index"
 | .remove=>"list.remove"
 | .dget=>"dict.get"
 | .dpop=>"dict.pop"
 | .join=>"str.join"
theorem kl_last_of:∀(p:List Value) (y:Value),kl_last (p++ [y])=some (p,y)
 | [],y=>rfl
 |x::p,y=>by rw[List.cons_append,kl_last,kl_last_of p y]
theorem kl_cut_of:∀(p q:List Value) (y:Value),kl_cut (p++y::q) p.length=some (p,y,q)
 | [],q,y=>rfl
 |x::p,q,y=>by rw[List.cons_append,List.length_cons,kl_cut,kl_cut_of p q y]
set_option tactic.hygienic true in theorem VRs.last{xs:List MV}{vs:List Value}{y:MV}(h:VRs xs vs)(e:xs.getLast?=some y):∃p u,vs=p++ [u]∧VR y u∧VRs xs.dropLast p:=by
 induction h with
 |nil=>simp at e
 |cons a r ih=>
  rename_i v u vs' us'
  cases r with
  |nil=>simp at e;replace e:=e.symm;subst e;exact⟨[],_,rfl,a, .nil⟩
  |cons b r'=>
   rw[List.getLast?_cons_cons] at e
   refine q18 (ih e) fun p u' hp hu hr=> ?_
   refine⟨_::p,u',by rw[hp];rfl,hu,?_⟩
   rw[List.dropLast_cons_cons]
   exact .cons a hr
theorem listFits_small{i:Int}(h0: -(2 ^ 63)≤i)(h1:i < 2 ^ 63):Builtin.List.listFitsIndex i=true:=by
 unfold Builtin.List.listFitsIndex
 simp
 lia
theorem ki_delL_of:∀(l:List Value) (k:Nat),k < l.length→ki_delL l k=some (l.eraseIdx k)
 | [],_,h=>by simp at h
 |x::r,0,h=>rfl
 |x::r,k+1,h=>by
  unfold ki_delL
  rw[ki_delL_of r k (by simpa using h)];rfl
theorem tooLong_no{its:Array Value}{n:Nat}(h:n≤100000):¬(!its.isEmpty && Builtin.List.listTooLong n)=true:=by
 unfold Builtin.List.listTooLong
 rw[sizeLine_eq]
 simp
 intro _;lia
section
variable{v:MV}{vs:List MV}
@[elab_as_elim]theorem refP_elim{P:MV→Prop}{f:Addr→Prop}(h:refP v f)(k:∀a,f a→P (.ref a)):P v:=by
 cases v with
 |ref=>exact k _ h
 |_=>exact h.elim
@[elab_as_elim]theorem intP_elim{P:MV→Prop}{f:Int→Prop}(h:intP v f)(k:∀a,f a→P (.int a)):P v:=by
 cases v with
 |int=>exact k _ h
 |_=>exact h.elim
@[elab_as_elim]theorem strP_elim{P:MV→Prop}{f:Str→Prop}(h:strP v f)(k:∀a,f a→P (.str a)):P v:=by
 cases v with
 |str=>exact k _ h
 |_=>exact h.elim
@[elab_as_elim]theorem noneP_elim{P:MV→Prop}{p:Prop}(h:noneP v p)(k:p→P .none):P v:=by
 cases v with
 |none=>exact k h
 |_=>exact h.elim
@[elab_as_elim]theorem nilP_elim{P:List MV→Prop}{p:Prop}(h:nilP vs p)(k:p→P []):P vs:=by
 cases vs with
 |nil=>exact k h
 |cons=>exact h.elim
@[elab_as_elim]theorem consP_elim{P:List MV→Prop}{f:MV→List MV→Prop}(h:consP vs f)(k:∀v r,f v r→P (v::r)):P vs:=by
 cases vs with
 |nil=>exact h.elim
 |cons=>exact k _ _ h
@[elab_as_elim]theorem oneP_elim{P:List MV→Prop}{f:MV→Prop}(h:oneP vs f)(k:∀v,f v→P [v]):P vs:=consP_elim h fun v u_ h=>nilP_elim (P:=fun r=>P (v::r)) h (k v)
@[elab_as_elim]theorem twoP_elim{P:List MV→Prop}{f:MV→MV→Prop}(h:twoP vs f)(k:∀v w,f v w→P [v,w]):P vs:=consP_elim h fun v u_ h=>oneP_elim (P:=fun r=>P (v::r)) h (k v)
set_option tactic.hygienic true in theorem dictAt_elim{μ:MH}(h:dictAt μ v=true):∃a g k,v= .ref a∧μ a=some (.idict g k):=by
 refine onRefV_elim h ff fun a h=> ?_
 refine q1 (Option.isSome_iff_exists.mp h) fun u h=> ?_
 refine q17 (Option.bind_eq_some_iff.mp h) fun o e h=> ?_
 cases o with
 |idict g k=>exact⟨a,g,k,rfl,e⟩
 |_=>exact absurd h nn
theorem VRs.one{x:MV}{us:List Value}(h:VRs [x] us){P:List Value→Prop}(k:∀u,VR x u→P [u]):P us:=by
 cases h with |cons a b=>cases b with |nil=>exact k _ a
end
section
variable{f:Fm}{d:Nat}{ρ:ao}{μ:MH}{s:Shared}{E:Value→Shared→Prop}
theorem st_method{n:BM}{v:MV}{u:Value}{pl:Sem Bool}{Q:Value×List Value→Shared→Prop}(S:St f ρ μ s)(hv:VR v u)(h:bmOk n v μ=true)(hQ:Q (.builtin (bmId n),[u]) s):
  wpAny (model pw f.w) f.A (getMethod u (bmName n) pl) Q E s:=by
 have lst:∀{v:MV} {u:Value} {name:Str} {id:String},VR v u→(listAt μ v).isSome=true→Slot "list" name id→typeOf (.builtin id)=pure (.type "method_descriptor")→Q (.builtin id,[u]) s→wpAny (model pw f.w) f.A (getMethod u name pl) Q E s:=by
  intro v u name id hv h slot ty hQ
  refine q1 (Option.isSome_iff_exists.mp h) fun xs h=> ?_
  revert hQ
  refine S.listE hv h fun a vs n m news hm hr F N l R kp hmem hQ=> ?_
  exact kl_method N hmem slot ty hQ
 have dct:∀{a:Addr} {u:Value} {name:Str} {id:String},VR (.ref a) u→(∃g k,μ a=some (.idict g k))→Slot "dict" name id→typeOf (.builtin id)=pure (.type "method_descriptor")→Q (.builtin id,[u]) s→wpAny (model pw f.w) f.A (getMethod u name pl) Q E s:=by
  intro a u name id hv h slot ty hQ
  refine q5 h fun g k hm=> ?_
  subst hv
  refine S.heapE fun m news F N l R kp e=> ?_
  refine q17 R.ex fun dx hx u_=> ?_
  refine q18 (hx a _ hm) fun ob kvs h1 h2 u_=> ?_
  exact kob_method slot ty N h1 h2 hQ
 cases n with
 |append=>exact lst hv h PySem.F.slot_list_append PySem.F.type_list_append hQ
 |pop=>exact lst hv h PySem.F.slot_list_pop PySem.F.type_list_pop hQ
 |popAt=>exact lst hv h PySem.F.slot_list_pop PySem.F.type_list_pop hQ
 |extend=>exact lst hv h PySem.F.slot_list_extend PySem.F.type_list_extend hQ
 |insert=>exact lst hv h PySem.F.slot_list_insert PySem.F.type_list_insert hQ
 |index=>exact lst hv h PySem.F.slot_list_index PySem.F.type_list_index hQ
 |remove=>exact lst hv h PySem.F.slot_list_remove PySem.F.type_list_remove hQ
 |dget=>
  refine q25 (dictAt_elim h) fun a g k rf3 hm=> ?_
  subst rf3
  exact dct hv ⟨g,k,hm⟩ PySem.F.slot_dict_get PySem.F.type_dict_get hQ
 |dpop=>
  refine q25 (dictAt_elim h) fun a g k rf3 hm=> ?_
  subst rf3
  exact dct hv ⟨g,k,hm⟩ PySem.F.slot_dict_pop PySem.F.type_dict_pop hQ
 |join=>
  cases v with
  |str x=>obtain⟨t,rfl⟩:=hv.str;exact GM.join hQ
  |_=>exact absurd h ff
theorem st_bm(ok:f.Ok d)(S:St f ρ μ s){n:BM}{v:MV}{vs:List MV}{u:Value}{us:List Value}{Φ:Pst}{Q:Value→Shared→Prop}(hv:VR v u)(hvs:VRs vs us)(h:bmP n v vs μ Φ)
  (hQ:∀u v μ' s',VR v u→St f ρ μ' s'→Φ v μ'→Q u s'):wpAny (model pw f.w) f.A (call (.builtin (bmId n)) (u::us)) Q E s:=by
 cases n
 ·revert hv hvs
  refine refP_elim h fun a h=> ?_
  refine oneP_elim h fun x h hv hvs=> ?_
  refine q19 h fun xs h1 h2 h3=> ?_
  cases hvs with |cons hx hn=>cases hn with |nil=>
  refine S.listR hv h1 fun ws k m news hm hr F N l R kp hmem=> ?_
  have hlen:=hr.length
  exact append_K F N (upd_put R.nodup hmem) (fun h' F' N'=>hQ _ .none _ _ rfl (S.chgList (us:=ws++ [_]) (n':=k+1) l R kp ok hm hmem (hr.append (.cons hx .nil)) F' (by simpa using N')) h3) (by rw[List.size_toArray,hlen];exact lim_line h2)
 ·revert hv hvs
  refine refP_elim h fun a h=> ?_
  refine nilP_elim h fun h hv hvs=> ?_
  refine q22 h fun xs y h1 h2 h3 h4=> ?_
  cases hvs
  refine S.listR hv h1 fun ws k m news hm hr F N l R kp hmem=> ?_
  have hlen:=hr.length
  refine q18 (hr.last h3) fun p z rf2 hz hp=> ?_
  replace rf2:=rf2.symm;subst rf2
  exact kl_pop (p:=p) (y:=z) F N (by simpa using kl_last_of p z) (upd_put R.nodup hmem) (by simp only;rw[hlen];exact lim_line h2) fun h' F' N'=>hQ _ _ _ _ hz (S.chgList l R kp ok hm hmem hp F' N') h4
 ·revert hv hvs
  refine refP_elim h fun a h=> ?_
  refine oneP_elim h fun v2 h=> ?_
  refine intP_elim h fun i h hv hvs=> ?_
  refine q31 h fun xs j y h1 h2 h3 h4 h5=> ?_
  cases hvs with |cons hx hn=>cases hn with |nil=>
  refine q1 hx.int fun t rf1=> ?_
  rw[rf1]
  refine S.listR hv h1 fun ws k m news hm hr F N l R kp hmem=> ?_
  have hlen:=hr.length
  refine q31 (hr.split h4) fun p z q hws hp hz hq1 hq2=> ?_
  have hi:Builtin.List.listFitsIndex i=true∧seqIndex? i ws.toArray.size=some j:=by
   rw[←hlen] at h3
   refine⟨?_,(pyIdx_seq h3).1⟩
   refine q0 (pyIdx_inv h3) fun c c2=> ?_
   exact listFits_small (by lia) (by lia)
  refine kl_popAt (p:=p) (y:=z) (q:=q) F N hi.1 hi.2 ?_ (upd_put R.nodup hmem) (by simp only;rw[hlen];exact lim_line h2) fun h' F' N'=>hQ _ _ _ _ hz (S.chgList l R kp ok hm hmem ?_ F' N') h5
  ·subst hp;rw[hws];simpa using kl_cut_of p q z
  ·rw[List.eraseIdx_eq_take_drop_succ];exact hq1.append hq2
 ·revert hv hvs
  refine refP_elim h fun a h=> ?_
  refine oneP_elim h fun v2 h=> ?_
  refine refP_elim h fun b h hv hvs=> ?_
  refine q32 h fun xs ys h1 h2 h3 h4 h5=> ?_
  cases hvs with |cons hx hn=>cases hn with |nil=>
  refine S.listR hv h1 fun ws k m news hm hr F N l R kp hmem=> ?_
  have hlen:=hr.length
  subst hx
  refine q17 R.ex fun dx q1 u_=> ?_
  have hm2:μ b=some (.list ys):=listAt_elim (P:=fun v=>v= .ref b→μ b=some (.list ys)) h2 (fun c hc e=>by cases e;exact hc) rfl
  ·refine q20 (q1 b _ hm2) fun ws2 n2 hmem2 hr2=> ?_
   have hlen2:=hr2.length
   unfold LIM at h3 h4
   cases ys with
   |nil=>
    cases hr2
    refine kxn_extend F N hmem2 rfl (upd_put (o':=W.listOf ws.toArray k) R.nodup hmem) (tooLong_no ?_) (by rw[sizeLine_eq,Array.length_toList,List.size_toArray];lia) (by rw[sizeLine_eq,List.size_toArray];simp;lia) fun h' F' N'=>
     hQ _ .none _ _ rfl (S.chgList l R kp ok hm hmem (by simpa using hr) F' N') h5
    rw[List.size_toArray,List.size_toArray];simp;lia
   |cons y0 r0=>
    refine kl_extend (l:=ws++ws2) F N hmem2 (rfl) (by simp only;rw[hlen2];simp) (upd_put R.nodup hmem) (tooLong_no ?_) ?_ ?_ fun h' F' N'=>hQ _ .none _ _ rfl (S.chgList l R kp ok hm hmem (hr.append hr2) F' N') h5
    ·rw[List.size_toArray,List.size_toArray];lia
    ·rw[sizeLine_eq];simp only;lia
    ·rw[sizeLine_eq];simp only[List.size_toArray];lia
 ·revert hv hvs
  refine refP_elim h fun a h=> ?_
  refine twoP_elim h fun v2 y h=> ?_
  refine intP_elim h fun i h hv hvs=> ?_
  refine q40 h fun xs h1 h2 h3 h4 h5=> ?_
  cases hvs with |cons hx hn=>cases hn with |cons hy hn=>cases hn with |nil=>
  refine q1 hx.int fun t rf1=> ?_
  subst rf1
  refine S.listR hv h1 fun ws k m news hm hr F N l R kp hmem=> ?_
  have hlen:=hr.length
  unfold LIM at h2
  refine kl_insert F N (listFits_small (by lia) (by lia)) rfl (upd_put R.nodup hmem) (by rw[sizeLine_eq];simp only;lia) fun h' F' N'=>hQ _ .none _ _ rfl (S.chgList l R kp ok hm hmem ?_ F' N') h5
  have e:∀z,kl_ins ws i z=ws.take i.toNat++z::ws.drop i.toNat:=fun z=>by
   unfold kl_ins
   rw[if_neg (by lia),Nat.min_eq_left (by lia)]
  simp only
  rw[e]
  exact(hr.take _).append (.cons hy (hr.drop _))
 ·revert hv hvs
  refine refP_elim h fun a h=> ?_
  refine oneP_elim h fun v2 h=> ?_
  refine intP_elim h fun k h hv hvs=> ?_
  refine q32 h fun xs is h1 h2 h3 h4 h5=> ?_
  cases hvs with |cons hx hn=>cases hn with |nil=>
  refine q1 hx.int fun t rf1=> ?_
  subst rf1
  refine S.listR hv h1 fun ws k m news hm hr F N l R kp hmem=> ?_
  have hi:=hr.ints h3
  exact kf_index N hmem (by simpa using kf_ints_of hi) (by simpa using kf_at_of _ hi h4) rfl (by simp only;rw[hr.length];exact lim_line h2) (hQ _ (.int _) _ _ ⟨_,rfl⟩ (S.toks _) h5)
 ·revert hv hvs
  refine refP_elim h fun a h=> ?_
  refine oneP_elim h fun v2 h=> ?_
  refine intP_elim h fun k h hv hvs=> ?_
  refine q32 h fun xs is h1 h2 h3 h4 h5=> ?_
  cases hvs with |cons hx hn=>cases hn with |nil=>
  refine q1 hx.int fun t rf1=> ?_
  replace rf1:=rf1.symm;subst rf1
  refine q29 (S.list hv h1) fun a' ws k' m news hva rf6 hm hr F N l R kp hmem=> ?_
  replace rf6:=rf6.symm;subst rf6
  cases hva
  have hi:=hr.ints h3
  have hlt:is.idxOf k < ws.length:=by
   have:=List.idxOf_lt_length_of_mem h4
   have:=hi.length
   lia
  exact kf_remove (q:=ws.eraseIdx (is.idxOf k)) F N (by simpa using kf_ints_of hi) (by simpa using kf_at_of _ hi h4) (by simpa using ki_delL_of ws _ hlt) (upd_put R.nodup hmem) (by simp only;rw[hr.length];exact lim_line h2)
   fun h' F' N'=>hQ _ .none _ _ rfl (S.chgList l R kp ok hm hmem (hr.eraseIdx _) F' N') h5
 ·revert hv hvs
  refine refP_elim h fun a h=> ?_
  refine twoP_elim h fun v2 v3 h=> ?_
  refine intP_elim h fun k h=> ?_
  refine noneP_elim h fun h hv hvs=> ?_
  refine q1 h fun w w1_=> ?_
  refine q0 w1_ fun h1 w2_=> ?_
  refine q0 w2_ fun w3_ h3=> ?_
  refine q5 w3_ fun g n hm=> ?_
  cases hvs with |cons hx hn=>cases hn with |cons hy hn=>cases hn with |nil=>
  refine q1 hx.int fun t rf1=> ?_
  subst rf1
  subst hy
  subst hv
  refine S.heapE fun m news F N l R kp e=> ?_
  refine q17 R.ex fun dx q1 u_=> ?_
  refine q22 (q1 a _ hm) fun ob kvs k1 k2 k3 k4=> ?_
  have hg:g k=some w:=(item_of hm).symm.trans h1
  refine q17 (k4 _ _ hg) fun u' hu hw=> ?_
  have lo:(a==sysModules)=false:=by
   obtain⟨o,ho⟩:=ok.mods
   have:=(N _ k1).2.2
   cases q:a==sysModules with
   |false=>rfl
   |true=>rw[eq_of_beq q,ho] at this;exact absurd this.symm nn
  exact kdg_get2 N k1 k2 lo (intKind_is _ _ _ _) (some u') hu (hQ _ _ _ _ hw (S.toks _) h3)
 ·revert hv hvs
  refine refP_elim h fun a h=> ?_
  refine oneP_elim h fun v2 h=> ?_
  refine intP_elim h fun k h hv hvs=> ?_
  refine q27 h fun g n w hm hn' hg h3=> ?_
  cases hvs with |cons hx hn=>cases hn with |nil=>
  refine q1 hx.int fun t rf1=> ?_
  replace rf1:=rf1.symm;subst rf1
  replace hv:=hv.symm;subst hv
  refine S.heapE fun m news F N l R kp e=> ?_
  refine q17 R.ex fun dx q1 u_=> ?_
  refine q22 (q1 a _ hm) fun ob kvs k1 k2 k3 k4=> ?_
  refine q17 (k4 _ _ hg) fun u' hu hw=> ?_
  refine kob_pop (more:= []) F N (updF_put R.nodup k1) k2 (intKind_is _ _ _ _) (.inl rfl) rfl (PySem.F.args_dict_pop_2 _ _) hu (by rw[sizeLine_eq];lia) fun h' o' F' N' hd=>hQ _ _ _ _ hw ?_ h3
  have kq:=keep_put (o':=o') R.nodup k1 (isDictOf_notForeign k2)
  exact S.of (h:=h') (t:=s.toks+1) rfl F' N' (l.sub kq) (R.chg hm rfl rfl (fun u_ u_ hmem=> ⟨o',_,hmem,hd,Nat.le_trans (without_length _ _) k3,fun k' v' e=>by
   unfold upd at e
   split at e
   ·exact absurd e nn
   ·rename_i q;rw[valueAt_without _ _ _ q];exact k4 k' v' e⟩) k1) (kp.put (R.apart hm))
 ·revert hv hvs
  refine strP_elim h fun x h=> ?_
  refine oneP_elim h fun y h=> ?_
  refine refP_elim h fun b h hv hvs=> ?_
  refine q39 h fun xs ts h1 h2 h3 h4 h5 h6=> ?_
  cases hvs with |cons hx hn=>cases hn with |nil=>
  refine q1 hv.str fun t rf1=> ?_
  subst rf1
  refine q29 (S.list hx h1) fun a' ws k' m news hva rf6 hm hr F N l R kp hmem=> ?_
  subst rf6
  have hst:=hr.strs h2
  unfold sumLen at h4
  have hl:ts.length=xs.length:=by
   have:∀{xs:List MV} {ts:List Str},strsOf xs=some ts→ts.length=xs.length:=by
    intro xs
    induction xs with
    |nil=>
     intro ts h
     have:ts= []:=by simpa[strsOf] using h.symm
     subst this;rfl
    |cons y r ih=>
     intro ts h
     unfold strsOf at h
     rw[List.mapM_cons] at h
     refine q17 (Option.bind_eq_some_iff.mp h) fun j hj h=> ?_
     refine q17 (Option.bind_eq_some_iff.mp h) fun js hjs h=> ?_
     obtain rfl:=Option.some.inj h
     rw[List.length_cons,List.length_cons,ih hjs]
   exact this h2
  unfold LIM at h3
  exact join_listW (news_isList N hmem) (hst) (by lia) (by lia) fun t' k=>hQ _ (.str _) _ _ ⟨_,rfl⟩ (S.toks _) h6
end
section
variable{f:Fm}{d:Nat}{ρ:ao}{μ:MH}{s:Shared}{E:Value→Shared→Prop}{Q:Value→Shared→Prop}
theorem st_len(S:St f ρ μ s){v:MV}{u:Value}{xs:List MV}(hv:VR v u)(h:listAt μ v=some xs)(hl:xs.length < LIM)(hQ:∀u' s',VR (.int xs.length) u'→St f ρ μ s'→Q u' s'):
  wpAny (model pw f.w) f.A (call (.builtin "len") [u]) Q E s:=by
 refine S.listE hv h fun a vs n m news hm hr F N l R kp hmem=> ?_
 have hlen:=hr.length
 unfold LIM at hl
 exact KM.len_K N hmem ((List.size_toArray.trans hlen)) (by lia) (hQ _ _ ⟨_,rfl⟩ (S.toks _))
theorem st_sum(ok:f.Ok d)(S:St f ρ μ s){v:MV}{u:Value}{xs:List MV}{is:List Int}(hv:VR v u)(h:listAt μ v=some xs)(hi:intsOf xs=some is)(hQ:∀u' s',VR (.int is.sum) u'→St f ρ μ s'→Q u' s'):
  wpAny (model pw f.w) f.A (call (.builtin "sum") [u]) Q E s:=by
 refine S.listE hv h fun a vs n m news hm hr F N l R kp hmem=> ?_
 exact LSm.sum_ints F N ok.handled (news_isList N hmem) (hr.ints hi) fun h' tk t' F' N'=>hQ _ _ ⟨_,rfl⟩ (S.of (h:=h') (t:=tk) rfl F' N' l R kp)
theorem st_str(S:St f ρ μ s){v:MV}{u:Value}{i:Int}(hv:VR v u)(h:intOf v=some i)(hs:small i=true)(hQ:∀u' s',VR (.str (itext i)) u'→St f ρ μ s'→Q u' s'):
  wpAny (model pw f.w) f.A (call (.type "str") [u]) Q E s:=by
 cases v with
 |int j=>obtain rfl:=Option.some.inj h;obtain⟨t,rfl⟩:=hv.int;exact P.str_of_int (small_log hs) (hQ _ _ ⟨_,rfl⟩ (S.toks _))
 |none |bool |str |ref=>exact absurd h nn
theorem st_field(S:St f ρ μ s){v:MV}{u:Value}{i:Int}(hv:VR v u)(h:intOf v=some i)(hs:small i=true)(hQ:∀u' s',VR (.str (itext i)) u'→St f ρ μ s'→Q u' s'):
  wpAny (model pw f.w) f.A (formatField u Str.empty) Q E s:=by
 cases v with
 |int j=>obtain rfl:=Option.some.inj h;obtain⟨t,rfl⟩:=hv.int;exact PyProof.Rows.formatField_int_small (small_log hs) (hQ _ _ ⟨_,rfl⟩ (S.toks _))
 |none |bool |str |ref=>exact absurd h nn
theorem st_listOf(S:St f ρ μ s){v:MV}{u:Value}{xs:List MV}(hv:VR v u)(h:listAt μ v=some xs)(hl:xs.length < LIM)(hQ:∀a s',μ a=none→St f ρ (upd μ a (some (.list xs))) s'→Q (.ref a) s'):
  wpAny (model pw f.w) f.A (call (.type "list") [u]) Q E s:=by
 refine S.listE hv h fun a vs n m news hm hr F N l R kp hmem=> ?_
 refine kup_listOf (zs:=vs) F N hmem (rfl) (fun q c h' F' N' hq=> ?_) (by rw[Array.length_toList,List.size_toArray,hr.length];exact lim_line hl)
 refine q0 (S.alloc (o:= .list xs) l R kp F' N' hq rfl fun u_ u_ h=> ⟨vs,c,h,hr⟩) fun k1 k2=> ?_
 exact hQ _ _ k1 k2
theorem St.more(S:St f ρ μ s)(ob:Obj)(hf:ob.isFreed=false):St f ρ μ {s with heap:=s.heap.push ob}:=by
 refine S.heapE fun m news F N l R k e=> ?_
 exact S.of (h:=s.heap.push ob) (t:=s.toks) rfl (F.push ob) (N.push F ob hf) (l.sub fun p hp u_=> .tail _ hp) (R.more _ fun p hp=>Heap.lt_size (N p hp).1) (k.cons _)
theorem st_rev(S:St f ρ μ s){v:MV}{u:Value}{xs:List MV}{value:Expr}{lo up:Option Expr}{st:Expr}{pos:Pos}{t:Tok}(hv:VR v u)(h:listAt μ v=some xs)(hl:xs.length < LIM)
  (hQ:∀a s',μ a=none→St f ρ (upd μ a (some (.list xs.reverse))) s'→Q (.ref a) s'):
  wpAny (model pw f.w) f.A (subscriptTail value (.Slice lo up (some st) pos) u (.ref s.heap.objs.size)) Q E {s with heap:=s.heap.push {cls:= .type "slice",data:= .fields #[.none, .none, .int (-1) t]}}:=by
 have S':=S.more {cls:= .type "slice",data:= .fields #[.none, .none, .int (-1) t]} rfl
 refine S'.listE hv h fun a vs n m news hm hr F N l R kp hmem=> ?_
 have hL:=news_isList N hmem
 refine tail_any (ops:= [_,_]) hL.typeIs slot_list_getitem.lookup (wpAny_getItem_list_slice hL (Heap.IsSliceOf.new ..) .none .none (.int (-1) t) (by decide) ?_ (by rw[List.size_toArray,hr.length];exact lim_line hl)) rfl
 rw[krv_pick]
 refine q0 (S'.alloc (o:= .list xs.reverse) l R kp (F.push _) (N.push F (W.listOf vs.reverse.toArray 0)) (fun p hp=>Heap.lt_size (N p hp).1) rfl fun u_ u_ h=> ⟨vs.reverse,0,h,hr.reverse⟩) fun k1 k2=> ?_
 exact hQ _ _ k1 (k2)
theorem st_init(S:St f ρ μ s){v:MV}{u:Value}{xs:List MV}{value:Expr}{lo up:Option Expr}{pos:Pos}{t:Tok}(hv:VR v u)(h:listAt μ v=some xs)(hl:xs.length < LIM)
  (hQ:∀a s',μ a=none→St f ρ (upd μ a (some (.list xs.dropLast))) s'→Q (.ref a) s'):
  wpAny (model pw f.w) f.A (subscriptTail value (.Slice lo up none pos) u (.ref s.heap.objs.size)) Q E {s with heap:=s.heap.push {cls:= .type "slice",data:= .fields #[.none, .int (-1) t, .none]}}:=by
 have S':=S.more {cls:= .type "slice",data:= .fields #[.none, .int (-1) t, .none]} rfl
 refine S'.listE hv h fun a vs n m news hm hr F N l R kp hmem=> ?_
 have hL:=news_isList N hmem
 refine tail_any (ops:= [_,_]) hL.typeIs slot_list_getitem.lookup (wpAny_getItem_list_slice hL (Heap.IsSliceOf.new ..) .none (.int (-1) t) .none (by decide) ?_ (by rw[List.size_toArray,hr.length];exact lim_line hl)) rfl
 rw[kms_pick_eq]
 have e:kms_pick vs.toArray.toList none (some (-1))=vs.dropLast:=by
  rw[List.dropLast_eq_take]
  simp[kms_pick,kms_lo,kms_hi]
 rw[e]
 obtain⟨k1,k2⟩:=S'.alloc (o:= .list xs.dropLast) l R kp (F.push _) (N.push F (W.listOf vs.dropLast.toArray 0)) (fun p hp=>Heap.lt_size (N p hp).1) rfl fun u_ u_ h=> ⟨vs.dropLast,0,h,by rw[List.dropLast_eq_take,List.dropLast_eq_take,hr.length];exact hr.take _⟩
 exact hQ _ _ k1 (k2)
theorem evalArgs_any{M:Model}{A:Around}{fv:Value}{trees:List (Bool×Sem Value)}{Q:Args→Shared→Prop}(hp:trees.any (·.1)=false)(h:wpAny M A (spliced trees) (fun vs s₁=>Q ⟨vs,[]⟩ s₁) E s):
  wpAny M A (evalArgs fv true trees []) Q E s:=by
 cases trees with
 |nil=>
  unfold evalArgs
  show wpAny M A (spliced [] >>=_) Q E s
  refine wpAny_bind (wpAny_mono h (fun vs s' h'=> ?_) fun u_ u_ x=>x)
  refine wpAny_bind (wpAny_pure ?_)
  refine wpAny_holding ?_
  exact wpAny_bind (wpAny_pure (wpAny_bind (wpAny_pure (wpAny_pure h'))))
 |cons t r=>
  obtain⟨b,t⟩:=t
  have hb:b=false:=by
   simp only[List.any_cons,Bool.or_eq_false_iff] at hp
   exact hp.1
  subst hb
  exact evalArgs_plain h
end
section
variable{α:Type}{z v:α}
noncomputable def onName(e:Expr)(z:α)(f:Str→Pos→α):α:=if h:e.ctorIdx=23 then Expr.Name.elim e h f else z
@[elab_as_elim]theorem onName_elim{P:Expr→Prop}{e:Expr}{f:Str→Pos→α}(h:onName e z f=v)(hz:z≠v)(k:∀y p,f y p=v→P (.Name y p)):P e:=
 if c:e.ctorIdx=23 then Expr.Name.elim (motive_1:=fun e=>onName e z f=v→P e) e c k h else absurd ((dif_neg c).symm.trans h) hz
noncomputable def onConstant(e:Expr)(z:α)(f:Const→Nat→Pos→α):α:=if h:e.ctorIdx=19 then Expr.Constant.elim e h f else z
@[elab_as_elim]theorem onConstant_elim{P:Expr→Prop}{e:Expr}{f:Const→Nat→Pos→α}(h:onConstant e z f=v)(hz:z≠v)(k:∀c k p,f c k p=v→P (.Constant c k p)):P e:=
 if c:e.ctorIdx=19 then Expr.Constant.elim (motive_1:=fun e=>onConstant e z f=v→P e) e c k h else absurd ((dif_neg c).symm.trans h) hz
noncomputable def onAttribute(e:Expr)(z:α)(f:Expr→Str→Pos→α):α:=if h:e.ctorIdx=20 then Expr.Attribute.elim e h f else z
@[elab_as_elim]theorem onAttribute_elim{P:Expr→Prop}{e:Expr}{f:Expr→Str→Pos→α}(h:onAttribute e z f=v)(hz:z≠v)(k:∀o y p,f o y p=v→P (.Attribute o y p)):P e:=
 if c:e.ctorIdx=20 then Expr.Attribute.elim (motive_1:=fun e=>onAttribute e z f=v→P e) e c k h else absurd ((dif_neg c).symm.trans h) hz
noncomputable def onSubscript(e:Expr)(z:α)(f:Expr→Expr→Pos→α):α:=if h:e.ctorIdx=21 then Expr.Subscript.elim e h f else z
@[elab_as_elim]theorem onSubscript_elim{P:Expr→Prop}{e:Expr}{f:Expr→Expr→Pos→α}(h:onSubscript e z f=v)(hz:z≠v)(k:∀o i p,f o i p=v→P (.Subscript o i p)):P e:=
 if c:e.ctorIdx=21 then Expr.Subscript.elim (motive_1:=fun e=>onSubscript e z f=v→P e) e c k h else absurd ((dif_neg c).symm.trans h) hz
noncomputable def onBinOp(e:Expr)(z:α)(f:Expr→Operator→Expr→Pos→α):α:=if h:e.ctorIdx=2 then Expr.BinOp.elim e h f else z
@[elab_as_elim]theorem onBinOp_elim{P:Expr→Prop}{e:Expr}{f:Expr→Operator→Expr→Pos→α}(h:onBinOp e z f=v)(hz:z≠v)(k:∀l o r p,f l o r p=v→P (.BinOp l o r p)):P e:=
 if c:e.ctorIdx=2 then Expr.BinOp.elim (motive_1:=fun e=>onBinOp e z f=v→P e) e c k h else absurd ((dif_neg c).symm.trans h) hz
noncomputable def onUnaryOp(e:Expr)(z:α)(f:UnaryOp→Expr→Pos→α):α:=if h:e.ctorIdx=3 then Expr.UnaryOp.elim e h f else z
@[elab_as_elim]theorem onUnaryOp_elim{P:Expr→Prop}{e:Expr}{f:UnaryOp→Expr→Pos→α}(h:onUnaryOp e z f=v)(hz:z≠v)(k:∀o x p,f o x p=v→P (.UnaryOp o x p)):P e:=
 if c:e.ctorIdx=3 then Expr.UnaryOp.elim (motive_1:=fun e=>onUnaryOp e z f=v→P e) e c k h else absurd ((dif_neg c).symm.trans h) hz
noncomputable def onCompare(e:Expr)(z:α)(f:Expr→List CmpOp→List Expr→Pos→α):α:=if h:e.ctorIdx=15 then Expr.Compare.elim e h f else z
@[elab_as_elim]theorem onCompare_elim{P:Expr→Prop}{e:Expr}{f:Expr→List CmpOp→List Expr→Pos→α}(h:onCompare e z f=v)(hz:z≠v)(k:∀l os rs p,f l os rs p=v→P (.Compare l os rs p)):P e:=
 if c:e.ctorIdx=15 then Expr.Compare.elim (motive_1:=fun e=>onCompare e z f=v→P e) e c k h else absurd ((dif_neg c).symm.trans h) hz
noncomputable def onBoolOp(e:Expr)(z:α)(f:BoolOp→List Expr→Pos→α):α:=if h:e.ctorIdx=0 then Expr.BoolOp.elim e h f else z
@[elab_as_elim]theorem onBoolOp_elim{P:Expr→Prop}{e:Expr}{f:BoolOp→List Expr→Pos→α}(h:onBoolOp e z f=v)(hz:z≠v)(k:∀o es p,f o es p=v→P (.BoolOp o es p)):P e:=
 if c:e.ctorIdx=0 then Expr.BoolOp.elim (motive_1:=fun e=>onBoolOp e z f=v→P e) e c k h else absurd ((dif_neg c).symm.trans h) hz
noncomputable def onIfExp(e:Expr)(z:α)(f:Expr→Expr→Expr→Pos→α):α:=if h:e.ctorIdx=5 then Expr.IfExp.elim e h f else z
@[elab_as_elim]theorem onIfExp_elim{P:Expr→Prop}{e:Expr}{f:Expr→Expr→Expr→Pos→α}(h:onIfExp e z f=v)(hz:z≠v)(k:∀c t x p,f c t x p=v→P (.IfExp c t x p)):P e:=
 if c:e.ctorIdx=5 then Expr.IfExp.elim (motive_1:=fun e=>onIfExp e z f=v→P e) e c k h else absurd ((dif_neg c).symm.trans h) hz
noncomputable def onCall(e:Expr)(z:α)(f:Expr→List Expr→List Keyword→Pos→α):α:=if h:e.ctorIdx=16 then Expr.Call.elim e h f else z
@[elab_as_elim]theorem onCall_elim{P:Expr→Prop}{e:Expr}{f:Expr→List Expr→List Keyword→Pos→α}(h:onCall e z f=v)(hz:z≠v)(k:∀g as ks p,f g as ks p=v→P (.Call g as ks p)):P e:=
 if c:e.ctorIdx=16 then Expr.Call.elim (motive_1:=fun e=>onCall e z f=v→P e) e c k h else absurd ((dif_neg c).symm.trans h) hz
noncomputable def onTuple(e:Expr)(z:α)(f:List Expr→Nat→Pos→α):α:=if h:e.ctorIdx=25 then Expr.Tuple.elim e h f else z
@[elab_as_elim]theorem onTuple_elim{P:Expr→Prop}{e:Expr}{f:List Expr→Nat→Pos→α}(h:onTuple e z f=v)(hz:z≠v)(k:∀es k p,f es k p=v→P (.Tuple es k p)):P e:=
 if c:e.ctorIdx=25 then Expr.Tuple.elim (motive_1:=fun e=>onTuple e z f=v→P e) e c k h else absurd ((dif_neg c).symm.trans h) hz
noncomputable def onList(e:Expr)(z:α)(f:List Expr→Pos→α):α:=if h:e.ctorIdx=24 then Expr.List.elim e h f else z
@[elab_as_elim]theorem onList_elim{P:Expr→Prop}{e:Expr}{f:List Expr→Pos→α}(h:onList e z f=v)(hz:z≠v)(k:∀es p,f es p=v→P (.List es p)):P e:=
 if c:e.ctorIdx=24 then Expr.List.elim (motive_1:=fun e=>onList e z f=v→P e) e c k h else absurd ((dif_neg c).symm.trans h) hz
noncomputable def onDict(e:Expr)(z:α)(f:List (Option Expr)→List Expr→Pos→α):α:=if h:e.ctorIdx=6 then Expr.Dict.elim e h f else z
@[elab_as_elim]theorem onDict_elim{P:Expr→Prop}{e:Expr}{f:List (Option Expr)→List Expr→Pos→α}(h:onDict e z f=v)(hz:z≠v)(k:∀ks es p,f ks es p=v→P (.Dict ks es p)):P e:=
 if c:e.ctorIdx=6 then Expr.Dict.elim (motive_1:=fun e=>onDict e z f=v→P e) e c k h else absurd ((dif_neg c).symm.trans h) hz
noncomputable def onJoinedStr(e:Expr)(z:α)(f:List Expr→Pos→α):α:=if h:e.ctorIdx=18 then Expr.JoinedStr.elim e h f else z
@[elab_as_elim]theorem onJoinedStr_elim{P:Expr→Prop}{e:Expr}{f:List Expr→Pos→α}(h:onJoinedStr e z f=v)(hz:z≠v)(k:∀es p,f es p=v→P (.JoinedStr es p)):P e:=
 if c:e.ctorIdx=18 then Expr.JoinedStr.elim (motive_1:=fun e=>onJoinedStr e z f=v→P e) e c k h else absurd ((dif_neg c).symm.trans h) hz
noncomputable def onFormatted(e:Expr)(z:α)(f:Expr→Int→Option Expr→Pos→α):α:=if h:e.ctorIdx=17 then Expr.FormattedValue.elim e h f else z
@[elab_as_elim]theorem onFormatted_elim{P:Expr→Prop}{e:Expr}{f:Expr→Int→Option Expr→Pos→α}(h:onFormatted e z f=v)(hz:z≠v)(k:∀x c o p,f x c o p=v→P (.FormattedValue x c o p)):P e:=
 if c:e.ctorIdx=17 then Expr.FormattedValue.elim (motive_1:=fun e=>onFormatted e z f=v→P e) e c k h else absurd ((dif_neg c).symm.trans h) hz
noncomputable def onListComp(e:Expr)(z:α)(f:Expr→List Comprehension→Scope→Pos→α):α:=if h:e.ctorIdx=8 then Expr.ListComp.elim e h f else z
@[elab_as_elim]theorem onListComp_elim{P:Expr→Prop}{e:Expr}{f:Expr→List Comprehension→Scope→Pos→α}(h:onListComp e z f=v)(hz:z≠v)(k:∀x gs s p,f x gs s p=v→P (.ListComp x gs s p)):P e:=
 if c:e.ctorIdx=8 then Expr.ListComp.elim (motive_1:=fun e=>onListComp e z f=v→P e) e c k h else absurd ((dif_neg c).symm.trans h) hz
noncomputable def onSlice(e:Expr)(z:α)(f:Option Expr→Option Expr→Option Expr→Pos→α):α:=if h:e.ctorIdx=26 then Expr.Slice.elim e h f else z
@[elab_as_elim]theorem onSlice_elim{P:Expr→Prop}{e:Expr}{f:Option Expr→Option Expr→Option Expr→Pos→α}(h:onSlice e z f=v)(hz:z≠v)(k:∀l u s p,f l u s p=v→P (.Slice l u s p)):P e:=
 if c:e.ctorIdx=26 then Expr.Slice.elim (motive_1:=fun e=>onSlice e z f=v→P e) e c k h else absurd ((dif_neg c).symm.trans h) hz
noncomputable def onAssign(e:Stmt)(z:α)(f:List Expr→Expr→Pos→α):α:=if h:e.ctorIdx=5 then Stmt.Assign.elim e h f else z
@[elab_as_elim]theorem onAssign_elim{P:Stmt→Prop}{e:Stmt}{f:List Expr→Expr→Pos→α}(h:onAssign e z f=v)(hz:z≠v)(k:∀ts x p,f ts x p=v→P (.Assign ts x p)):P e:=
 if c:e.ctorIdx=5 then Stmt.Assign.elim (motive_2:=fun e=>onAssign e z f=v→P e) e c k h else absurd ((dif_neg c).symm.trans h) hz
noncomputable def onExprS(e:Stmt)(z:α)(f:Expr→Pos→α):α:=if h:e.ctorIdx=24 then Stmt.Expr.elim e h f else z
@[elab_as_elim]theorem onExprS_elim{P:Stmt→Prop}{e:Stmt}{f:Expr→Pos→α}(h:onExprS e z f=v)(hz:z≠v)(k:∀x p,f x p=v→P (.Expr x p)):P e:=
 if c:e.ctorIdx=24 then Stmt.Expr.elim (motive_2:=fun e=>onExprS e z f=v→P e) e c k h else absurd ((dif_neg c).symm.trans h) hz
noncomputable def onReturn(e:Stmt)(z:α)(f:Option Expr→Pos→α):α:=if h:e.ctorIdx=3 then Stmt.Return.elim e h f else z
@[elab_as_elim]theorem onReturn_elim{P:Stmt→Prop}{e:Stmt}{f:Option Expr→Pos→α}(h:onReturn e z f=v)(hz:z≠v)(k:∀x p,f x p=v→P (.Return x p)):P e:=
 if c:e.ctorIdx=3 then Stmt.Return.elim (motive_2:=fun e=>onReturn e z f=v→P e) e c k h else absurd ((dif_neg c).symm.trans h) hz
noncomputable def onIf(e:Stmt)(z:α)(f:Expr→List Stmt→List Stmt→Pos→α):α:=if h:e.ctorIdx=12 then Stmt.If.elim e h f else z
@[elab_as_elim]theorem onIf_elim{P:Stmt→Prop}{e:Stmt}{f:Expr→List Stmt→List Stmt→Pos→α}(h:onIf e z f=v)(hz:z≠v)(k:∀c a b p,f c a b p=v→P (.If c a b p)):P e:=
 if c:e.ctorIdx=12 then Stmt.If.elim (motive_2:=fun e=>onIf e z f=v→P e) e c k h else absurd ((dif_neg c).symm.trans h) hz
noncomputable def onWhile(e:Stmt)(z:α)(f:Expr→List Stmt→List Stmt→Pos→α):α:=if h:e.ctorIdx=11 then Stmt.While.elim e h f else z
@[elab_as_elim]theorem onWhile_elim{P:Stmt→Prop}{e:Stmt}{f:Expr→List Stmt→List Stmt→Pos→α}(h:onWhile e z f=v)(hz:z≠v)(k:∀c a b p,f c a b p=v→P (.While c a b p)):P e:=
 if c:e.ctorIdx=11 then Stmt.While.elim (motive_2:=fun e=>onWhile e z f=v→P e) e c k h else absurd ((dif_neg c).symm.trans h) hz
noncomputable def onFor(e:Stmt)(z:α)(f:Expr→Expr→List Stmt→List Stmt→Pos→α):α:=if h:e.ctorIdx=9 then Stmt.For.elim e h f else z
@[elab_as_elim]theorem onFor_elim{P:Stmt→Prop}{e:Stmt}{f:Expr→Expr→List Stmt→List Stmt→Pos→α}(h:onFor e z f=v)(hz:z≠v)(k:∀x i a b p,f x i a b p=v→P (.For x i a b p)):P e:=
 if c:e.ctorIdx=9 then Stmt.For.elim (motive_2:=fun e=>onFor e z f=v→P e) e c k h else absurd ((dif_neg c).symm.trans h) hz
noncomputable def onRaise(e:Stmt)(z:α)(f:Option Expr→Option Expr→Pos→α):α:=if h:e.ctorIdx=16 then Stmt.Raise.elim e h f else z
@[elab_as_elim]theorem onRaise_elim{P:Stmt→Prop}{e:Stmt}{f:Option Expr→Option Expr→Pos→α}(h:onRaise e z f=v)(hz:z≠v)(k:∀x c p,f x c p=v→P (.Raise x c p)):P e:=
 if c:e.ctorIdx=16 then Stmt.Raise.elim (motive_2:=fun e=>onRaise e z f=v→P e) e c k h else absurd ((dif_neg c).symm.trans h) hz
noncomputable def onTry(e:Stmt)(z:α)(f:List Stmt→List ExceptHandler→List Stmt→List Stmt→Pos→α):α:=if h:e.ctorIdx=17 then Stmt.Try.elim e h f else z
@[elab_as_elim]theorem onTry_elim{P:Stmt→Prop}{e:Stmt}{f:List Stmt→List ExceptHandler→List Stmt→List Stmt→Pos→α}(h:onTry e z f=v)(hz:z≠v)(k:∀a hs b c p,f a hs b c p=v→P (.Try a hs b c p)):P e:=
 if c:e.ctorIdx=17 then Stmt.Try.elim (motive_2:=fun e=>onTry e z f=v→P e) e c k h else absurd ((dif_neg c).symm.trans h) hz
noncomputable def onNameT(e:MT)(z:α)(f:String→α):α:=MT.casesOn (motive:=fun _=>α) e f (fun _ _=>z) (fun _ _=>z)
@[elab_as_elim]theorem onNameT_elim{P:MT→Prop}{e:MT}{f:String→α}(h:onNameT e z f=v)(hz:z≠v)(k:∀x,f x=v→P (.name x)):P e:=by
 cases e with
 |name=>exact k _ h
 |_=>exact absurd h hz
noncomputable def onStrC(e:Const)(z:α)(f:Str→α):α:=Const.rec z (fun _=>z) (fun _=>z) (fun _=>z) (fun _ _=>z) f (fun _=>z) z e
@[elab_as_elim]theorem onStrC_elim{P:Const→Prop}{e:Const}{f:Str→α}(h:onStrC e z f=v)(hz:z≠v)(k:∀s,f s=v→P (.str s)):P e:=by
 cases e with
 |str=>exact k _ h
 |_=>exact absurd h hz
noncomputable def on0{β:Type}(e:List β)(z a:α):α:=List.rec a (fun _ _ _=>z) e
@[elab_as_elim]theorem on0_elim{β:Type}{P:List β→Prop}{e:List β}{a:α}(h:on0 e z a=v)(hz:z≠v)(k:a=v→P []):P e:=by
 cases e with
 |nil=>exact k h
 |cons=>exact absurd h hz
noncomputable def onC{β:Type}(e:List β)(z:α)(f:β→List β→α):α:=List.rec z (fun b r _=>f b r) e
@[elab_as_elim]theorem onC_elim{β:Type}{P:List β→Prop}{e:List β}{f:β→List β→α}(h:onC e z f=v)(hz:z≠v)(k:∀b r,f b r=v→P (b::r)):P e:=by
 cases e with
 |nil=>exact absurd h hz
 |cons=>exact k _ _ h
noncomputable def on1{β:Type}(e:List β)(z:α)(f:β→α):α:=onC e z fun b r=>on0 r z (f b)
@[elab_as_elim]theorem on1_elim{β:Type}{P:List β→Prop}{e:List β}{f:β→α}(h:on1 e z f=v)(hz:z≠v)(k:∀b,f b=v→P [b]):P e:=onC_elim h hz fun b u_ h=>on0_elim (P:=fun r=>P (b::r)) h hz fun h=>k b h
noncomputable def on2{β:Type}(e:List β)(z:α)(f:β→β→α):α:=onC e z fun b r=>on1 r z (f b)
@[elab_as_elim]theorem on2_elim{β:Type}{P:List β→Prop}{e:List β}{f:β→β→α}(h:on2 e z f=v)(hz:z≠v)(k:∀b c,f b c=v→P [b,c]):P e:=onC_elim h hz fun b u_ h=>on1_elim (P:=fun r=>P (b::r)) h hz fun c h=>k b c h
noncomputable def on3{β:Type}(e:List β)(z:α)(f:β→β→β→α):α:=onC e z fun b r=>on2 r z (f b)
@[elab_as_elim]theorem on3_elim{β:Type}{P:List β→Prop}{e:List β}{f:β→β→β→α}(h:on3 e z f=v)(hz:z≠v)(k:∀b c d,f b c d=v→P [b,c,d]):P e:=onC_elim h hz fun b u_ h=>on2_elim (P:=fun r=>P (b::r)) h hz fun c d h=>k b c d h
noncomputable def onS{β:Type}(e:Option β)(z:α)(f:β→α):α:=Option.rec z f e
@[elab_as_elim]theorem onS_elim{β:Type}{P:Option β→Prop}{e:Option β}{f:β→α}(h:onS e z f=v)(hz:z≠v)(k:∀b,f b=v→P (some b)):P e:=by
 cases e with
 |none=>exact absurd h hz
 |some=>exact k _ h
theorem onS_inv{β:Type}{e:Option β}{f:β→α}(h:onS e z f=v)(hz:z≠v):∃b,e=some b∧f b=v:=onS_elim (P:=fun e=> ∃b,e=some b∧f b=v) h hz fun b h=> ⟨b,rfl,h⟩
noncomputable def onN{β:Type}(e:Option β)(z a:α):α:=Option.rec a (fun _=>z) e
@[elab_as_elim]theorem onN_elim{β:Type}{P:Option β→Prop}{e:Option β}{a:α}(h:onN e z a=v)(hz:z≠v)(k:a=v→P none):P e:=by
 cases e with
 |none=>exact k h
 |some=>exact absurd h hz
end
noncomputable def onNm(e:Expr)(y:Str)(f:Pos→Bool):Bool:=onName e false fun y' p=>y'==y && f p
@[elab_as_elim]theorem onNm_elim{P:Expr→Prop}{e:Expr}{y:Str}{f:Pos→Bool}(h:onNm e y f=true)(k:∀p,f p=true→P (.Name y p)):P e:=
 onName_elim h ff fun y' p h=>by
  rw[Bool.and_eq_true,beq_iff_eq] at h
  rw[h.1];exact k p h.2
noncomputable def onAt(e:Expr)(y:Str)(f:Expr→Pos→Bool):Bool:=onAttribute e false fun o y' p=>y'==y && f o p
@[elab_as_elim]theorem onAt_elim{P:Expr→Prop}{e:Expr}{y:Str}{f:Expr→Pos→Bool}(h:onAt e y f=true)(k:∀o p,f o p=true→P (.Attribute o y p)):P e:=
 onAttribute_elim h ff fun o y' p h=>by
  rw[Bool.and_eq_true,beq_iff_eq] at h
  rw[h.1];exact k o p h.2
noncomputable def onCs(e:Expr)(c:Const)(b:Bool):Bool:=onConstant e false fun c' _ _=>decide (c'=c) && b
@[elab_as_elim]theorem onCs_elim{P:Expr→Prop}{e:Expr}{c:Const}{b:Bool}(h:onCs e c b=true)(k:∀q p,b=true→P (.Constant c q p)):P e:=
 onConstant_elim h ff fun c' q p h=>by
  rw[Bool.and_eq_true,decide_eq_true_eq] at h
  rw[h.1];exact k q p h.2
noncomputable def onSt(e:Expr)(f:Str→Bool):Bool:=onConstant e false fun c _ _=>onStrC c false f
@[elab_as_elim]theorem onSt_elim{P:Expr→Prop}{e:Expr}{f:Str→Bool}(h:onSt e f=true)(k:∀y q p,f y=true→P (.Constant (.str y) q p)):P e:=
 onConstant_elim h ff fun c q p h=>onStrC_elim (P:=fun c=>P (.Constant c q p)) h ff fun y h=>k y q p h
noncomputable def onGn(g:Comprehension)(x:Str)(f:Expr→List Expr→Bool):Bool:=onNm g.target x fun _=>decide (g.is_async=0) && f g.iter g.ifs
@[elab_as_elim]theorem onGn_elim{P:Comprehension→Prop}{g:Comprehension}{x:Str}{f:Expr→List Expr→Bool}(h:onGn g x f=true)(k:∀p i l,f i l=true→P ⟨.Name x p,i,l,0⟩):P g:=by
 obtain⟨t,i,l,n⟩:=g
 refine onNm_elim (e:=t) h fun p h=> ?_
 rw[Bool.and_eq_true,decide_eq_true_eq] at h
 rw[show n=0 from h.1];exact k p i l h.2
theorem band{a b:Bool}{G:Prop}(h:(a && b)=true)(k:a=true→b=true→G):G:=(Bool.and_eq_true_iff.mp h).elim k
noncomputable def isNoneC(e:Expr):Bool:=onCs e .none true
noncomputable def isOf(b:Bool)(o:CmpOp):Bool:=decide (o=if b then .Is else .IsNot)
theorem isOf_eq{b:Bool}{o:CmpOp}(h:isOf b o=true):o=if b then .Is else .IsNot:=of_decide_eq_true h
noncomputable def eqOf(b:Bool)(o:CmpOp):Bool:=decide (o=if b then .Eq else .NotEq)
theorem eqOf_eq{b:Bool}{o:CmpOp}(h:eqOf b o=true):o=if b then .Eq else .NotEq:=of_decide_eq_true h
noncomputable def isIn(o:CmpOp):Bool:=decide (o= .In)
theorem isIn_eq{o:CmpOp}(h:isIn o=true):o= .In:=of_decide_eq_true h
noncomputable def andOf(b:Bool)(o:BoolOp):Bool:=decide (o=if b then .And else .Or)
theorem andOf_eq{b:Bool}{o:BoolOp}(h:andOf b o=true):o=if b then .And else .Or:=of_decide_eq_true h
noncomputable def isAdd(o:Operator):Bool:=decide (o= .Add)
theorem isAdd_eq{o:Operator}(h:isAdd o=true):o= .Add:=of_decide_eq_true h
noncomputable def isUSub(o:UnaryOp):Bool:=decide (o= .USub)
theorem isUSub_eq{o:UnaryOp}(h:isUSub o=true):o= .USub:=of_decide_eq_true h
noncomputable def cstIs(v:MV)(c:Const):Bool:=Const.rec (isNoneV v) (fun c=>MV.rec false (fun b=>b==c) (fun _=>false) (fun _=>false) (fun _=>false) v) (fun c=>onIntV v false fun b=>decide (b=c)) (fun _=>false) (fun _ _=>false) (fun c=>onStrV v false fun b=>b==c) (fun _=>false) false c
noncomputable def isOneC(e:Expr):Bool:=onUnaryOp e false fun o x u_=>isUSub o && onCs x (.int 1) true
@[elab_as_elim]theorem isOneC_elim{P:Expr→Prop}{e:Expr}(h:isOneC e=true)(k:∀q p1 p2,P (.UnaryOp .USub (.Constant (.int 1) q p1) p2)):P e:=
 onUnaryOp_elim h ff fun o x p h=>band h fun h1 h=>by
  rw[isUSub_eq h1]
  exact onCs_elim h fun q p1 _=>k q p1 p
noncomputable def isLoc(cs:Scope)(y:Str):Bool:=Option.rec false (fun k=>NameKind.rec true true true false false k) (cs.names.lookup y)
noncomputable def isGlo(cs:Scope)(y:Str):Bool:=decide (cs.names.lookup y=some .globalImplicit)
noncomputable def bQ(y:Str):Bool:= !(y==("__debug__":Str)) && !(y==("__classdict__":Str))
noncomputable def vInt(v:Value)(i:Int):Bool:=if h:v.ctorIdx=4 then Value.int.elim v h fun j _=>decide (i=j) else false
noncomputable def vRef(v:Value)(a:Addr):Bool:=if h:v.ctorIdx=10 then Value.ref.elim v h fun b=>decide (a=b) else false
theorem vInt_inv{v:Value}{i:Int}(h:vInt v i=true):∃t,v= .int i t:=
 if c:v.ctorIdx=4 then Value.int.elim (motive:=fun v=>vInt v i=true→∃t,v= .int i t) v c (fun j t h=> ⟨t,by rw[of_decide_eq_true h]⟩) h else absurd ((dif_neg c).symm.trans h) nofun
theorem vRef_inv{v:Value}{i:Addr}(h:vRef v i=true):v= .ref i:=
 if c:v.ctorIdx=10 then Value.ref.elim (motive:=fun v=>vRef v i=true→v= .ref i) v c (fun j h=>by rw[of_decide_eq_true h]) h else absurd ((dif_neg c).symm.trans h) nofun
noncomputable def onO2(o:Option (Option Value))(f:Value→Bool):Bool:=o.elim false fun o=>o.elim false f
theorem onO2_inv{o:Option (Option Value)}{f:Value→Bool}(h:onO2 o f=true):∃v,o=some (some v)∧f v=true:=by
 cases o with
 |none=>exact absurd h ff
 |some o=>cases o with
  |none=>exact absurd h ff
  |some v=>exact⟨v,rfl,h⟩
theorem nsInt_inv{o:Option (Option Value)}{i:Int}(h:onO2 o (fun v=>vInt v i)=true):∃t,o=some (some (.int i t)):=by
 refine q17 (onO2_inv h) fun v e h=> ?_
 refine q1 (vInt_inv h) fun t e2=> ?_
 exact⟨t,e2▸e⟩
theorem nsRef_inv{o:Option (Option Value)}{i:Addr}(h:onO2 o (fun v=>vRef v i)=true):o=some (some (.ref i)):=by
 refine q17 (onO2_inv h) fun v e h=> ?_
 exact vRef_inv h▸e
noncomputable def globOk(K:Frag)(y:Str)(v:MV):Bool:=MV.rec false (fun _=>false) (fun i=>onO2 (nsIn K mainGlobals y) fun v=>vInt v i) (fun _=>false) (fun a=>onO2 (nsIn K mainGlobals y) fun v=>vRef v a) v
noncomputable def noGlob(K:Frag)(y:Str):Bool:=onS (nsIn K mainGlobals y) false fun o=>onN o false true
theorem noGlob_of{K:Frag}{y:Str}(h:noGlob K y=true):nsIn K mainGlobals y=some none:=
 q17 (onS_inv h ff) fun o e h=>e.trans (congrArg some (onN_elim (P:=fun o=>o=none) h ff fun u_=>rfl))
noncomputable def notSuper(o:Expr):Bool:=onCall o true fun g as ks _=>onName g true fun _ _=>List.rec (List.rec false (fun _ _ _=>true) ks) (fun _ _ _=>true) as
noncomputable def opIs(op:MOp)(o:Operator):Bool:=decide (o=opOf op)
noncomputable def copIs(op:MCmp)(o:CmpOp):Bool:=decide (o=copOf op)
noncomputable def tOk:ME→Bool
 | .var _ | .cmp .. | .isNone .. | .isIn .. | .neNil .. =>true
 | .boolop _ l r=>tOk l && tOk r
 |_=>false
noncomputable def builtinIs(K:Frag)(cs:Scope)(y:Str)(x:Str):Bool:=y==x && isGlo cs y && noGlob K y && bQ y && !(y==("__name__":Str))
noncomputable def methIs(K:Frag)(C f:Addr)(n:Str):Bool:=plainGet K C n && (findIn K (.ref C) n==some (some (.ref f))) && isFn K (.ref f) && keepIn K (.ref f) && clsOk C
noncomputable def newIs(K:Frag)(C f:Addr):Bool:=keepIn K (.ref C) && makesIn K C && (findIn K (.ref C) "__init__"==some (some (.ref f))) && isFn K (.ref f) && clsOk C
noncomputable def notAttr(e:Expr):Bool:= !Nat.beq e.ctorIdx 20
noncomputable def isRev(e:Expr):Bool:=onSlice e false fun l u s u_=>onN l false (onN u false (onS s false isOneC))
noncomputable def chkKs:List String→List (Option Expr)→Bool
 | [],l=>on0 l false true
 |k::r,l=>onC l false fun a r'=>onS a false fun e=>onConstant e false fun c u_ u_=>onStrC c false fun c=>Str.ofString k==c && chkKs r r'
theorem chkKs_inv{k:String}{r:List String}{l:List (Option Expr)}(h:chkKs (k::r) l=true):∃q p r',l=some (.Constant (.str (Str.ofString k)) q p)::r'∧chkKs r r'=true:=by
 refine onC_elim h ff fun a r' h=> ?_
 refine onS_elim h ff fun e h=> ?_
 refine onConstant_elim h ff fun c q p h=> ?_
 refine onStrC_elim h ff fun c h=> ?_
 rw[Bool.and_eq_true,beq_iff_eq] at h
 rw[←h.1]
 exact⟨q,p,r',rfl,h.2⟩
noncomputable def nodupS:List String→Bool
 | []=>true
 |k::r=>r.all (fun k'=> !(Str.ofString k==Str.ofString k')) && nodupS r
noncomputable def isInit(e:Expr):Bool:=onSlice e false fun l u s u_=>onN l false (onN s false (onS u false isOneC))
noncomputable def notSet(e:Expr):Bool:= !Nat.beq e.ctorIdx 7
noncomputable def relab(cs scope:Scope)(y:Str):Option NameKind:=(scope.names.map fun(n,k)=>if(k== .free && cs.names.lookup n==some .cell) then(n,NameKind.cell) else(n,k)).lookup y
noncomputable def scopeOk(cs scope:Scope)(x:Str):Bool:=(scope.kind== .function) && scope.names.all (fun n=>n.2 != .cell) && scope.names.all (fun n=>n.2 != .local ||scope.names.lookup n.1==some .local) && (scope.names.lookup x==some .local) && scope.names.all (fun n=>n.2 != .free ||cs.names.lookup n.1==some .cell)
noncomputable def compP(e:Expr)(g x y:Str)(f:Expr→Scope→Bool):Bool:=onListComp e false fun c gs s _=>onCall c false fun g' as ks _=>onNm g' g fun _=>on0 ks false (on2 as false fun x' y'=>onNm x' x fun _=>onNm y' y fun _=>on1 gs false fun c=>onGn c x fun i l=>on0 l false (f i s))
@[elab_as_elim]theorem compP_elim{P:Expr→Prop}{e:Expr}{g x y:Str}{f:Expr→Scope→Bool}(h:compP e g x y f=true)(k:∀i s p1 p2 p3 p4 p5 p6,f i s=true→P (.ListComp (.Call (.Name g p1) [.Name x p2, .Name y p3] [] p4) [⟨.Name x p5,i,[],0⟩] s p6)):P e:=by
 refine onListComp_elim h ff fun c gs s p6 h=> ?_
 refine onCall_elim h ff fun g' as ks p4 h=> ?_
 refine onNm_elim h fun p1 h=> ?_
 refine on0_elim h ff fun h=> ?_
 refine on2_elim h ff fun x' y' h=> ?_
 refine onNm_elim h fun p2 h=> ?_
 refine onNm_elim h fun p3 h=> ?_
 refine on1_elim h ff fun c h=> ?_
 refine onGn_elim h fun p5 i l h=> ?_
 refine on0_elim h ff fun h=> ?_
 exact k i s p1 p2 p3 p4 p5 p6 h
noncomputable def compIfP(e:Expr)(x k w:Str)(f:Expr→Scope→Bool):Bool:=onListComp e false fun c gs s _=>onNm c x fun _=>on1 gs false fun c=>onGn c x fun i l=>on1 l false fun t=>onCompare t false fun a os rs _=>on1 os false fun o=>on1 rs false fun r=>eqOf false o && onSubscript a false fun a j _=>onNm a x fun _=>onCs j (.str k) (onCs r (.str w) (f i s))
@[elab_as_elim]theorem compIfP_elim{P:Expr→Prop}{e:Expr}{x k w:Str}{f:Expr→Scope→Bool}(h:compIfP e x k w f=true)
  (q:∀i s p1 p2 p3 p4 p5 p6 p7 p8 k1 k2,f i s=true→P (.ListComp (.Name x p1) [⟨.Name x p2,i,[.Compare (.Subscript (.Name x p3) (.Constant (.str k) k1 p4) p5) [.NotEq] [.Constant (.str w) k2 p6] p7],0⟩] s p8)):P e:=by
 refine onListComp_elim h ff fun c gs s p8 h=> ?_
 refine onNm_elim h fun p1 h=> ?_
 refine on1_elim h ff fun c h=> ?_
 refine onGn_elim h fun p2 i l h=> ?_
 refine on1_elim h ff fun t h=> ?_
 refine onCompare_elim h ff fun a os rs p7 h=> ?_
 refine on1_elim h ff fun o h=> ?_
 refine on1_elim h ff fun r h=> ?_
 refine band h fun ho h=> ?_
 rw[eqOf_eq ho]
 refine onSubscript_elim h ff fun a j p5 h=> ?_
 refine onNm_elim h fun p3 h=> ?_
 refine onCs_elim h fun k1 p4 h=> ?_
 refine onCs_elim h fun k2 p6 h=> ?_
 exact q i s p1 p2 p3 p4 p5 p6 p7 p8 k1 k2 h
noncomputable def strM:ME→Option Str
 | .cst (.str b)=>some b
 |_=>none
mutual
noncomputable def chkE(K:Frag)(cs:Scope):ME→Expr→Bool
 | .var x,t=>onNm t (Str.ofString x) fun _=>isLoc cs (Str.ofString x) && bQ (Str.ofString x)
 | .cst v,t=>onConstant t false fun c u_ u_=>cstIs v c
 | .glob x v,t=>onNm t (Str.ofString x) fun _=>isGlo cs (Str.ofString x) && bQ (Str.ofString x) && globOk K (Str.ofString x) v
 | .attr e n,t=>onAt t (Str.ofString n) fun e' _=>attrChk K (Str.ofString n) && notSuper e' && chkE K cs e e'
 | .item e i,t=>onSubscript t false fun e' i' u_=>chkE K cs e e' && chkE K cs i i'
 | .rev e,t=>onSubscript t false fun e' sl u_=>isRev sl && chkE K cs e e'
 | .init e,t=>onSubscript t false fun e' sl u_=>isInit sl && chkE K cs e e'
 | .bin op l r,t=>onBinOp t false fun l' op' r' u_=>opIs op op' && chkE K cs l l' && chkE K cs r r'
 | .ladd l r,t=>onBinOp t false fun l' op' r' u_=>isAdd op' && chkE K cs l l' && chkE K cs r r'
 | .neg e,t=>onUnaryOp t false fun o e' u_=>isUSub o && chkE K cs e e'
 | .cmp op l r,t=>onCompare t false fun l' os rs u_=>on1 os false fun op'=>on1 rs false fun r'=>copIs op op' && chkE K cs l l' && chkE K cs r r'
 | .isNone b e,t=>onCompare t false fun l' os rs u_=>on1 os false fun o=>on1 rs false fun r'=>isOf b o && isNoneC r' && chkE K cs e l'
 | .isIn l r,t=>onCompare t false fun l' os rs u_=>on1 os false fun o=>on1 rs false fun r'=>isIn o && chkE K cs l l' && chkE K cs r r'
 | .neNil b e,t=>onCompare t false fun l' os rs u_=>on1 os false fun o=>on1 rs false fun r'=>onList r' false fun es u_=>on0 es false (eqOf b o && chkE K cs e l')
 | .boolop b l r,t=>onBoolOp t false fun o es u_=>on2 es false fun l' r'=>andOf b o && chkE K cs l l' && chkE K cs r r'
 | .ite c a e,t=>onIfExp t false fun c' t' e' u_=>tOk c && chkE K cs c c' && chkE K cs a t' && chkE K cs e e'
 | .call g as,t=>onCall t false fun g' as' ks u_=>on0 ks false (notAttr g' && chkE K cs g g' && chkEs K cs as as')
 | .meth C g e n as,t=>onCall t false fun g' as' ks pos=>on0 ks false (onAt g' (Str.ofString n) fun e' ap=>methIs K C g (Str.ofString n) && notSuper e' && (ap.endLine==pos.line) && decide (as'.length < 20) && chkE K cs e e' && chkEs K cs as as')
 | .new C g x as,t=>onCall t false fun g' as' ks pos=>on0 ks false (onNm g' (Str.ofString x) fun _=>isGlo cs (Str.ofString x) && bQ (Str.ofString x) && globOk K (Str.ofString x) (.ref C) && newIs K C g && chkEs K cs as as')
 | .len e,t=>onCall t false fun g' as' ks pos=>on0 ks false (onName g' false fun y u_=>on1 as' false fun e'=>builtinIs K cs y "len" && chkE K cs e e')
 | .sum e,t=>onCall t false fun g' as' ks pos=>on0 ks false (onName g' false fun y u_=>on1 as' false fun e'=>builtinIs K cs y "sum" && chkE K cs e e')
 | .strOf e,t=>onCall t false fun g' as' ks pos=>on0 ks false (onName g' false fun y u_=>on1 as' false fun e'=>builtinIs K cs y "str" && chkE K cs e e')
 | .listOf e,t=>onCall t false fun g' as' ks pos=>on0 ks false (onName g' false fun y u_=>on1 as' false fun e'=>builtinIs K cs y "list" && chkE K cs e e')
 | .bm n e as,t=>onCall t false fun g' as' ks pos=>on0 ks false (onAt g' (bmName n) fun e' ap=>notSuper e' && (ap.endLine==pos.line) && decide (as'.length < 20) && chkE K cs e e' && chkEs K cs as as')
 | .tuple es,t=>onTuple t false fun es' u_ u_=>chkEs K cs es es'
 | .list es,t=>onList t false fun es' u_=>chkEs K cs es es'
 | .dict ks es,t=>onDict t false fun ks' es' u_=>chkKs ks ks' && decide (ks.length≤15) && !ks.isEmpty && decide (ks.length=es'.length) && nodupS ks && chkEs K cs es es'
 | .dict0,t=>onDict t false fun ks es u_=>on0 ks false (on0 es false true)
 | .fstr es,t=>onJoinedStr t false fun es' u_=>decide (2≤es'.length) && decide (es'.length≤1000) && chkFs K cs es es'
 | .comp x g a y src,t=>compP t (Str.ofString g) (Str.ofString x) (Str.ofString y) fun iter scope=>decide (y≠x) && bQ (Str.ofString g) && bQ (Str.ofString x) && bQ (Str.ofString y) && scopeOk cs scope (Str.ofString x) && relab cs scope (Str.ofString y)==some .cell && relab cs scope (Str.ofString g)==some .globalImplicit && cs.names.lookup (Str.ofString y)==some .cell && globOk K (Str.ofString g) (.ref a) && notSet iter && chkE K cs src iter
 | .compIf x k w src,t=>compIfP t (Str.ofString x) k w fun iter scope=>bQ (Str.ofString x) && scopeOk cs scope (Str.ofString x) && notSet iter && chkE K cs src iter
 | .dead,_=>false
noncomputable def chkEs(K:Frag)(cs:Scope):MEs→List Expr→Bool
 | .nil,l=>on0 l false true
 | .cons e r,l=>onC l false fun e' r'=>chkE K cs e e' && chkEs K cs r r'
noncomputable def chkFs(K:Frag)(cs:Scope):MEs→List Expr→Bool
 | .nil,l=>on0 l false true
 | .cons e r,l=>onC l false fun e' r'=> (match strM e with
  |some b=>onConstant e' false fun c u_ u_=>onStrC c false fun c=>b==c && decide (b.length≤50)
  |none=>onFormatted e' false fun e'' c o u_=>onN o false (decide (c= -1) && chkE K cs e e'')) && chkFs K cs r r'
end
@[elab_as_elim]theorem chkEs_elim{K:Frag}{cs:Scope}{e:ME}{r:MEs}{P:List Expr→Prop}{l:List Expr}(h:chkEs K cs (.cons e r) l=true)(k:∀e' r',chkE K cs e e'=true→chkEs K cs r r'=true→P (e'::r')):P l:=
 onC_elim h ff fun e' r' h=>have h:=(Bool.and_eq_true _ _).mp h;k e' r' h.1 h.2
@[elab_as_elim]theorem chkEs_nil{K:Frag}{cs:Scope}{P:List Expr→Prop}{l:List Expr}(h:chkEs K cs .nil l=true)(k:P []):P l:=on0_elim h ff fun u_=>k
theorem chk_notStar{K:Frag}{cs:Scope}{me:ME}{e:Expr}(h:chkE K cs me e=true)(env:Env)(rest:List Expr):starEach (e::rest) env=(false,eval e env)::starEach rest env:=by
 cases e with
 |Starred e p=>cases me <;> exact absurd h ff
 |_=>rfl
theorem chk_subscripted{K:Frag}{cs:Scope}{me:ME}{e:Expr}(h:chkE K cs me e=true)(o k:Value):subscripted e false o k=operate [o,k] (getItem o k):=by
 cases e with
 |Slice l u s p=>cases me <;> exact absurd h ff
 |_=>rfl
theorem chk_marks{K:Frag}{cs:Scope}{me:ME}{e:Expr}(h:chkE K cs me e=true)(op:CmpOp):behindInMarks op e=false:=by
 cases e with
 |Set l u s=>cases me <;> exact absurd h ff
 |_=>rfl
theorem base_plain{o:Expr}(h:notSuper o=true)(attr:Str)(env:Env)(whole:Sem Value):attributeBase o attr env whole=whole:=by
 cases o with
 |Call f as ks p=>
  cases f with
  |Name=>
   cases as with
   |nil=>
    cases ks with
    |nil=>exact absurd h ff
    |cons=>rfl
   |cons=>rfl
  |_=>rfl
 |_=>rfl
noncomputable abbrev FlyT:=Fm→ao→MH→Value→Shared→Prop
noncomputable def CallOk(KK:Params→Frag)(Fly:FlyT)(C:aB)(d:Nat):Prop:=∀(f:Fm),f.K=KK f.w.params→f.Ok d→∀(a:Addr) (vs:List MV) (us:List Value) (μ:MH) (Φ:Pst) (Ψ:Exc) (ρ:ao) (s:Shared) (R:Result→Shared→Prop),
 C a vs μ Φ Ψ→VRs vs us→St f ρ μ s→(∀u v μ' s',VR v u→St f ρ μ' s'→Φ v μ'→R (.ok (.ret u)) s')→(∀ev s' μ',Fly f ρ μ' ev s'→Ψ μ'→R (.error ev) s')→
 keepIn f.K (.ref a)=true∧codeAny (model pw f.w) f.A (.call (.ref a) ⟨us,[]⟩) R s
noncomputable def FlyMono(Fly:FlyT):Prop:=∀(f:Fm) (A:Around) ρ μ ev s,A.frames=f.A.frames→Fly {f with A:=A} ρ μ ev s→Fly f ρ μ ev s
noncomputable def SE(KK:Params→Frag)(Fly:FlyT)(C:aB)(d:Nat)(me:ME):Prop:=∀(f:Fm),f.K=KK f.w.params→f.Ok (d+1)→∀(e:Expr),chkE f.K f.cs me e=true→∀(ρ:ao) (μ:MH) (s:Shared) (Φ:Pst) (Ψ:Exc) (Q E:Value→Shared→Prop),
 St f ρ μ s→evE C ρ me μ Φ Ψ→(∀u v μ' s',VR v u→St f ρ μ' s'→Φ v μ'→Q u s')→(∀ev s' μ',Fly f ρ μ' ev s'→Ψ μ'→E ev s')→wpAny (model pw f.w) f.A (eval e f.env) Q E s
noncomputable def ST(KK:Params→Frag)(Fly:FlyT)(C:aB)(d:Nat)(me:ME):Prop:=tOk me=true→∀(f:Fm),f.K=KK f.w.params→f.Ok (d+1)→∀(e:Expr),chkE f.K f.cs me e=true→∀(ρ:ao) (μ:MH) (s:Shared) (Φ:Pst) (Ψ:Exc) (Q:Bool→Shared→Prop) (E:Value→Shared→Prop),
 St f ρ μ s→evE C ρ me μ (fun v μ=> ∃b,v= .bool b∧Φ v μ) Ψ→(∀b μ' s',St f ρ μ' s'→Φ (.bool b) μ'→Q b s')→(∀ev s' μ',Fly f ρ μ' ev s'→Ψ μ'→E ev s')→wpAny (model pw f.w) f.A (isTrue e f.env (eval e f.env)) Q E s
noncomputable def SEs(KK:Params→Frag)(Fly:FlyT)(C:aB)(d:Nat)(mes:MEs):Prop:=∀(f:Fm),f.K=KK f.w.params→f.Ok (d+1)→∀(es:List Expr),chkEs f.K f.cs mes es=true→∀(pos:Pos) (ρ:ao) (μ:MH) (s:Shared) (Φ:List MV→MH→Prop) (Ψ:Exc) (Q:List Value→Shared→Prop) (E:Value→Shared→Prop),
 St f ρ μ s→evEs C ρ mes μ Φ Ψ→(∀us vs μ' s',VRs vs us→St f ρ μ' s'→Φ vs μ'→Q us s')→(∀ev s' μ',Fly f ρ μ' ev s'→Ψ μ'→E ev s')→wpAny (model pw f.w) f.A (spliced (backTo pos (starEach es f.env))) Q E s
noncomputable def SFs(KK:Params→Frag)(Fly:FlyT)(C:aB)(d:Nat)(mes:MEs):Prop:=∀(f:Fm),f.K=KK f.w.params→f.Ok (d+1)→∀(es:List Expr),chkFs f.K f.cs mes es=true→∀(out:Str),out.length+50 * es.length≤100000→∀(ρ:ao) (μ:MH) (s:Shared) (Φ:Str→MH→Prop) (Ψ:Exc) (Q E:Value→Shared→Prop),
 St f ρ μ s→evFs C ρ mes out μ Φ Ψ→(∀u x μ' s',VR (.str x) u→St f ρ μ' s'→Φ x μ'→Q u s')→(∀ev s' μ',Fly f ρ μ' ev s'→Ψ μ'→E ev s')→
 wpAny (model pw f.w) f.A (joinParts out (evalEach es f.env)) Q E s
section
variable{f:Fm}{d:Nat}{ρ:ao}{μ:MH}{s:Shared}{E:Value→Shared→Prop}{Q:Value→Shared→Prop}
theorem st_var(ok:f.Ok d)(S:St f ρ μ s){x:String}{v:MV}{p:Pos}(h:ρ x=some v)(hd:bQ (Str.ofString x)=true)(hQ:∀u,VR v u→Q u s):
  wpAny (model pw f.w) f.A (eval (.Name (Str.ofString x) p) f.env) Q E s:=by
 refine S.heapE fun m news F N l R k e=> ?_
 obtain⟨u,hv,hl⟩:=l.1 x v h
 unfold bQ at hd
 simp only[Bool.and_eq_true,Bool.not_eq_true'] at hd
 rcases hl with⟨h1,h2⟩ |⟨h1,c,o,h2,h3,h4⟩
 ·exact nameX_L F h2 (hQ u hv) ok.kind h1 hd.1
 ·rcases h1 with h1 |h1
  ·exact nameX_C N h2 h3 h4 (hQ u hv) ok.kind h1 hd.1
  ·exact nameX_F N h2 h3 h4 (hQ u hv) ok.kind h1 hd.1 hd.2
theorem glo_lookup{cs:Scope}{y:Str}(h:isGlo cs y=true):cs.names.lookup y=some .globalImplicit:=by
 exact of_decide_eq_true h
theorem st_glob(ok:f.Ok d)(S:St f ρ μ s){y:Str}{v:MV}{p:Pos}(hg:isGlo f.cs y=true)(hd:bQ y=true)(hv:globOk f.K y v=true)(hQ:∀u,VR v u→Q u s):
  wpAny (model pw f.w) f.A (eval (.Name y p) f.env) Q E s:=by
 refine S.heapE fun m news F N l R k e=> ?_
 obtain⟨p',loose,mean,mg,mb,T⟩:=ok.top
 unfold bQ at hd
 simp only[Bool.and_eq_true,Bool.not_eq_true'] at hd
 cases v with
 |int i=>
  refine q1 (nsInt_inv hv) fun t q=> ?_
  exact nameX_K F ok.kin (topRead_of T) q (hQ _ ⟨t,rfl⟩) ok.kind (glo_lookup hg) hd.1
 |ref a=>exact nameX_K F ok.kin (topRead_of T) (nsRef_inv hv) (hQ _ rfl) ok.kind (glo_lookup hg) hd.1
 |_=>exact absurd hv ff
theorem st_builtin(ok:f.Ok d)(S:St f ρ μ s){y x:Str}{v:Value}{p:Pos}(h:builtinIs f.K f.cs y x=true)(hb:bootBuiltins x=some v)(hQ:Q v s):
  wpAny (model pw f.w) f.A (eval (.Name y p) f.env) Q E s:=by
 refine S.heapE fun m news F N l R k e=> ?_
 obtain⟨p',loose,mean,mg,mb,T⟩:=ok.top
 unfold builtinIs bQ at h
 simp only[Bool.and_eq_true,Bool.not_eq_true',beq_iff_eq] at h
 obtain⟨⟨⟨⟨h1,h2⟩,h3⟩,h4,h4'⟩,h5⟩:=h
 subst h1
 exact nameX_B F ok.kin (topRead_of T) (noGlob_of h3) hb (by simpa using h5) hQ ok.kind (glo_lookup h2) h4
theorem callWith_st{fv:Value}{first:List Value}{es:List Expr}{pos:Pos}{K:Frag}(hp:(backTo pos (starEach es f.env)).any (·.1)=false)
  (h:wpAny (model pw f.w) f.A (spliced (backTo pos (starEach es f.env))) (fun us s₁=> (K.In s₁.heap∧keepIn K fv=true)∧wpAny (model pw f.w) f.A (call fv (first++us)) Q E s₁) E s):
  wpAny (model pw f.w) f.A (callWith pos fv first (backTo pos (starEach es f.env)) []) Q E s:=
 callWith_of (P:=fun h=>K.In h∧keepIn K fv=true) (by rw[hp];rfl) (fun h k=>keeps_K k.2 h k.1) (evalArgs_any hp (wpAny_mono h (fun us s₁ h₁=>h₁) fun u_ u_ x=>x))
theorem callWith_bi{id:String}{first:List Value}{es:List Expr}{pos:Pos}(hp:(backTo pos (starEach es f.env)).any (·.1)=false)
  (h:wpAny (model pw f.w) f.A (spliced (backTo pos (starEach es f.env))) (fun us s₁=>wpAny (model pw f.w) f.A (call (.builtin id) (first++us)) Q E s₁) E s):
  wpAny (model pw f.w) f.A (callWith pos (.builtin id) first (backTo pos (starEach es f.env)) []) Q E s:=callWith_builtin hp (evalArgs_any hp h)
end
theorem plain_args{K:Frag}{cs:Scope}(env:Env)(pos:Pos):∀{mes:MEs} {es:List Expr},chkEs K cs mes es=true→(backTo pos (starEach es env)).any (·.1)=false
 | .nil,_,h=>chkEs_nil h rfl
 | .cons e r,_,h=>chkEs_elim h fun e' r' h1 h2=>by
  rw[chk_notStar h1]
  show(false ||(backTo pos (starEach r' env)).any (·.1))=false
  rw[plain_args env pos h2];rfl
section
variable{KK:Params→Frag}{Fly:FlyT}{C:aB}{d:Nat}
theorem wpAny_impl{α:Type}{M:Model}{A:Around}{t:Sem α}{Q Q':α→Shared→Prop}{E:Value→Shared→Prop}{s:Shared}(h:wpAny M A t Q E s)(hQ:∀a s,Q a s→Q' a s):wpAny M A t Q' E s:=wpAny_mono h hQ fun u_ u_ x=>x
theorem se_var(x:String):SE KK Fly C d (.var x):=fun f hK ok e hc ρ μ s Φ Ψ Q E S h hQ hE=>by
 refine onNm_elim hc fun p hc=> ?_
 refine band hc fun hl hd=> ?_
 refine q17 h fun v hv h=> ?_
 exact st_var ok S hv hd fun u hu=>hQ u v μ s hu S h
theorem se_cst(v:MV):SE KK Fly C d (.cst v):=fun f hK ok e hc ρ μ s Φ Ψ Q E S h hQ hE=>by
 refine onConstant_elim hc ff fun c k p hc=> ?_
 clear hE hK ok
 cases c with
 |none=>cases v with
  |none=>exact wpAny_Constant_none (hQ _ .none _ _ rfl S h)
  |_=>exact absurd hc ff
 |bool b'=>cases v with
  |bool b=>
   have hc:b=b':=beq_iff_eq.mp hc
   subst hc
   exact wpAny_Constant_bool (hQ _ (.bool _) _ _ rfl S h)
  |_=>exact absurd hc ff
 |int b'=>cases v with
  |int b=>
   have hc:b=b':=of_decide_eq_true hc
   subst hc
   exact wpAny_Constant_int (hQ _ (.int _) _ _ ⟨_,rfl⟩ (S.toks _) h)
  |_=>exact absurd hc ff
 |str b'=>cases v with
  |str b=>
   have hc:b=b':=beq_iff_eq.mp hc
   subst hc
   exact wpAny_Constant_str (hQ _ (.str _) _ _ ⟨_,rfl⟩ (S.toks _) h)
  |_=>exact absurd hc ff
 |_=>exact absurd hc ff
theorem se_glob(x:String)(v:MV):SE KK Fly C d (.glob x v):=fun f hK ok e hc ρ μ s Φ Ψ Q E S h hQ hE=>by
 refine onNm_elim hc fun p hc=> ?_
 refine band hc fun hc hg=> ?_
 refine band hc fun hl hd=> ?_
 exact st_glob ok S hl hd hg fun u hu=>hQ u v μ s hu S h
theorem se_attr{me:ME}(n:String)(ih:SE KK Fly C d me):SE KK Fly C d (.attr me n):=fun f hK ok e hc ρ μ s Φ Ψ Q E S h hQ hE=>by
 refine onAt_elim hc fun o p hc=> ?_
 refine band hc fun hc he=> ?_
 refine band hc fun ha hs=> ?_
 refine Attribute_any_ ?_ ?_
 ·exact ih f hK ok o he ρ μ s _ Ψ _ E S h (fun u v μ' s' hv S' pp_=>q17 pp_ fun w hw hΦ=>st_attr ok S' hv hw ha fun u' s'' hu S''=>hQ _ _ _ _ hu S'' hΦ) hE
 ·show(do let o'←attributeBase o (Str.ofString n) f.env (eval o f.env);_)=_
  rw[base_plain hs]
theorem se_item{me mi:ME}(ih:SE KK Fly C d me)(ih2:SE KK Fly C d mi):SE KK Fly C d (.item me mi):=fun f hK ok e hc ρ μ s Φ Ψ Q E S h hQ hE=>by
 refine onSubscript_elim hc ff fun o i p hc=> ?_
 simp only[Bool.and_eq_true] at hc
 refine Subscript_ (ih f hK ok o hc.1 ρ μ s _ Ψ _ E S h (fun u v μ' s' hv S' h'=> ?_) hE)
 exact ih2 f hK ok i hc.2 ρ μ' s' _ Ψ _ E S' h' (fun u2 k μ2 s2 hk S2 pp_=>q17 pp_ fun w hw hΦ=>st_item ok S2 hv hk hw (chk_subscripted hc.2) fun u' s'' hu S''=>hQ _ _ _ _ hu S'' hΦ) hE
@[elab_as_elim]theorem isRev_elim{P:Expr→Prop}{e:Expr}(h:isRev e=true)(k:∀q p1 p2 p3,P (.Slice none none (some (.UnaryOp .USub (.Constant (.int 1) q p1) p2)) p3)):P e:=
 onSlice_elim h ff fun l u s p3 h=>onN_elim (P:=fun l=>P (.Slice l u s p3)) h ff fun h=>onN_elim (P:=fun u=>P (.Slice none u s p3)) h ff fun h=>onS_elim (P:=fun s=>P (.Slice none none s p3)) h ff fun x h=>isOneC_elim (P:=fun x=>P (.Slice none none (some x) p3)) h fun q p1 p2=>k q p1 p2 p3
theorem se_rev{me:ME}(ih:SE KK Fly C d me):SE KK Fly C d (.rev me):=fun f hK ok e hc ρ μ s Φ Ψ Q E S h hQ hE=>by
 refine onSubscript_elim hc ff fun o i p hc=> ?_
 refine band hc fun hi hc=> ?_
 refine isRev_elim hi fun k p1 p2 p3=> ?_
 refine Subscript_ (ih f hK ok o hc ρ μ s _ Ψ _ E S h (fun u v μ' s' hv S' h'=> ?_) hE)
 refine q19 h' fun xs hx hl hΦ=> ?_
 refine wpAny_Slice (PySem.evalPart_none_step (PySem.evalPart_none_step (PySem.evalPart_some_step (PyProof.Rows.UnaryOp_ (wpAny_Constant_int (P.neg_int ?_))))))
 exact st_rev (S'.toks _) hv hx hl fun a s'' ha S''=>hQ _ (.ref _) _ _ rfl S'' (hΦ a ha)
@[elab_as_elim]theorem isInit_elim{P:Expr→Prop}{e:Expr}(h:isInit e=true)(k:∀q p1 p2 p3,P (.Slice none (some (.UnaryOp .USub (.Constant (.int 1) q p1) p2)) none p3)):P e:=
 onSlice_elim h ff fun l u s p3 h=>onN_elim (P:=fun l=>P (.Slice l u s p3)) h ff fun h=>onN_elim (P:=fun s=>P (.Slice none u s p3)) h ff fun h=>onS_elim (P:=fun u=>P (.Slice none u none p3)) h ff fun x h=>isOneC_elim (P:=fun x=>P (.Slice none (some x) none p3)) h fun q p1 p2=>k q p1 p2 p3
theorem se_init{me:ME}(ih:SE KK Fly C d me):SE KK Fly C d (.init me):=fun f hK ok e hc ρ μ s Φ Ψ Q E S h hQ hE=>by
 refine onSubscript_elim hc ff fun o i p hc=> ?_
 refine band hc fun hi hc=> ?_
 refine isInit_elim hi fun k p1 p2 p3=> ?_
 refine Subscript_ (ih f hK ok o hc ρ μ s _ Ψ _ E S h (fun u v μ' s' hv S' h'=> ?_) hE)
 refine q19 h' fun xs hx hl hΦ=> ?_
 refine wpAny_Slice (PySem.evalPart_none_step (PySem.evalPart_some_step (PyProof.Rows.UnaryOp_ (wpAny_Constant_int (P.neg_int (PySem.evalPart_none_step ?_))))))
 exact st_init (S'.toks _) hv hx hl fun a s'' ha S''=>hQ _ (.ref _) _ _ rfl S'' (hΦ a ha)
theorem opIs_eq{op:MOp}{o:Operator}(h:opIs op o=true):o=opOf op:=of_decide_eq_true h
theorem copIs_eq{op:MCmp}{o:CmpOp}(h:copIs op o=true):o=copOf op:=of_decide_eq_true h
theorem se_bin{op:MOp}{ml mr:ME}(ih:SE KK Fly C d ml)(ih2:SE KK Fly C d mr):SE KK Fly C d (.bin op ml mr):=fun f hK ok e hc ρ μ s Φ Ψ Q E S h hQ hE=>by
 refine onBinOp_elim hc ff fun l o r p hc=> ?_
 simp only[Bool.and_eq_true] at hc
 refine q7 hc fun ho hl hr=> ?_
 rw[opIs_eq ho]
 refine wpAny_BinOp (ih f hK ok l hl ρ μ s _ Ψ _ E S h (fun u v μ' s' hv S' h'=> ?_) hE)
 exact ih2 f hK ok r hr ρ μ' s' _ Ψ _ E S' h' (fun u2 k μ2 s2 hk S2 pp_=>q17 pp_ fun w hw hΦ=>st_bin S2 hv hk hw fun u' s'' hu S''=>hQ _ _ _ _ hu S'' hΦ) hE
theorem se_ladd{ml mr:ME}(ih:SE KK Fly C d ml)(ih2:SE KK Fly C d mr):SE KK Fly C d (.ladd ml mr):=fun f hK ok e hc ρ μ s Φ Ψ Q E S h hQ hE=>by
 refine onBinOp_elim hc ff fun l o r p hc=> ?_
 simp only[Bool.and_eq_true] at hc
 refine q7 hc fun ho hl hr=> ?_
 rw[isAdd_eq ho]
 refine wpAny_BinOp (ih f hK ok l hl ρ μ s _ Ψ _ E S h (fun u v μ' s' hv S' h'=> ?_) hE)
 exact ih2 f hK ok r hr ρ μ' s' _ Ψ _ E S' h' (fun u2 k μ2 s2 hk S2 pp_=>q32 pp_ fun xs ys h1 h2 l1 l2 hΦ=>st_ladd S2 hv hk h1 h2 l1 l2 fun a s'' ha S''=>hQ _ (.ref _) _ _ rfl S'' (hΦ a ha)) hE
theorem se_neg{me:ME}(ih:SE KK Fly C d me):SE KK Fly C d (.neg me):=fun f hK ok e hc ρ μ s Φ Ψ Q E S h hQ hE=>by
 refine onUnaryOp_elim hc ff fun o x p hc=> ?_
 simp only[Bool.and_eq_true] at hc
 rw[isUSub_eq hc.1]
 refine PyProof.Rows.UnaryOp_ (ih f hK ok x hc.2 ρ μ s _ Ψ _ E S h (fun u v μ' s' hv S' pp_=>q17 pp_ fun i hi hΦ=> ?_) hE)
 cases v with
 |int j=>obtain rfl:=Option.some.inj hi;obtain⟨t,rfl⟩:=hv.int;exact P.neg_int (hQ _ (.int _) _ _ ⟨_,rfl⟩ (S'.toks _) hΦ)
 |none |bool |str |ref=>exact absurd hi nn
theorem core_cmp{op:MCmp}{ml mr:ME}(ih:SE KK Fly C d ml)(ih2:SE KK Fly C d mr)(f:Fm)(hK:f.K=KK f.w.params)(ok:f.Ok (d+1)){l r:Expr}(hl:chkE f.K f.cs ml l=true)(hr:chkE f.K f.cs mr r=true)
  {ρ:ao} {μ:MH} {s:Shared} {Φ:Pst} {Ψ:Exc} {Q E:Value→Shared→Prop} (S:St f ρ μ s) (h:evE C ρ (.cmp op ml mr) μ Φ Ψ) (hQ:∀b μ' s',St f ρ μ' s'→Φ (.bool b) μ'→Q (.bool b) s') (hE:∀ev s' μ',Fly f ρ μ' ev s'→Ψ μ'→E ev s'):
  wpAny (model pw f.w) f.A (eval l f.env) (fun a s₁=>wpAny (model pw f.w) f.A (eval r f.env) (fun b s₂=>wpAny (model pw f.w) f.A (compareOp (copOf op) a b) Q E s₂) E s₁) E s:=by
 refine ih f hK ok l hl ρ μ s _ Ψ _ E S h (fun u v μ' s' hv S' h'=> ?_) hE
 exact ih2 f hK ok r hr ρ μ' s' _ Ψ _ E S' h' (fun u2 k μ2 s2 hk S2 pp_=>q17 pp_ fun b hb hΦ=>st_cmp S2 hv hk hb (hQ _ _ _ S2 hΦ)) hE
theorem core_isNone{b:Bool}{ml:ME}(ih:SE KK Fly C d ml)(f:Fm)(hK:f.K=KK f.w.params)(ok:f.Ok (d+1)){l:Expr}{k p}(hl:chkE f.K f.cs ml l=true)
  {ρ:ao} {μ:MH} {s:Shared} {Φ:Pst} {Ψ:Exc} {Q E:Value→Shared→Prop} (S:St f ρ μ s) (h:evE C ρ (.isNone b ml) μ Φ Ψ) (hQ:∀b μ' s',St f ρ μ' s'→Φ (.bool b) μ'→Q (.bool b) s') (hE:∀ev s' μ',Fly f ρ μ' ev s'→Ψ μ'→E ev s'):
  wpAny (model pw f.w) f.A (eval l f.env) (fun a s₁=>wpAny (model pw f.w) f.A (eval (.Constant .none k p) f.env) (fun c s₂=>wpAny (model pw f.w) f.A (compareOp (if b then .Is else .IsNot) a c) Q E s₂) E s₁) E s:=by
 refine ih f hK ok l hl ρ μ s _ Ψ _ E S h (fun u v μ' s' hv S' h'=>wpAny_Constant_none ?_) hE
 have e:=isNone_VR hv
 cases b
 ·refine PySem.isNot_none ?_
  rw[e]
  have:=hQ _ _ _ S' h'
  cases hn:isNoneV v <;> rw[hn] at this <;> exact this
 ·refine PySem.is_none ?_
  rw[e]
  have:=hQ _ _ _ S' h'
  cases hn:isNoneV v <;> rw[hn] at this <;> exact this
theorem core_isIn{ml mr:ME}(ih:SE KK Fly C d ml)(ih2:SE KK Fly C d mr)(f:Fm)(hK:f.K=KK f.w.params)(ok:f.Ok (d+1)){l r:Expr}(hl:chkE f.K f.cs ml l=true)(hr:chkE f.K f.cs mr r=true)
  {ρ:ao} {μ:MH} {s:Shared} {Φ:Pst} {Ψ:Exc} {Q E:Value→Shared→Prop} (S:St f ρ μ s) (h:evE C ρ (.isIn ml mr) μ Φ Ψ) (hQ:∀b μ' s',St f ρ μ' s'→Φ (.bool b) μ'→Q (.bool b) s') (hE:∀ev s' μ',Fly f ρ μ' ev s'→Ψ μ'→E ev s'):
  wpAny (model pw f.w) f.A (eval l f.env) (fun a s₁=>wpAny (model pw f.w) f.A (eval r f.env) (fun b s₂=>wpAny (model pw f.w) f.A (compareOp .In a b) Q E s₂) E s₁) E s:=by
 refine ih f hK ok l hl ρ μ s _ Ψ _ E S h (fun u v μ' s' hv S' h'=> ?_) hE
 exact ih2 f hK ok r hr ρ μ' s' _ Ψ _ E S' h' (fun u2 k μ2 s2 hk S2 pp_=>q27 pp_ fun i xs is h1 h2 h3 hΦ=>st_isIn S2 hv hk h1 h2 h3 (hQ _ _ _ S2 hΦ)) hE
theorem core_neNil{b:Bool}{ml:ME}(ih:SE KK Fly C d ml)(f:Fm)(hK:f.K=KK f.w.params)(ok:f.Ok (d+1)){l:Expr}{p}(hl:chkE f.K f.cs ml l=true)
  {ρ:ao} {μ:MH} {s:Shared} {Φ:Pst} {Ψ:Exc} {Q E:Value→Shared→Prop} (S:St f ρ μ s) (h:evE C ρ (.neNil b ml) μ Φ Ψ) (hQ:∀b μ' s',St f ρ μ' s'→Φ (.bool b) μ'→Q (.bool b) s') (hE:∀ev s' μ',Fly f ρ μ' ev s'→Ψ μ'→E ev s'):
  wpAny (model pw f.w) f.A (eval l f.env) (fun a s₁=>wpAny (model pw f.w) f.A (eval (.List [] p) f.env) (fun c s₂=>wpAny (model pw f.w) f.A (compareOp (if b then .Eq else .NotEq) a c) Q E s₂) E s₁) E s:=by
 refine ih f hK ok l hl ρ μ s _ Ψ _ E S h (fun u v μ' s' hv S' pp_=>q17 pp_ fun xs hx hΦ=> ?_) hE
 refine PyProof.Rows.List_ (PySem.wpAny_items_nil ?_)
 exact st_neNil ok S' b hv hx fun s2 S2=>hQ _ _ _ S2 hΦ
end
section
variable{KK:Params→Frag}{Fly:FlyT}{C:aB}{d:Nat}
theorem boolQ{f:Fm}{ρ:ao}{Φ:Pst}{Q:Bool→Shared→Prop}(hQ:∀b μ' s',St f ρ μ' s'→Φ (.bool b) μ'→Q b s'){E:Value→Shared→Prop}:∀b μ' s',St f ρ μ' s'→(∃b',MV.bool b= .bool b'∧Φ (.bool b) μ')→wpAny (model pw f.w) f.A (truthy (.bool b)) Q E s':=fun b μ' s' S' h=>wpAny_truthy_bool (h.elim fun b' h=>hQ b μ' s' S' h.2)
theorem se_cmp{op:MCmp}{ml mr:ME}(ih:SE KK Fly C d ml)(ih2:SE KK Fly C d mr):SE KK Fly C d (.cmp op ml mr)∧ST KK Fly C d (.cmp op ml mr):=by
 refine⟨fun f hK ok e hc ρ μ s Φ Ψ Q E S h hQ hE=> ?_,fun u_ f hK ok e hc ρ μ s Φ Ψ Q E S h hQ hE=> ?_⟩
 all_goals
  refine onCompare_elim hc ff fun l os rs p hc=> ?_
  refine on1_elim hc ff fun o hc=> ?_
  refine on1_elim hc ff fun r hc=> ?_
  simp only[Bool.and_eq_true] at hc
  obtain⟨⟨ho,hl⟩,hr⟩:=hc
  rw[copIs_eq ho]
  first
  |exact wpAny_Compare1 (core_cmp ih ih2 f hK ok hl hr S h (fun b μ' s' S' hΦ=>hQ _ (.bool b) _ _ rfl S' hΦ) hE) (chk_marks hr _)
  |exact wpAny_isTrue_Compare1 (core_cmp (Φ:=fun v μ=> ∃b,v= .bool b∧Φ v μ) ih ih2 f hK ok hl hr S h (boolQ hQ) hE) (chk_marks hr _)
theorem se_isNone{b:Bool}{ml:ME}(ih:SE KK Fly C d ml):SE KK Fly C d (.isNone b ml)∧ST KK Fly C d (.isNone b ml):=by
 refine⟨fun f hK ok e hc ρ μ s Φ Ψ Q E S h hQ hE=> ?_,fun u_ f hK ok e hc ρ μ s Φ Ψ Q E S h hQ hE=> ?_⟩
 all_goals
  refine onCompare_elim hc ff fun l os rs p hc=> ?_
  refine on1_elim hc ff fun o hc=> ?_
  refine on1_elim hc ff fun r hc=> ?_
  refine band hc fun hc hl=> ?_
  refine band hc fun ho hr=> ?_
  refine onCs_elim hr fun k q _=> ?_
  rw[isOf_eq ho]
  first
  |exact wpAny_Compare1 (core_isNone ih f hK ok hl S h (fun b μ' s' S' hΦ=>hQ _ (.bool b) _ _ rfl S' hΦ) hE) rfl
  |exact wpAny_isTrue_Compare1 (core_isNone (Φ:=fun v μ=> ∃b,v= .bool b∧Φ v μ) ih f hK ok hl S h (boolQ hQ) hE) rfl
theorem se_isIn{ml mr:ME}(ih:SE KK Fly C d ml)(ih2:SE KK Fly C d mr):SE KK Fly C d (.isIn ml mr)∧ST KK Fly C d (.isIn ml mr):=by
 refine⟨fun f hK ok e hc ρ μ s Φ Ψ Q E S h hQ hE=> ?_,fun u_ f hK ok e hc ρ μ s Φ Ψ Q E S h hQ hE=> ?_⟩
 all_goals
  refine onCompare_elim hc ff fun l os rs p hc=> ?_
  refine on1_elim hc ff fun o hc=> ?_
  refine on1_elim hc ff fun r hc=> ?_
  simp only[Bool.and_eq_true] at hc
  obtain⟨⟨ho,hl⟩,hr⟩:=hc
  rw[isIn_eq ho]
  first
  |exact wpAny_Compare1 (core_isIn ih ih2 f hK ok hl hr S h (fun b μ' s' S' hΦ=>hQ _ (.bool b) _ _ rfl S' hΦ) hE) (chk_marks hr _)
  |exact wpAny_isTrue_Compare1 (core_isIn (Φ:=fun v μ=> ∃b,v= .bool b∧Φ v μ) ih ih2 f hK ok hl hr S h (boolQ hQ) hE) (chk_marks hr _)
theorem se_neNil{b:Bool}{ml:ME}(ih:SE KK Fly C d ml):SE KK Fly C d (.neNil b ml)∧ST KK Fly C d (.neNil b ml):=by
 refine⟨fun f hK ok e hc ρ μ s Φ Ψ Q E S h hQ hE=> ?_,fun u_ f hK ok e hc ρ μ s Φ Ψ Q E S h hQ hE=> ?_⟩
 all_goals
  refine onCompare_elim hc ff fun l os rs p hc=> ?_
  refine on1_elim hc ff fun o hc=> ?_
  refine on1_elim hc ff fun r hc=> ?_
  refine onList_elim hc ff fun es q hc=> ?_
  refine on0_elim hc ff fun hc=> ?_
  simp only[Bool.and_eq_true] at hc
  obtain⟨ho,hl⟩:=hc
  rw[eqOf_eq ho]
  first
  |exact wpAny_Compare1 (core_neNil ih f hK ok hl S h (fun b μ' s' S' hΦ=>hQ _ (.bool b) _ _ rfl S' hΦ) hE) rfl
  |exact wpAny_isTrue_Compare1 (core_neNil (Φ:=fun v μ=> ∃b,v= .bool b∧Φ v μ) ih f hK ok hl S h (boolQ hQ) hE) rfl
theorem st_of_var(x:String):ST KK Fly C d (.var x):=fun u_ f hK ok e hc ρ μ s Φ Ψ Q E S h hQ hE=>by
 have hc0:=hc
 revert hc
 refine onNm_elim hc0 fun p u_ hc=> ?_
 exact PyProof.Rows.isTrue_plain (se_var x f hK ok _ hc ρ μ s _ Ψ _ E S h (fun u v μ' s' hv S' h=>by
  obtain⟨b,rfl,hΦ⟩:=h
  subst hv;exact wpAny_truthy_bool (hQ _ _ _ S' hΦ)) hE)
theorem boolP(X:Bool→MH→Prop):(fun(v:MV) μ=> ∃b,v= .bool b∧X b μ)=fun(v:MV) μ=> ∃b,v= .bool b∧(fun(v:MV) μ=> ∃b,v= .bool b∧X b μ) v μ:=by
 funext v μ
 exact propext ⟨fun pp_=>q17 pp_ fun b e h=> ⟨b,e,b,e,h⟩,fun pp_=>q17 pp_ fun u_ u_ h=>h⟩
theorem se_boolop{c:Bool}{ml mr:ME}(ih:SE KK Fly C d ml)(ih2:SE KK Fly C d mr)(it:ST KK Fly C d ml)(it2:ST KK Fly C d mr):SE KK Fly C d (.boolop c ml mr)∧ST KK Fly C d (.boolop c ml mr):=by
 refine⟨fun f hK ok e hc ρ μ s Φ Ψ Q E S h hQ hE=> ?_,fun ht f hK ok e hc ρ μ s Φ Ψ Q E S h hQ hE=> ?_⟩
 ·refine onBoolOp_elim hc ff fun o es p hc=> ?_
  refine on2_elim hc ff fun l r hc=> ?_
  simp only[Bool.and_eq_true] at hc
  obtain⟨⟨ho,hl⟩,hr⟩:=hc
  rw[andOf_eq ho]
  cases c
  ·refine BoolOp_or (ih f hK ok l hl ρ μ s _ Ψ _ E S h (fun u v μ' s' hv S' h'=> ?_) hE)
   obtain⟨b,rfl,hΦ⟩:=h'
   subst hv
   refine wpAny_truthy_bool ?_
   cases b
   ·exact PyProof.Rows.BoolOp_one (ih2 f hK ok r hr ρ μ' s' _ Ψ _ E S' hΦ hQ hE)
   ·exact hQ _ (.bool true) _ _ rfl S' hΦ
  ·refine BoolOp_and (ih f hK ok l hl ρ μ s _ Ψ _ E S h (fun u v μ' s' hv S' h'=> ?_) hE)
   obtain⟨b,rfl,hΦ⟩:=h'
   subst hv
   refine wpAny_truthy_bool ?_
   cases b
   ·exact hQ _ (.bool false) _ _ rfl S' hΦ
   ·exact PyProof.Rows.BoolOp_one (ih2 f hK ok r hr ρ μ' s' _ Ψ _ E S' hΦ hQ hE)
 ·replace ht:(tOk ml && tOk mr)=true:=ht
  rw[Bool.and_eq_true] at ht
  have h0:evE C ρ ml μ (fun v μ=> ∃b,v= .bool b∧(fun(v:MV) μ=> ∃b,v= .bool b∧if b=c then evE C ρ mr μ (fun v μ=> ∃b,v= .bool b∧Φ v μ) Ψ else∃b',MV.bool b= .bool b'∧Φ (.bool b) μ) v μ) Ψ:=by
   rw[←boolP];exact h
  refine onBoolOp_elim hc ff fun o es p hc=> ?_
  refine on2_elim hc ff fun l r hc=> ?_
  simp only[Bool.and_eq_true] at hc
  obtain⟨⟨ho,hl⟩,hr⟩:=hc
  rw[andOf_eq ho]
  cases c
  ·refine wpAny_isTrue_BoolOp (wpAny_allTrue_Or_cons (it ht.1 f hK ok l hl ρ μ s _ Ψ _ E S h0 (fun b μ' s' S' h'=> ?_) hE))
   obtain⟨b',e,hΦ⟩:=h'
   cases e
   cases b
   ·refine wpAny_allTrue_Or_cons (it2 ht.2 f hK ok r hr ρ μ' s' Φ Ψ _ E S' hΦ (fun b μ2 s2 S2 hΦ=> ?_) hE)
    cases b
    ·exact wpAny_allTrue_Or_nil (hQ _ _ _ S2 hΦ)
    ·exact hQ _ _ _ S2 hΦ
   ·obtain⟨_,_,hΦ⟩:=hΦ;exact hQ _ _ _ S' hΦ
  ·refine wpAny_isTrue_BoolOp (wpAny_allTrue_And_cons (it ht.1 f hK ok l hl ρ μ s _ Ψ _ E S h0 (fun b μ' s' S' h'=> ?_) hE))
   obtain⟨b',e,hΦ⟩:=h'
   cases e
   cases b
   ·obtain⟨_,_,hΦ⟩:=hΦ;exact hQ _ _ _ S' hΦ
   ·refine wpAny_allTrue_And_cons (it2 ht.2 f hK ok r hr ρ μ' s' Φ Ψ _ E S' hΦ (fun b μ2 s2 S2 hΦ=> ?_) hE)
    cases b
    ·exact hQ _ _ _ S2 hΦ
    ·exact wpAny_allTrue_And_nil (hQ _ _ _ S2 hΦ)
end
theorem Fm.Ok.down{f:Fm}{d:Nat}(ok:f.Ok (d+1)):f.Ok d:=
 {ok with depth:=by have:=ok.depth;lia,units:=by have:=ok.units;lia}
theorem St.kin{f:Fm}{d:Nat}{ρ:ao}{μ:MH}{s:Shared}(ok:f.Ok d)(S:St f ρ μ s):f.K.In s.heap:=by
 refine S.heapE fun m news F N l R k e=> ?_
 exact ok.kin.keeps F.keep
noncomputable abbrev RR(Q E:Value→Shared→Prop):Result→Shared→Prop:=fun r s'=>match r with | .ok (.ret v)=>Q v s' | .ok _=>False | .error e=>E e s'
theorem bootLen:bootBuiltins ("len":Str)=some (.builtin "len"):=by boot_by_name
theorem bootSum:bootBuiltins ("sum":Str)=some (.builtin "sum"):=by boot_by_name
theorem bootStr:bootBuiltins ("str":Str)=some (.type "str"):=by boot_by_name
theorem bootList:bootBuiltins ("list":Str)=some (.type "list"):=by boot_by_name
section
variable{KK:Params→Frag}{Fly:FlyT}{C:aB}{d:Nat}
theorem ses_nil:SEs KK Fly C d .nil:=fun f hK ok es hc pos ρ μ s Φ Ψ Q E S h hQ hE=>chkEs_nil hc (args_nil (hQ _ _ _ _ .nil S h))
theorem ses_cons{me:ME}{mes:MEs}(ih:SE KK Fly C d me)(ih2:SEs KK Fly C d mes):SEs KK Fly C d (.cons me mes):=fun f hK ok es hc pos ρ μ s Φ Ψ Q E S h hQ hE=>by
 refine chkEs_elim hc fun e r h1 h2=> ?_
 refine args_cons (ih f hK ok e h1 ρ μ s _ Ψ _ E S h (fun u v μ' s' hv S' h'=> ?_) hE) (chk_notStar h1 _ _)
 exact ih2 f hK ok r h2 pos ρ μ' s' _ Ψ _ E S' h' (fun us vs μ2 s2 hvs S2 hΦ=>hQ _ _ _ _ (.cons hv hvs) S2 hΦ) hE
theorem se_ite{mc mt me:ME}(it:ST KK Fly C d mc)(ih:SE KK Fly C d mt)(ih2:SE KK Fly C d me):SE KK Fly C d (.ite mc mt me):=fun f hK ok e hc ρ μ s Φ Ψ Q E S h hQ hE=>by
 refine onIfExp_elim hc ff fun c t e p hc=> ?_
 simp only[Bool.and_eq_true] at hc
 refine q10 hc fun h1 h2 h3 h4=> ?_
 have h0:evE C ρ mc μ (fun v μ=> ∃b,v= .bool b∧(fun(v:MV) μ=> ∃b,v= .bool b∧if b then evE C ρ mt μ Φ Ψ else evE C ρ me μ Φ Ψ) v μ) Ψ:=by rw[←boolP];exact h
 refine IfExp_ (it h1 f hK ok c h2 ρ μ s _ Ψ _ E S h0 (fun b μ' s' S' h'=> ?_) hE)
 refine q17 h' fun b' e hΦ=> ?_
 cases e
 cases b
 ·exact ih2 f hK ok e h4 ρ μ' s' _ Ψ _ E S' hΦ hQ hE
 ·exact ih f hK ok t h3 ρ μ' s' _ Ψ _ E S' hΦ hQ hE
theorem do_call(HC:CallOk KK Fly C d)(f:Fm)(hK:f.K=KK f.w.params)(ok:f.Ok (d+1)){a:Addr}{vs:List MV}{us:List Value}{μ:MH}{Φ:Pst}{Ψ:Exc}{ρ:ao}{s:Shared}{Q E:Value→Shared→Prop}
  (h:C a vs μ Φ Ψ) (hvs:VRs vs us) (S:St f ρ μ s) (hQ:∀u v μ' s',VR v u→St f ρ μ' s'→Φ v μ'→Q u s') (hE:∀ev s' μ',Fly f ρ μ' ev s'→Ψ μ'→E ev s'):
  (f.K.In s.heap∧keepIn f.K (.ref a)=true)∧wpAny (model pw f.w) f.A (call (.ref a) us) Q E s:=by
 have:=HC f hK ok.down a vs us μ Φ Ψ ρ s (RR Q E) h hvs S (fun u v μ' s' hv S' hΦ=>hQ u v μ' s' hv S' hΦ) (fun ev s' μ' hf hp=>hE ev s' μ' hf hp)
 exact⟨⟨S.kin ok,this.1⟩,wpAny_call this.2⟩
theorem notAttr_call{g:Expr}{as:List Expr}{p:Pos}{env:Env}(h:notAttr g=true):eval (.Call g as [] p) env=(do callWith p (←eval g env) [] (backTo p (starEach as env)) (backToKw p (keywordEach [] env))):=by
 cases g with
 |Attribute=>exact absurd h ff
 |_=>rfl
theorem se_call{mg:ME}{mes:MEs}(HC:CallOk KK Fly C d)(ih:SE KK Fly C d mg)(ihs:SEs KK Fly C d mes):SE KK Fly C d (.call mg mes):=fun f hK ok e hc ρ μ s Φ Ψ Q E S h hQ hE=>by
 refine onCall_elim hc ff fun g as ks p hc=> ?_
 refine on0_elim hc ff fun hc=> ?_
 simp only[Bool.and_eq_true] at hc
 refine q7 hc fun h1 h2 h3=> ?_
 refine Call_ (ih f hK ok g h2 ρ μ s _ Ψ _ E S h (fun u v μ' s' hv S' h'=> ?_) hE) (notAttr_call h1)
 refine callWith_st (K:=f.K) (plain_args f.env p h3) ?_
 refine ihs f hK ok as h3 p ρ μ' s' _ Ψ _ E S' h' (fun us vs μ2 s2 hvs S2 h'=> ?_) hE
 refine q17 h' fun a e hC=> ?_
 subst e;subst hv
 exact do_call HC f hK ok hC hvs S2 hQ hE
theorem callForm{env:Env}{pos:Pos}{as:List Expr}(h:(backTo pos (starEach as env)).any (·.1)=false)(hn:as.length < 20):methodCallForm (as.length+0) (backTo pos (starEach as env)) (backToKw pos (keywordEach [] env))=true:=by
 unfold methodCallForm
 have:(backTo pos (starEach as env)).all (fun x=> !x.1)=true:=by
  rw[List.any_eq_false] at h
  rw[List.all_eq_true]
  intro x hx
  have:=h x hx
  simpa using this
 rw[this]
 rw[Bool.true_and]
 exact decide_eq_true (by lia)
theorem methCall{f:Fm}{o:Expr}{name:Str}{apos pos:Pos}{as:List Expr}{Q E:Value→Shared→Prop}{s:Shared}(hs:notSuper o=true)(hl:(apos.endLine==pos.line)=true)(hn:as.length < 20)(hp:(backTo pos (starEach as f.env)).any (·.1)=false)
  (h:wpAny (model pw f.w) f.A (eval o f.env) (fun ov s₁=>wpAny (model pw f.w) f.A (getMethod ov name (do return (←importBound o f.env).getD true)) (fun fx s₂=>wpAny (model pw f.w) f.A (callWith pos fx.1 fx.2 (backTo pos (starEach as f.env)) []) Q E s₂) E s₁) E s):
  wpAny (model pw f.w) f.A (eval (.Call (.Attribute o name apos) as [] pos) f.env) Q E s:=by
 show wpAny _ _ (do
  let ov←attributeBase o name f.env (eval o f.env)
  standAt apos.atName
  methodCall o name apos pos f.env ov (as.length+0) (backTo pos (starEach as f.env)) (backToKw pos (keywordEach [] f.env))) Q E s
 rw[base_plain hs]
 refine wpAny_bind (wpAny_mono h (fun ov s₁ h₁=>wpAny_bind (wpAny_standAt ?_)) fun u_ u_ x=>x)
 unfold methodCall
 rw[callForm hp hn]
 refine wpAny_bind (wpAny_holding ?_)
 unfold calleeOf
 rw[if_pos rfl]
 refine wpAny_mono h₁ (fun fx s₂ h₂=> ?_) fun u_ u_ x=>x
 unfold methodCallPos
 rw[hl]
 exact wpAny_bind (wpAny_pure h₂)
theorem se_meth{K g:Addr}{n:String}{mo:ME}{mes:MEs}(HC:CallOk KK Fly C d)(ih:SE KK Fly C d mo)(ihs:SEs KK Fly C d mes):SE KK Fly C d (.meth K g mo n mes):=fun f hK ok e hc ρ μ s Φ Ψ Q E S h hQ hE=>by
 refine onCall_elim hc ff fun gg as ks p hc=> ?_
 refine on0_elim hc ff fun hc=> ?_
 refine onAt_elim hc fun o ap hc=> ?_
 simp only[Bool.and_eq_true,beq_iff_eq,decide_eq_true_eq] at hc
 refine q11 hc fun h2 h3 h4 h5 h6 h7=> ?_
 refine methCall h3 (by simpa using h4) h5 (plain_args f.env p h7) (ih f hK ok o h6 ρ μ s _ Ψ _ E S h (fun u v μ' s' hv S' h'=> ?_) hE)
 refine q27 h' fun a gg k hva hm hn h'=> ?_
 subst hva;subst hv
 unfold methIs at h2
 simp only[Bool.and_eq_true,beq_iff_eq] at h2
 refine q13 h2 fun m1 m2 m3 m4 m5=> ?_
 refine S'.heapE fun m news F N l R kk e=> ?_
 refine q28 (R.inst hm N) fun dx es e' q0 q1 q2 q3 q4 q5 I q6=> ?_
 have hg:=q6 n
 rw[hn] at hg
 refine method_inst F ok.kin I m1 m2 m3 hg ?_
 refine callWith_st (K:=f.K) (plain_args f.env p h7) ?_
 exact ihs f hK ok as h7 p ρ μ' s' _ Ψ _ E S' h' (fun us vs μ2 s2 hvs S2 hC=>do_call (us:=_::us) HC f hK ok hC (.cons rfl hvs) S2 hQ hE) hE
theorem se_bm{n:BM}{mo:ME}{mes:MEs}(ih:SE KK Fly C d mo)(ihs:SEs KK Fly C d mes):SE KK Fly C d (.bm n mo mes):=fun f hK ok e hc ρ μ s Φ Ψ Q E S h hQ hE=>by
 refine onCall_elim hc ff fun gg as ks p hc=> ?_
 refine on0_elim hc ff fun hc=> ?_
 refine onAt_elim hc fun o ap hc=> ?_
 simp only[Bool.and_eq_true,beq_iff_eq,decide_eq_true_eq] at hc
 refine q13 hc fun h3 h4 h5 h6 h7=> ?_
 refine methCall h3 (by simpa using h4) h5 (plain_args f.env p h7) (ih f hK ok o h6 ρ μ s _ Ψ _ E S h (fun u v μ' s' hv S' h'=> ?_) hE)
 refine st_method S' hv h'.1 ?_
 replace h':=h'.2
 refine callWith_bi (plain_args f.env p h7) ?_
 exact ihs f hK ok as h7 p ρ μ' s' _ Ψ _ E S' h' (fun us vs μ2 s2 hvs S2 hC=>st_bm ok S2 hv hvs hC hQ) hE
theorem se_tuple{mes:MEs}(ihs:SEs KK Fly C d mes):SE KK Fly C d (.tuple mes):=fun f hK ok e hc ρ μ s Φ Ψ Q E S h hQ hE=>by
 refine onTuple_elim hc ff fun es k p hc=> ?_
 exact Tuple_ (ihs f hK ok es hc p ρ μ s _ Ψ _ E S h (fun us vs μ' s' hvs S' pp_=>q0 pp_ fun hl h'=>st_newTuple S' hvs hl fun a s2 ha S2=>hQ _ (.ref _) _ _ rfl S2 (h' a ha)) hE)
theorem se_list{mes:MEs}(ihs:SEs KK Fly C d mes):SE KK Fly C d (.list mes):=fun f hK ok e hc ρ μ s Φ Ψ Q E S h hQ hE=>by
 refine onList_elim hc ff fun es p hc=> ?_
 exact List_ (ihs f hK ok es hc p ρ μ s _ Ψ _ E S h (fun us vs μ' s' hvs S' pp_=>q0 pp_ fun hl h'=>st_newList S' hvs hl fun a s2 ha S2=>hQ _ (.ref _) _ _ rfl S2 (h' a ha)) hE)
theorem se_new{K g:Addr}{x:String}{mes:MEs}(HF:FlyMono Fly)(HC:CallOk KK Fly C d)(ihs:SEs KK Fly C d mes):SE KK Fly C d (.new K g x mes):=fun f hK ok e hc ρ μ s Φ Ψ Q E S h hQ hE=>by
 refine onCall_elim hc ff fun gg as ks p hc=> ?_
 refine on0_elim hc ff fun hc=> ?_
 refine onNm_elim hc fun p' hc=> ?_
 simp only[Bool.and_eq_true] at hc
 refine q13 hc fun h2 h3 h4 h5 h6=> ?_
 unfold newIs at h5
 simp only[Bool.and_eq_true,beq_iff_eq] at h5
 refine q13 h5 fun n1 n2 n3 n4 n5=> ?_
 refine Call_ (st_glob ok S h2 h3 h4 fun u hu=> ?_) rfl
 subst hu
 refine callWith_st (K:=f.K) (plain_args f.env p h6) ?_
 refine ihs f hK ok as h6 p ρ μ s _ Ψ _ E S h (fun us vs μ2 s2 hvs S2 hC=> ⟨⟨S2.kin ok,n1⟩,?_⟩) hE
 refine S2.heapE fun m news F N l R kk e=> ?_
 refine call_cls F ok.kin N n2 n3 n4 fun q dx h' F' N' l1 l2=> ?_
 let f':Fm:={f with A:=f.A.under (.builtin "type.__call__" ⟨.ref K::us,[]⟩)}
 have ok':f'.Ok d:={frames:=ok.frames,handled:=ok.handled,kin:=ok.kin,top:=ok.top,kind:=ok.kind,mods:=ok.mods,outs:=ok.outs,apart:=ok.apart,cells:=ok.cells,inj:=ok.inj,depth:=by(have:=ok.depth;have e:f'.A.depth=f.A.depth+1:=depth_under_make _ _ _;lia),units:=by(have:=ok.units;have e:f'.A.units=f.A.units+1:=units_under_make _ _ _;lia)}
 have fq:μ2 q=none:=R.fresh fun p hp=>Nat.ne_of_lt (Nat.lt_trans (l1 p hp) l2)
 have S3:St f' ρ (upd μ2 q (some (.inst K (fun u_=>none) 0))) {s2 with heap:=h'}:=by
  have:=S2.of (h:=h') (t:=s2.toks) rfl F' N' (l.sub fun p hp u_=> .tail _ (.tail _ hp)) (R.consInst n5 l1 l2) ((kk.cons _).cons _)
  exact this
 refine(HC f' hK ok' g (.ref q::vs) (.ref q::us) _ _ Ψ ρ _ (InitBack q (RR Q E)) (hC q fq) (.cons rfl hvs) S3 (fun u v μ' s' hv S' pp_=>q0 pp_ fun ev hΦ=> ?_) fun ev s' μ' hf hp=> ?_).2
 ·subst ev;subst hv
  exact⟨rfl,hQ _ (.ref q) _ _ rfl (by exact S') hΦ⟩
 ·exact hE ev s' μ' (HF f f'.A _ _ _ _ rfl hf) hp
theorem args_one{f:Fm}{e:Expr}{pos:Pos}{Q:List Value→Shared→Prop}{E:Value→Shared→Prop}{s:Shared}(hn:starEach [e] f.env=(false,eval e f.env)::starEach [] f.env)(h:wpAny (model pw f.w) f.A (eval e f.env) (fun v s₁=>Q [v] s₁) E s):
  wpAny (model pw f.w) f.A (spliced (backTo pos (starEach [e] f.env))) Q E s:=args_cons (wpAny_mono h (fun v s₁ h₁=>args_nil h₁) fun u_ u_ x=>x) hn
theorem se_len{me:ME}(ih:SE KK Fly C d me):SE KK Fly C d (.len me):=fun f hK ok e hc ρ μ s Φ Ψ Q E S h hQ hE=>by
 refine onCall_elim hc ff fun gg as ks p hc=> ?_
 refine on0_elim hc ff fun hc=> ?_
 refine onName_elim hc ff fun y p' hc=> ?_
 refine on1_elim hc ff fun a hc=> ?_
 simp only[Bool.and_eq_true] at hc
 refine Call_ (st_builtin ok S hc.1 bootLen ?_) rfl
 refine callWith_bi (by rw[chk_notStar hc.2];rfl) (args_one (chk_notStar hc.2 _ _) ?_)
 refine ih f hK ok a hc.2 ρ μ s _ Ψ _ E S h (fun u v μ' s' hv S' h'=> ?_) hE
 refine q19 h' fun xs h1 h2 hΦ=> ?_
 exact st_len S' hv h1 h2 fun u' s2 hu S2=>hQ _ _ _ _ hu S2 hΦ
theorem se_sum{me:ME}(ih:SE KK Fly C d me):SE KK Fly C d (.sum me):=fun f hK ok e hc ρ μ s Φ Ψ Q E S h hQ hE=>by
 refine onCall_elim hc ff fun gg as ks p hc=> ?_
 refine on0_elim hc ff fun hc=> ?_
 refine onName_elim hc ff fun y p' hc=> ?_
 refine on1_elim hc ff fun a hc=> ?_
 simp only[Bool.and_eq_true] at hc
 refine Call_ (st_builtin ok S hc.1 bootSum ?_) rfl
 refine callWith_bi (by rw[chk_notStar hc.2];rfl) (args_one (chk_notStar hc.2 _ _) ?_)
 refine ih f hK ok a hc.2 ρ μ s _ Ψ _ E S h (fun u v μ' s' hv S' h'=> ?_) hE
 refine q22 h' fun xs is h1 h2 h3 hΦ=> ?_
 exact st_sum ok S' hv h1 h3 fun u' s2 hu S2=>hQ _ _ _ _ hu S2 hΦ
theorem se_strOf{me:ME}(ih:SE KK Fly C d me):SE KK Fly C d (.strOf me):=fun f hK ok e hc ρ μ s Φ Ψ Q E S h hQ hE=>by
 refine onCall_elim hc ff fun gg as ks p hc=> ?_
 refine on0_elim hc ff fun hc=> ?_
 refine onName_elim hc ff fun y p' hc=> ?_
 refine on1_elim hc ff fun a hc=> ?_
 simp only[Bool.and_eq_true] at hc
 refine Call_ (st_builtin ok S hc.1 bootStr ?_) rfl
 refine PyProof.Rows.callWith_type1 (args_one (chk_notStar hc.2 _ _) ?_) (chk_notStar hc.2 _ _) rfl
 refine ih f hK ok a hc.2 ρ μ s _ Ψ _ E S h (fun u v μ' s' hv S' h'=> ?_) hE
 refine q19 h' fun i h1 h2 hΦ=> ?_
 exact st_str S' hv h1 h2 fun u' s2 hu S2=>hQ _ _ _ _ hu S2 hΦ
theorem se_listOf{me:ME}(ih:SE KK Fly C d me):SE KK Fly C d (.listOf me):=fun f hK ok e hc ρ μ s Φ Ψ Q E S h hQ hE=>by
 refine onCall_elim hc ff fun gg as ks p hc=> ?_
 refine on0_elim hc ff fun hc=> ?_
 refine onName_elim hc ff fun y p' hc=> ?_
 refine on1_elim hc ff fun a hc=> ?_
 simp only[Bool.and_eq_true] at hc
 refine Call_ (st_builtin ok S hc.1 bootList ?_) rfl
 refine PyProof.Rows.callWith_type1 (args_one (chk_notStar hc.2 _ _) ?_) (chk_notStar hc.2 _ _) rfl
 refine ih f hK ok a hc.2 ρ μ s _ Ψ _ E S h (fun u v μ' s' hv S' h'=> ?_) hE
 refine q19 h' fun xs h1 h2 hΦ=> ?_
 exact st_listOf S' hv h1 h2 fun a s2 ha S2=>hQ _ (.ref _) _ _ rfl S2 (hΦ a ha)
end
section
variable{KK:Params→Frag}{Fly:FlyT}{C:aB}{d:Nat}
theorem itext_len{i:Int}(h:small i=true):(itext i).length≤10:=by
 unfold small at h
 have h:=of_decide_eq_true h
 unfold itext
 rw[PySem.ofString_length]
 exact PySem.int_text_length_le10 (k:=9) (by decide) (by lia)
theorem sfs_nil:SFs KK Fly C d .nil:=fun f hK ok es hc out hl ρ μ s Φ Ψ Q E S h hQ hE=>by
 revert hl
 refine on0_elim hc ff fun u_ hl=> ?_
 exact joinParts_nil (hQ _ _ _ _ ⟨_,rfl⟩ (S.toks _) h) (by rw[sizeLine_eq];exact Nat.le_trans hl (by decide))
theorem str_len_append(a b:Str):(a++b).length=a.length+b.length:=strLen_append a b
theorem strM_str{me:ME}{b:Str}(h:strM me=some b):me= .cst (.str b):=by
 cases me with
 |cst v=>cases v with
  |str s=>rw[Option.some.inj h]
  |_=>exact absurd h nn
 |_=>exact absurd h nn
theorem f_gen{C:aB}{me:ME}{mes:MEs}{ρ:ao}{out:Str}{μ:MH}{Φ:Str→MH→Prop}{Ψ:Exc}(hm:strM me=none)(h:evFs C ρ (.cons me mes) out μ Φ Ψ):evE C ρ me μ (fun v μ=> ∃i,intOf v=some i∧small i=true∧evFs C ρ mes (out++itext i) μ Φ Ψ) Ψ:=by
 cases me with
 |cst v=>cases v with
  |str=>exact absurd hm.symm nn
  |_=>exact h
 |_=>exact h
theorem sfs_cons{me:ME}{mes:MEs}(ih:SE KK Fly C d me)(ih2:SFs KK Fly C d mes):SFs KK Fly C d (.cons me mes):=fun f hK ok es hc out hl ρ μ s Φ Ψ Q E S h hQ hE=>by
 revert hl
 refine onC_elim hc ff fun e r hc hl=> ?_
 rw[Bool.and_eq_true] at hc
 obtain⟨h1,h2⟩:=hc
 have hl':out.length+50 *(r.length+1)≤100000:=hl
 clear hl
 cases hm:strM me with
 |none=>
  rw[hm] at h1
  replace h:=f_gen hm h
  refine onFormatted_elim h1 ff fun e'' c o p h1=> ?_
  refine onN_elim h1 ff fun h4=> ?_
  rw[Bool.and_eq_true,decide_eq_true_eq] at h4
  obtain⟨h5,h4⟩:=h4
  subst h5
  refine joinParts_cons (FormattedValue_plain (ih f hK ok e'' h4 ρ μ s _ Ψ _ E S h (fun u v μ' s' hv S' h'=> ?_) hE))
  obtain⟨i,hi,hs,h'⟩:=h'
  refine st_field S' hv hi hs fun u' s2 hu S2=> ?_
  obtain⟨t,rfl⟩:=hu
  have il:=itext_len hs
  refine⟨by rw[sizeLine_eq,str_len_append];lia,?_⟩
  exact ih2 f hK ok r h2 _ (by rw[str_len_append];lia) ρ μ' s2 Φ Ψ _ E S2 h' hQ hE
 |some b=>
  rw[hm] at h1
  obtain rfl:=strM_str hm
  refine onConstant_elim h1 ff fun c k p h1=> ?_
  refine onStrC_elim h1 ff fun c h1=> ?_
  rw[Bool.and_eq_true,beq_iff_eq,decide_eq_true_eq] at h1
  obtain⟨rfl,hb⟩:=h1
  refine joinParts_cons (wpAny_Constant_str ⟨by rw[sizeLine_eq,str_len_append];lia,?_⟩)
  exact ih2 f hK ok r h2 _ (by rw[str_len_append];lia) ρ μ _ Φ Ψ _ E (S.toks _) h hQ hE
theorem se_fstr{mes:MEs}(ih:SFs KK Fly C d mes):SE KK Fly C d (.fstr mes):=fun f hK ok e hc ρ μ s Φ Ψ Q E S h hQ hE=>by
 refine onJoinedStr_elim hc ff fun es p hc=> ?_
 simp only[Bool.and_eq_true,decide_eq_true_eq] at hc
 obtain⟨⟨h1,h2⟩,h3⟩:=hc
 cases es with
 |nil=>exact absurd h1 (by decide)
 |cons e1 r=>cases r with
  |nil=>exact absurd h1 (show¬(2≤1) by decide)
  |cons e2 r=>
   refine JoinedStr_many ?_
   exact ih f hK ok _ h3 _ (by show 0+_≤_;lia) ρ μ s _ Ψ _ E S h (fun u x μ' s' hv S' hΦ=>hQ _ _ _ _ hv S' hΦ) hE
theorem se_dict0:SE KK Fly C d .dict0:=fun f hK ok e hc ρ μ s Φ Ψ Q E S h hQ hE=>by
 refine onDict_elim hc ff fun ks vs p hc=> ?_
 refine on0_elim hc ff fun hc=> ?_
 refine on0_elim hc ff fun hc=> ?_
 refine S.heapE fun m news F N l R k e=> ?_
 obtain⟨p',loose,mean,mg,mb,T⟩:=ok.top
 refine newDict_K F N T.nolimit fun a h' o F' N' hq lo u_ u_ hd u_=> ?_
 obtain⟨k1,k2⟩:=S.alloc (o:= .idict (fun u_=>none) 0) l R k F' N' hq rfl fun u_ u_ h=> ⟨o,[],h,hd,Nat.le_refl _,fun u_ u_ e=>nomatch e⟩
 exact hQ _ (.ref a) _ _ rfl k2 (h a k1)
noncomputable def SPs(KK:Params→Frag)(Fly:FlyT)(C:aB)(d:Nat)(mes:MEs):Prop:=∀(f:Fm),f.K=KK f.w.params→f.Ok (d+1)→∀(es:List Expr),chkEs f.K f.cs mes es=true→∀(ks:List String) (ks':List (Option Expr)),chkKs ks ks'=true→ks.length=es.length→∀(pos:Pos) (ρ:ao) (μ:MH) (s:Shared) (Φ:List MV→MH→Prop) (Ψ:Exc) (Q:List (Value×Value)→Shared→Prop) (E:Value→Shared→Prop),
 St f ρ μ s→evEs C ρ mes μ Φ Ψ→(∀ps us vs μ' s',VRs vs us→strPairs ps=(ks.map Str.ofString).zip us→us.length=ks.length→allStrKeys ps=true→St f ρ μ' s'→Φ vs μ'→Q ps s')→(∀ev s' μ',Fly f ρ μ' ev s'→Ψ μ'→E ev s')→wpAny (model pw f.w) f.A (evalPairs (pairTrees ks' es f.env pos)) Q E s
theorem sps_nil:SPs KK Fly C d .nil:=fun f hK ok es hc ks ks' hk hl pos ρ μ s Φ Ψ Q E S h hQ hE=>by
 revert hl
 refine chkEs_nil hc fun hl=> ?_
 obtain rfl:=List.eq_nil_of_length_eq_zero hl
 refine on0_elim hk ff fun u_=> ?_
 exact evalPairs_nil (hQ _ [] [] _ _ .nil rfl rfl rfl S h)
theorem sps_cons{me:ME}{mes:MEs}(ih:SE KK Fly C d me)(ih2:SPs KK Fly C d mes):SPs KK Fly C d (.cons me mes):=fun f hK ok es hc ks ks' hk hl pos ρ μ s Φ Ψ Q E S h hQ hE=>by
 revert hl
 refine chkEs_elim hc fun e r h1 h2 hl=> ?_
 cases ks with
 |nil=>cases hl
 |cons k kr=>
  obtain⟨q,p,r',rfl,hk2⟩:=chkKs_inv hk
  refine evalPairs_cons (wpAny_Constant_str ?_)
  refine wpAny_bind (ih f hK ok e h1 ρ μ _ _ Ψ _ E (S.toks _) h (fun u v μ' s' hv S' h'=>wpAny_bind (wpAny_standAt (wpAny_pure ?_))) hE)
  refine ih2 f hK ok r h2 kr r' hk2 (Nat.succ.inj hl) pos ρ μ' s' _ Ψ _ E S' h' (fun ps us vs μ2 s2 hvs e1 e2 e3 S2 hΦ=> ?_) hE
  exact hQ _ (u::us) (v::vs) _ _ (.cons hv hvs) (by simp[strPairs,e1]) (by simp[e2]) (by simpa[allStrKeys] using e3) S2 hΦ
theorem nodupS_of{ks:List String}:nodupS ks=true→(ks.map Str.ofString).Nodup:=by
 induction ks with
 |nil=>
  intro _
  exact List.nodup_nil
 |cons k r ih=>
  intro h
  simp only[nodupS,Bool.and_eq_true,List.all_eq_true] at h
  rw[List.map_cons,List.nodup_cons]
  refine⟨fun q=> ?_,ih h.2⟩
  obtain⟨k',hk,e⟩:=List.mem_map.mp q
  have:=h.1 k' hk
  simp[e] at this
theorem zip_keys{α β:Type}:∀{ks:List α} {us:List β},us.length=ks.length→(ks.zip us).map (·.1)=ks
 | [],[],_=>rfl
 |k::r,u::us,h=>by simp[zip_keys (ks:=r) (us:=us) (by simpa using h)]
 | [],_::_,h=>by simp at h
 |_::_,[],h=>by simp at h
theorem sdictOf_value:∀{ks:List Str} {vs:List MV} {us:List Value} {k:Str} {v:MV},VRs vs us→sdictOf (ks.zip vs) k=some v→∃u,valueAt (ks.zip us) k=some u∧VR v u
 | [],vs,us,k,v,h,e=>by simp[sdictOf] at e
 |_::_,_,_,k,v, .nil,e=>by simp[sdictOf] at e
 |x::r,_,_,k,v, .cons (v:=v') (u:=u') (vs:=vs) (us:=us) hv h,e=>by
  simp only[List.zip_cons_cons,sdictOf] at e
  by_cases hx:k=x
  ·subst hx
   rw[if_pos rfl] at e
   obtain rfl:=Option.some.inj e
   exact⟨u',by simp[valueAt],hv⟩
  ·rw[if_neg hx] at e
   obtain⟨u,h1,h2⟩:=sdictOf_value h e
   refine⟨u,?_,h2⟩
   unfold valueAt at h1⊢
   rw[List.zip_cons_cons,List.find?_cons_of_neg (by simpa using fun q=>hx q.symm)]
   exact h1
theorem chkKs_keys:∀{ks:List String} {ks':List (Option Expr)},chkKs ks ks'=true→ks'.length=ks.length∧ks'.all (·.isSome)=true:=by
 intro ks
 induction ks with
 |nil=>intro ks' h;exact on0_elim h ff fun u_=> ⟨rfl,rfl⟩
 |cons k r ih=>
  intro ks' h
  obtain⟨q,p,r',rfl,h2⟩:=chkKs_inv h
  obtain⟨e1,e2⟩:=ih h2
  exact⟨congrArg Nat.succ e1,e2⟩
theorem se_dict{ks:List String}{mes:MEs}(ih:SPs KK Fly C d mes):SE KK Fly C d (.dict ks mes):=fun f hK ok e hc ρ μ s Φ Ψ Q E S h hQ hE=>by
 refine onDict_elim hc ff fun ks' es p hc=> ?_
 simp only[Bool.and_eq_true,decide_eq_true_eq,Bool.not_eq_true'] at hc
 obtain⟨⟨⟨⟨⟨h1,h2⟩,h3⟩,h4⟩,h5⟩,h6⟩:=hc
 refine S.heapE fun m news F N l R k e=> ?_
 obtain⟨p',loose,mean,mg,mb,T⟩:=ok.top
 obtain⟨kl,ka⟩:=chkKs_keys h1
 refine kdn_eval (knd:=strKind pw f.w) F N T.nolimit ka (by lia) (fun q=>by rw[q] at kl;cases ks with
  |nil=>exact absurd h3.symm ff
  |cons=>cases kl) (by lia) fun a h' o F' N' hq lo hd=> ?_
 obtain⟨k1,k2⟩:=S.alloc (o:= .sdict (fun u_=>none) 0) l R k F' N' hq rfl fun u_ u_ h=> ⟨o,[],h,hd,Nat.le_refl _,fun u_ u_ e=>nomatch e⟩
 refine ih f hK ok es h6 ks ks' h1 h4 p ρ _ _ _ Ψ _ E k2 (h a k1) (fun ps us vs μ' s' hvs e1 e2 e3 S' h'=> ?_) hE
 obtain⟨⟨g,hg⟩,hΦ⟩:=h'
 refine S'.heapE fun m' news' F2 N2 l2 R2 kk e=> ?_
 obtain⟨dx,hx,_⟩:=R2.ex
 obtain⟨ob,kvs,q1,q2,q3,q4⟩:=hx a _ hg
 have q5:kvs= []:=List.eq_nil_of_length_eq_zero (Nat.le_zero.mp q3)
 replace q5:=q5.symm;subst q5
 refine kdn_made_str F2 N2 (updF_put R2.nodup q1) q2 e3 (by rw[e1,zip_keys (by simpa using e2)];exact nodupS_of h5) fun h2' o' F3 N3 hd3=>hQ _ (.ref a) _ _ rfl ?_ hΦ
 have kp:=keep_put (o':=o') R2.nodup q1 (isDictOf_notForeign q2)
 refine S'.of (h:=h2') (t:=s'.toks+ps.length) rfl F3 N3 (l2.sub kp) (R2.chg hg rfl rfl (fun u_ u_ hmem=> ⟨o',_,hmem,hd3,?_,fun k' v' e=> ?_⟩) q1) (kk.put (R2.apart hg))
 ·rw[e1,List.length_zip,List.length_map];lia
 ·rw[e1];exact sdictOf_value hvs e
end
noncomputable def isLoc2(cs:Scope)(y:Str):Bool:=Option.rec false (fun k=>NameKind.rec true true false false false k) (cs.names.lookup y)
theorem isLoc2_of{cs:Scope}{y:Str}(h:isLoc2 cs y=true):cs.names.lookup y=some .local∨cs.names.lookup y=some .cell:=by
 unfold isLoc2 at h
 cases q:cs.names.lookup y with
 |none=>rw[q] at h;exact absurd h ff
 |some k=>
  rw[q] at h
  cases k with
  |«local»=>exact .inl rfl
  |cell=>exact .inr rfl
  |_=>exact absurd h ff
noncomputable def isL(cs:Scope)(y:Str):Bool:=cs.names.lookup y==some .local
noncomputable def chkT(K:Frag)(cs:Scope):MT→Expr→Bool
 | .name x,t=>onNm t (Str.ofString x) fun _=>isLoc2 cs (Str.ofString x)
 | .attr e n,t=>onAt t (Str.ofString n) fun e' _=>setChk K (Str.ofString n) && chkE K cs e e'
 | .item e i,t=>onSubscript t false fun e' i' u_=>chkE K cs e e' && chkE K cs i i'
noncomputable def chkTs(K:Frag)(cs:Scope):List MT→List Expr→Bool
 | [],l=>on0 l false true
 |t::r,l=>onC l false fun t' r'=>chkT K cs t t' && chkTs K cs r r'
@[elab_as_elim]theorem chkTs_elim{K:Frag}{cs:Scope}{e:MT}{r:List MT}{P:List Expr→Prop}{l:List Expr}(h:chkTs K cs (e::r) l=true)(k:∀e' r',chkT K cs e e'=true→chkTs K cs r r'=true→P (e'::r')):P l:=
 onC_elim h ff fun e' r' h=>have h:=(Bool.and_eq_true _ _).mp h;k e' r' h.1 h.2
@[elab_as_elim]theorem chkTs_nil{K:Frag}{cs:Scope}{P:List Expr→Prop}{l:List Expr}(h:chkTs K cs [] l=true)(k:P []):P l:=on0_elim h ff fun u_=>k
noncomputable def isComp(e:Expr):Bool:=Nat.beq e.ctorIdx 8 ||Nat.beq e.ctorIdx 9 ||Nat.beq e.ctorIdx 10
noncomputable def isTuple(e:Expr):Bool:=Nat.beq e.ctorIdx 25
noncomputable def isName(e:Expr):Bool:=Nat.beq e.ctorIdx 23
noncomputable def isStar(e:Expr):Bool:=Nat.beq e.ctorIdx 22
section
variable{f:Fm}{d:Nat}{ρ ρ':ao}{μ:MH}{s:Shared}{E:Value→Shared→Prop}
theorem St.of2{m:Str→Option Value}{news:NL}{h:Heap}{t:Nat}{s':Shared}{μ':MH}(S:St f ρ μ s)(e:s'={s with heap:=h,toks:=t})(F:Fr f.h₀ f.L h m)(N:News f.h₀ f.L h news)(l:LocR f.cs f.cl m news ρ')(R:Rep f.w f.rs μ' news)(k:Kept f.keep news):St f ρ' μ' s':=by
 refine q24 S fun h' tk m' news' rf4 u_=> ?_
 subst rf4
 subst e
 exact⟨h,t,m,news,rfl,F,N,l,R,k⟩
theorem st_store(ok:f.Ok d)(S:St f ρ μ s){x:String}{v:MV}{u:Value}{Q:Unit→Shared→Prop}(hx:isLoc2 f.cs (Str.ofString x)=true)(hv:VR v u)
  (hQ:∀s',St f (upd ρ x (some v)) μ s'→Q () s'):wpAny (model pw f.w) f.A (storeName f.env (Str.ofString x) u) Q E s:=by
 refine S.heapE fun m news F N l R k e=> ?_
 have one:∀y w,upd ρ x (some v) y=some w→(y=x∧w=v)∨(y≠x∧ρ y=some w):=fun y w h=>by
  by_cases q:y=x
  ·rw[q,aj] at h;exact .inl ⟨q,(Option.some.inj h).symm⟩
  ·rw[af _ _ q] at h;exact .inr ⟨q,h⟩
 refine(isLoc2_of hx).elim (fun hl=> ?_) fun hl=> ?_
 ·refine storeX_L F N (fun h' F' N'=>hQ _ ?_) ok.kind hl
  refine S.of2 (h:=h') (t:=s.toks+1) rfl F' N' ⟨fun y w h=> ?_,l.2⟩ R k
  rcases one y w h with⟨rfl,rfl⟩ |⟨hy,h⟩
  ·exact⟨u,hv, .inl ⟨hl,if_pos rfl⟩⟩
  ·refine q17 (l.1 y w h) fun u' hu h'=> ?_
   refine⟨u',hu,h'.imp (fun⟨a,b⟩=> ⟨a,?_⟩) id⟩
   show(if Str.ofString y=Str.ofString x then some u else m (Str.ofString y))=_
   rw[if_neg fun q=>hy (ofString_inj q)];exact b
 ·refine q1 (ok.cells _ hl) fun c hc=> ?_
  have cm:=lookup_mem hc
  refine q20 (l.2 c cm) fun o v0 hm hd=> ?_
  refine storeX_C F N hc (updF_put R.nodup hm) hd (fun h' o' F' N' hd'=>hQ _ ?_) ok.kind hl
  have cn:c∉f.rs:=fun q=>by
   refine q17 (List.mem_map.mp q) fun p hp e=> ?_
   exact ok.apart p hp (by rw[show p.1=c from e];exact cm)
  refine S.of2 (h:=h') (t:=s.toks) rfl F' N' ⟨fun y w h=> ?_,fun c' hc'=> ?_⟩ (R.trans (by rw[put_keys];exact R.nodup) (by rw[put_keys];exact R.rsin) (fun r hr=> .inl hr) fun p hp u_ hf=>mem_put_ne hp fun e=>hf ?_) (k.put cn)
  ·rcases one y w h with⟨rfl,rfl⟩ |⟨hy,h⟩
   ·exact⟨u,hv, .inr ⟨.inl hl,c,o',hc,mem_put_same hm,hd'⟩⟩
   ·refine q17 (l.1 y w h) fun u' hu h'=> ?_
    refine⟨u',hu,h'.imp id fun⟨a,c',ob,b1,b2,b3⟩=> ⟨a,c',ob,b1,mem_put_ne b2 fun e=>hy (ofString_inj (ok.inj _ _ c ((b1.trans (congrArg some e))) hc)),b3⟩⟩
  ·by_cases q:c'=c
   ·rw[q];exact⟨o',some u,mem_put_same hm,hd'⟩
   ·refine q20 (l.2 c' hc') fun ob v' h1 h2=> ?_
    exact⟨ob,v',mem_put_ne h1 q,h2⟩
  ·have q:(c,o)=p:=uniq R.nodup hm hp e.symm
   rw[←q];exact foreign_cell hd
set_option tactic.hygienic true in theorem st_items(ok:f.Ok d)(S:St f ρ μ s){v:MV}{u:Value}{xs:List MV}{n:Nat}{Q:List Value→Shared→Prop}(hv:VR v u)(h:seqAt μ v=some xs)(hn:xs.length=n)(hQ:∀us s',VRs xs us→St f ρ μ s'→Q us s'):
  wpAny (model pw f.w) f.A (unpackItems u n none) Q E s:=by
 refine S.heapE fun m news F N l R k e=> ?_
 refine q17 R.ex fun dx hx _=> ?_
 revert hv
 refine seqAt_elim h (fun a hm hv=> ?_) fun a hm hv=> ?_
 ·subst hv
  ·refine q20 (hx a _ hm) fun us c hmem hr=> ?_
   refine kun_items F N (news_isList N hmem) ok.handled (by rw[List.size_toArray,hr.length,hn]) fun h' F' N'=> ?_
   simpa using hQ _ _ hr.toList (S.of (h:=h') (t:=s.toks) rfl F' N' l R k)
 ·subst hv
  ·refine q20 (hx a _ hm) fun us c hmem hr=> ?_
   refine unpackItemsN_ F N (N.isTup hmem) ok.handled (by rw[List.size_toArray,hr.length,hn]) fun h' F' N'=> ?_
   simpa using hQ _ _ hr.toList (S.of (h:=h') (t:=s.toks) rfl F' N' l R k)
end
section
variable{KK:Params→Frag}{Fly:FlyT}{C:aB}{d:Nat}
theorem st_asg(HE:∀me,SE KK Fly C d me)(f:Fm)(hK:f.K=KK f.w.params)(ok:f.Ok (d+1)){t:MT}{te:Expr}(hc:chkT f.K f.cs t te=true){ρ:ao}{μ:MH}{s:Shared}{v:MV}{u:Value}{Φ:ao→MH→Prop}{Ψ:Exc}{Q:Unit→Shared→Prop}{E:Value→Shared→Prop}
  (hv:VR v u) (S:St f ρ μ s) (h:asg C ρ t v μ Φ Ψ) (hQ:∀ρ' μ' s',St f ρ' μ' s'→Φ ρ' μ'→Q () s') (hE:∀ev s' ρ' μ',Fly f ρ' μ' ev s'→Ψ μ'→E ev s'):
  wpAny (model pw f.w) f.A (assign te f.env u) Q E s:=by
 cases t with
 |name x=>
  refine onNm_elim hc fun p hl=> ?_
  exact PyProof.Rows.assign_Name (st_store ok S hl hv fun s' S'=>hQ _ _ _ S' h)
 |attr e n=>
  refine onAt_elim hc fun e' p hc=> ?_
  refine band hc fun hs he=> ?_
  rw[assign_Attribute]
  refine wpAny_bind (wpAny_holding (HE e f hK ok e' he ρ μ s _ Ψ _ E S h (fun uo o μ' s' ho S' h'=> ?_) fun ev s' μ'=>hE ev s' ρ μ'))
  refine q17 h' fun μ2 h1 hΦ=> ?_
  refine wpAny_bind (wpAny_standAt (wpAny_bind (wpAny_holding (st_setAttr ok S' ho hv h1 hs fun s2 S2=>PyProof.Rows.wpAny_release' (hQ _ _ _ S2 hΦ)))))
 |item e i=>
  refine onSubscript_elim hc ff fun e' i' p hc=> ?_
  rw[Bool.and_eq_true] at hc
  rw[assign_Subscript]
  refine wpAny_bind (wpAny_holding (HE e f hK ok e' hc.1 ρ μ s _ Ψ _ E S h (fun uo o μ' s' ho S' h'=> ?_) fun ev s' μ'=>hE ev s' ρ μ'))
  refine wpAny_bind (wpAny_holding (HE i f hK ok i' hc.2 ρ μ' s' _ Ψ _ E S' h' (fun ui k μ2 s2 hk S2 h2=> ?_) fun ev s' μ'=>hE ev s' ρ μ'))
  refine q17 h2 fun μ3 h1 hΦ=> ?_
  exact wpAny_bind (wpAny_standAt (wpAny_bind (wpAny_holding (st_setItem ok S2 ho hk hv h1 fun s3 S3=>PyProof.Rows.wpAny_release' (hQ _ _ _ S3 hΦ)))))
theorem chkT_star{K:Frag}{cs:Scope}{t:MT}{te:Expr}(h:chkT K cs t te=true)(env:Env)(r:List Expr):assignEach (te::r) env=(false,assign te env)::assignEach r env:=by
 cases te with
 |Starred=>cases t <;> exact absurd h ff
 |_=>rfl
theorem chkTs_len{K:Frag}{cs:Scope}{env:Env}:∀{ts:List MT} {tes:List Expr},chkTs K cs ts tes=true→(assignEach tes env).length=ts.length∧(assignEach tes env).findIdx? (·.1)=none∧tes.length=ts.length
 | [],_,h=>chkTs_nil h ⟨rfl,rfl,rfl⟩
 |t::r,_,h=>chkTs_elim h fun t' r' h1 h2=>by
  refine q2 (chkTs_len (env:=env) h2) fun a b c=> ?_
  rw[chkT_star h1]
  exact⟨congrArg Nat.succ a,by rw[List.findIdx?_cons,b];rfl,congrArg Nat.succ c⟩
theorem st_asgs(HE:∀me,SE KK Fly C d me)(f:Fm)(hK:f.K=KK f.w.params)(ok:f.Ok (d+1)){Ψ:Exc}{Q:Unit→Shared→Prop}{E:Value→Shared→Prop}(hE:∀ev s' ρ' μ',Fly f ρ' μ' ev s'→Ψ μ'→E ev s'):
  ∀{ts:List MT} {tes:List Expr},chkTs f.K f.cs ts tes=true→∀{ρ:ao} {μ:MH} {s:Shared} {vs:List MV} {us:List Value} {Φ:ao→MH→Prop},
  VRs vs us→St f ρ μ s→asgs C ts vs ρ μ Φ Ψ→(∀ρ' μ' s',St f ρ' μ' s'→Φ ρ' μ'→Q () s')→wpAny (model pw f.w) f.A (assignInOrder ((assignEach tes f.env).map (·.2)) us) Q E s
 | [],_,hc,ρ,μ,s,vs,us,Φ,hvs,S,h,hQ=>chkTs_nil hc (by
  cases hvs with
  |nil=>exact assignInOrder_nil (hQ _ _ _ S h)
  |cons=>exact h.elim)
 |t::r,_,hc,ρ,μ,s,vs,us,Φ,hvs,S,h,hQ=>chkTs_elim hc fun t' r' h1 h2=>by
  cases hvs with
  |nil=>exact h.elim
  |cons hv hvs=>
   rw[chkT_star h1]
   exact assignInOrder_cons (st_asg HE f hK ok h1 hv S (show asg C ρ t _ μ (fun ρ μ=>asgs C r _ ρ μ Φ Ψ) Ψ from h) (fun ρ' μ' s' S' h'=>st_asgs HE f hK ok hE h2 hvs S' h' hQ) hE)
theorem swapsNo{value:Expr}(h:isComp value=false)(t:Option Expr)(l:Nat)(env:Env):swapsWith value t l env=pure false:=by
 cases value with
 |ListComp |SetComp |DictComp=>exact absurd h.symm ff
 |_=>rfl
theorem ite_both{c:Prop} [Decidable c]{β:Type}{x y r:β}(h:x=r)(h':y=r):ite c x y=r:=by
 by_cases q:c
 ·rw[if_pos q,h]
 ·rw[if_neg q,h']
theorem stars{g:Expr→Bool}(hg:∀e,isStar e=false→g e=false){vs:List Expr}(h8:vs.any isStar=false):¬vs.any g=true:=by
 rw[List.any_eq_true]
 intro h
 refine q17 h fun e he h=> ?_
 rw[hg e (Bool.eq_false_iff.mpr (List.any_eq_false.mp h8 e he))] at h
 exact absurd h ff
theorem fm2{g:Expr→Option Str}{a b:Str}{x y:Expr}(h1:g x=some a)(h2:g y=some b):List.filterMap g [x,y]= [a,b]:=
 (List.filterMap_cons_some h1).trans (congrArg _ ((List.filterMap_cons_some h2).trans (congrArg _ List.filterMap_nil)))
theorem fm3{g:Expr→Option Str}{a b c:Str}{x y z:Expr}(h1:g x=some a)(h2:g y=some b)(h3:g z=some c):List.filterMap g [x,y,z]= [a,b,c]:=
 (List.filterMap_cons_some h1).trans (congrArg _ (fm2 h2 h3))
theorem ifl{c:Prop} [Decidable c]{x:Str}(h:c):(if c then some x else none)=some x:=if_pos h
theorem swap2{a b:Str}{p q tp tp':Pos}{k k':Nat}{vs:List Expr}{env:Env}(h1:env.kindOf a=some .local)(h2:env.kindOf b=some .local)(h3:(q.line==p.line)=true)(h4:vs.length=2)(h5: [a,b].eraseDups.length=2)
  (h6:vs.all (foldedForSure 8)=false) (h7:vs.all (constantsAlone 8)=false) (h8:vs.any isStar=false) (h9:env.blockKind= .function):
  swappedStores [.Tuple [.Name a p, .Name b q] k tp] (.Tuple vs k' tp') env=pure (some [a,b]):=by
 refine(if_neg ?_).trans ?_
 ·rw[h4,h9];exact ff
 refine(if_neg (stars (fun e he=> ?_) h8)).trans ?_
 ·cases e with
  |Starred=>exact absurd he.symm ff
  |_=>rfl
 dsimp only
 rw[fm2 (a:=a) (b:=b)]
 ·refine(if_neg ?_).trans ((if_neg (by rw[h6];exact ff)).trans (if_neg (by rw[h7];exact ff)))
  rw[h5];exact ff
 ·exact ifl (by rw[h1];exact beq_self_eq_true p.line)
 ·exact ifl (by rw[h2];exact h3)
theorem swap3{a b c:Str}{p q r tp tp':Pos}{k k':Nat}{vs:List Expr}{env:Env}(h1:env.kindOf a=some .local)(h2:env.kindOf b=some .local)(h2':env.kindOf c=some .local)(h3:(q.line==p.line)=true)(h3'':(r.line==p.line)=true)(h4:vs.length=3)(h5: [a,b,c].eraseDups.length=3)
  (h6:vs.all (foldedForSure 8)=false) (h7:vs.all (constantsAlone 8)=false) (h8:vs.any isStar=false) (h9:env.blockKind= .function):
  swappedStores [.Tuple [.Name a p, .Name b q, .Name c r] k tp] (.Tuple vs k' tp') env=pure (some [a,b,c]):=by
 refine(if_neg ?_).trans ?_
 ·rw[h4,h9];exact ff
 refine(if_neg (stars (fun e he=> ?_) h8)).trans ?_
 ·cases e with
  |Starred=>exact absurd he.symm ff
  |_=>rfl
 dsimp only
 rw[fm3 (a:=a) (b:=b) (c:=c)]
 ·refine(if_neg ?_).trans ((if_neg (by rw[h6];exact ff)).trans (if_neg (by rw[h7];exact ff)))
  rw[h5];exact ff
 ·exact ifl (by rw[h1];exact beq_self_eq_true p.line)
 ·exact ifl (by rw[h2];exact h3)
 ·exact ifl (by rw[h2'];exact h3'')
theorem filterMap_lt{g:Expr→Option Str}(hg:∀e,isName e=false→g e=none){ts:List Expr}(h:ts.all isName=false):(ts.filterMap g).length < ts.length:=by
 induction ts with
 |nil=>exact absurd h.symm ff
 |cons t r ih=>
  by_cases hn:isName t=false
  ·rw[List.filterMap_cons_none (hg t hn)]
   exact Nat.lt_succ_of_le (List.length_filterMap_le _ _)
  ·rw[List.all_cons,eq_true_of_ne_false hn] at h
   cases q:g t with
   |none=>rw[List.filterMap_cons_none q];exact Nat.lt_succ_of_lt (ih h)
   |some x=>rw[List.filterMap_cons_some q];exact Nat.succ_lt_succ (ih h)
theorem swapB{ts vs:List Expr}{k k':Nat}{tp tp':Pos}{env:Env}(h:ts.all isName=false):swappedStores [.Tuple ts k tp] (.Tuple vs k' tp') env=pure none:=by
 refine ite_both rfl (ite_both rfl (if_pos ?_))
 rw[Bool.or_eq_true]
 refine .inl ?_
 rw[bne_iff_ne]
 refine Nat.ne_of_lt (filterMap_lt (fun e he=> ?_) h)
 cases e with
 |Name=>exact absurd he.symm ff
 |_=>rfl
theorem swapN{ts:List Expr}{k:Nat}{p:Pos}{value:Expr}{env:Env}(h:isTuple value=false):swappedStores [.Tuple ts k p] value env=pure none:=by
 cases value with
 |Tuple=>exact absurd h.symm ff
 |_=>rfl
theorem swapT{K:Frag}{cs:Scope}{mt:MT}{t value:Expr}{env:Env}(h:chkT K cs mt t=true):swappedStores [t] value env=pure none:=by
 cases mt with
 |name=>exact onNm_elim h fun u_ u_=>rfl
 |attr=>exact onAt_elim h fun u_ u_ u_=>rfl
 |item=>exact onSubscript_elim h ff fun u_ u_ u_ u_=>rfl
end
noncomputable abbrev Fm.with(f:Fm)(I:Addr)(o:Obj):Fm:={f with keep:=(I,o)::f.keep}
section
variable{f:Fm}{d:Nat}{ρ:ao}{μ:MH}{s:Shared}{I:Addr}{o o':Obj}
theorem St.entry(S:St (f.with I o) ρ μ s)(hf:Foreign o):s.heap.get? I=some o∧I≠f.L∧f.h₀.get? I=none:=by
 refine S.heapE fun m news F N l R k e=> ?_
 refine q17 (k _ (.head _)) fun sl hm he=> ?_
 have:=N _ hm
 rw[he hf] at this
 exact this
theorem St.keepCons(S:St f ρ μ s)(ok:f.Ok d)(hf:Foreign o)(hfr:o.isFreed=false):(f.with s.heap.objs.size o).Ok d∧St (f.with s.heap.objs.size o) ρ μ {s with heap:=s.heap.push o}:=by
 refine S.heapE fun m news F N l R k e=> ?_
 have low:∀p∈news,p.1 < s.heap.objs.size:=fun p hp=>Heap.lt_size (N p hp).1
 have fresh:s.heap.objs.size∉news.map (·.1):=fun q=>by
  refine q17 (List.mem_map.mp q) fun p hp e=> ?_
  exact absurd (low p hp) (by rw[show p.1=_ from e];exact Nat.lt_irrefl _)
 refine⟨{ok with outs:=fun e he=> ?_,apart:=fun p hp=> ?_},?_⟩
 ·refine q33 (ok.outs e he) fun h1 L o h2 h3 h4=> ?_
  exact⟨h1,L,o,h2, .tail _ h3,h4⟩
 ·rcases List.mem_cons.mp hp with rfl |hp
  ·intro q
   refine q20 (l.2 _ q) fun o' v h1 u_=> ?_
   exact absurd (low _ h1) (Nat.lt_irrefl _)
  ·exact ok.apart p hp
 ·refine q24 S fun h' tk m' news' rf4 u_=> ?_
  subst rf4
  refine⟨h'.push o,tk,m,(h'.objs.size,o)::news,rfl,F.push o,N.push F o hfr,l.sub fun p hp u_=> .tail _ hp,R.trans (List.nodup_cons.mpr ⟨fresh,R.nodup⟩) (fun r hr=> ?_) (fun r hr=> ?_) fun p hp u_ u_=> .tail _ hp,fun p hp=> ?_⟩
  ·rcases List.mem_cons.mp hr with rfl |hr
   ·exact .head _
   ·exact .tail _ (R.rsin r hr)
  ·rcases List.mem_cons.mp hr with rfl |hr
   ·exact .inr fun ob hob=>absurd (List.mem_map.mpr ⟨_,hob,rfl⟩) fresh
   ·exact .inl hr
  ·rcases List.mem_cons.mp hp with rfl |hp
   ·exact⟨o.slots, .head _,fun u_=>rfl⟩
   ·exact(k.cons _) p hp
theorem Fm.Ok.with(ok:f.Ok d)(hI:I∉f.cl.map (·.2)):(f.with I o).Ok d:=
 {ok with
  outs:=fun e he=>let⟨h1,L,o,h2,h3,h4⟩:=ok.outs e he;⟨h1,L,o,h2, .tail _ h3,h4⟩
  apart:=fun p hp=>by
   rcases List.mem_cons.mp hp with rfl |hp
   ·exact hI
   ·exact ok.apart p hp}
theorem St.keepStep(S:St (f.with I o) ρ μ s)(ok:(f.with I o).Ok d)(hf:Foreign o)(hf':Foreign o')(hI:I∉f.rs){h':Heap}(hs:Heap.SameBut I s.heap h')(ho:h'.get? I=some o'):St (f.with I o') ρ μ {s with heap:=h'}:=by
 refine S.heapE fun m news F N l R k e=> ?_
 refine q17 (k _ (.head _)) fun sl hm he=> ?_
 refine q2 (N _ hm) fun n1 n2 n3=> ?_
 have hcl:I∉f.cl.map (·.2):=ok.apart _ (.head _)
 refine q24 S fun h0 tk m' news' rf4 u_=> ?_
 rw[rf4]
 refine⟨h',tk,m,putE news I o',rfl,F.change hs n2 n3,fun p hp=> ?_,l.subC fun p hp q=>mem_put_ne hp fun e=>hcl (e▸q),R.trans (by rw[put_keys];exact R.nodup) (by rw[put_keys];exact R.rsin) (fun r hr=> .inl hr) fun p hp hr u_=>mem_put_ne hp fun e=>hr (e▸ .head _),fun p hp=> ?_⟩
 ·refine q17 (List.mem_map.mp hp) fun q hq rf2=> ?_
  subst rf2
  by_cases e:q.1=I
  ·simp only[e,if_true];exact⟨ho,n2,n3⟩
  ·simp only[e,if_false];exact⟨(hs.2 _ e).trans (N q hq).1,(N q hq).2⟩
 ·rcases List.mem_cons.mp hp with rfl |hp
  ·exact⟨o'.slots,mem_put_same hm,fun u_=>rfl⟩
  ·refine q17 (k p (.tail _ hp)) fun sl' m' e'=> ?_
   exact⟨sl',mem_put_ne m' fun e=>hI (List.mem_map.mpr ⟨p,hp,e⟩),e'⟩
theorem St.keepDrop(S:St (f.with I o) ρ μ s)(ok:(f.with I o).Ok d)(hI:I∉f.rs){h':Heap}(hs:Heap.ExtBut I s.heap h'):St f ρ μ {s with heap:=h'}:=by
 refine S.heapE fun m news F N l R k e=> ?_
 refine q17 (k _ (.head _)) fun sl hm he=> ?_
 refine q2 (N _ hm) fun n1 n2 n3=> ?_
 have hcl:I∉f.cl.map (·.2):=ok.apart _ (.head _)
 have keepF:∀p∈news,p.1≠I→p∈news.filter fun p=>decide (p.1≠I):=fun p hp e=>List.mem_filter.mpr ⟨hp,by simpa using e⟩
 refine q25 F.ns fun oL es ep hL r=> ?_
 refine q24 S fun h0 tk m' news' rf4 u_=> ?_
 rw[rf4]
 have hlt:=Heap.lt_size hL
 refine⟨h',tk,m,news.filter fun p=>decide (p.1≠I),rfl,⟨⟨oL,es,ep,hs f.L oL (Ne.symm n2) hL,r⟩,fun b ob e=>hs b ob (fun q=>by rw[q,n3] at e;exact absurd e nn) (F.keep b ob e),F.above⟩,fun p hp=> ?_,l.subC fun p hp q=>keepF p hp fun e=>hcl (e▸q),R.trans ?_ (fun r hr=> ?_) (fun r hr=> .inl (.tail _ hr)) fun p hp hr u_=>keepF p hp fun e=>hr (e▸ .head _),fun p hp=> ?_⟩
 ·refine q0 (List.mem_filter.mp hp) fun hp e=> ?_
  exact⟨hs _ _ (by simpa using e) (N p hp).1,(N p hp).2⟩
 ·exact R.nodup.sublist (List.filter_sublist.map _)
 ·refine q17 (List.mem_map.mp hr) fun p hp e=> ?_
  refine q17 (k p (.tail _ hp)) fun sl' m' e'=> ?_
  exact List.mem_map.mpr ⟨_,keepF _ m' fun q=>hI (List.mem_map.mpr ⟨p,hp,q⟩),e⟩
 ·refine q17 (k p (.tail _ hp)) fun sl' m' e'=> ?_
  exact⟨sl',keepF _ m' fun e=>hI (List.mem_map.mpr ⟨p,hp,e⟩),e'⟩
end
noncomputable def onRg(K:Frag)(cs:Scope)(e:Expr)(f:List Expr→Bool):Bool:=onCall e false fun g as ks u_=>on0 ks false (onName g false fun y u_=>builtinIs K cs y "range" && f as)
@[elab_as_elim]theorem onRg_elim{P:Expr→Prop}{K:Frag}{cs:Scope}{e:Expr}{f:List Expr→Bool}(h:onRg K cs e f=true)(k:∀y p as q,builtinIs K cs y "range"=true→f as=true→P (.Call (.Name y p) as [] q)):P e:=
 onCall_elim h ff fun g as ks q h=>on0_elim (P:=fun ks=>P (.Call g as ks q)) h ff fun h=>onName_elim (P:=fun g=>P (.Call g as [] q)) h ff fun y p h=>band h (k y p as q)
noncomputable def isSignal(K:Frag)(cs:Scope)(e:Expr):Bool:=onName e false fun y u_=>isGlo cs y && bQ y && globOk K y (.ref 38)
noncomputable def isRaise(K:Frag)(cs:Scope)(e:Expr):Bool:=onCall e false fun g as ks u_=>on0 ks false (on2 as false fun a b=>onSt a fun _=>onList b false fun es u_=>on1 es false fun c=>onSt c fun _=>isSignal K cs g)
@[elab_as_elim]theorem isRaise_elim{P:Expr→Prop}{K:Frag}{cs:Scope}{e:Expr}(h:isRaise K cs e=true)(k:∀g a k1 p1 b k2 p2 p3 p4,isSignal K cs g=true→P (.Call g [.Constant (.str a) k1 p1, .List [.Constant (.str b) k2 p2] p3] [] p4)):P e:=by
 refine onCall_elim h ff fun g as ks p4 h=> ?_
 refine on0_elim h ff fun h=> ?_
 refine on2_elim h ff fun a b h=> ?_
 refine onSt_elim h fun a k1 p1 h=> ?_
 refine onList_elim h ff fun es p3 h=> ?_
 refine on1_elim h ff fun c h=> ?_
 exact onSt_elim h fun b k2 p2 h=>k g a k1 p1 b k2 p2 p3 p4 h
noncomputable def vsOk(vs:List Expr):Bool:= !vs.all (foldedForSure 8) && !vs.all (constantsAlone 8) && !vs.any isStar
noncomputable def sw2(cs:Scope)(ms:List MT)(ts vs:List Expr):Bool:=on2 ms false fun x y=>onNameT x false fun x=>onNameT y false fun y=>on2 ts false fun a b=>onNm a (Str.ofString x) fun p=>onNm b (Str.ofString y) fun q=>decide (x≠y) && isL cs (Str.ofString x) && isL cs (Str.ofString y) && (q.line==p.line) && decide (vs.length=2) && decide ([Str.ofString x,Str.ofString y].eraseDups.length=2) && vsOk vs
noncomputable def sw3(cs:Scope)(ms:List MT)(ts vs:List Expr):Bool:=on3 ms false fun x y z=>onNameT x false fun x=>onNameT y false fun y=>onNameT z false fun z=>on3 ts false fun a b c=>onNm a (Str.ofString x) fun p=>onNm b (Str.ofString y) fun q=>onNm c (Str.ofString z) fun r=>decide (x≠y) && decide (y≠z) && decide (x≠z) && isL cs (Str.ofString x) && isL cs (Str.ofString y) && isL cs (Str.ofString z) && (q.line==p.line) && (r.line==p.line) && decide (vs.length=3) && decide ([Str.ofString x,Str.ofString y,Str.ofString z].eraseDups.length=3) && vsOk vs
theorem isL_loc2{cs:Scope}{y:Str}(h:isL cs y=true):isLoc2 cs y=true:=by
 unfold isL at h;unfold isLoc2
 rw[beq_iff_eq.mp h]
noncomputable def tryRet(s:Stmt)(y x:Str):Bool:=onReturn s false fun e u_=>onS e false fun e=>onIfExp e false fun t a b u_=>onCs b .none (onNm a x fun _=>onCompare t false fun l os rs u_=>on1 os false fun o=>isOf true o && on1 rs false fun r=>onCs r .none (onNm l y fun _=>true))
@[elab_as_elim]theorem tryRet_elim{P:Stmt→Prop}{s:Stmt}{y x:Str}(h:tryRet s y x=true)(k:∀p1 k1 p2 p3 p4 k2 p5 p6 p7,P (.Return (some (.IfExp (.Compare (.Name y p1) [.Is] [.Constant .none k1 p2] p3) (.Name x p4) (.Constant .none k2 p5) p6)) p7)):P s:=by
 refine onReturn_elim h ff fun e p7 h=> ?_
 refine onS_elim h ff fun e h=> ?_
 refine onIfExp_elim h ff fun t a b p6 h=> ?_
 refine onCs_elim h fun k2 p5 h=> ?_
 refine onNm_elim h fun p4 h=> ?_
 refine onCompare_elim h ff fun l os rs p3 h=> ?_
 refine on1_elim h ff fun o h=> ?_
 refine band h fun ho h=> ?_
 rw[isOf_eq ho]
 refine on1_elim h ff fun r h=> ?_
 refine onCs_elim h fun k1 p2 h=> ?_
 exact onNm_elim h fun p1 _=>k p1 k1 p2 p3 p4 k2 p5 p6 p7
noncomputable def tryHand(h:ExceptHandler)(y x:Str)(f:Expr→Bool):Bool:=match h with
 | .ExceptHandler t n b _=>onS t false fun c=>onN n false (on1 b false fun s=>tryRet s y x && f c)
noncomputable def tryP(s:Stmt)(y x:Str)(f:Expr→Expr→Bool):Bool:=onTry s false fun a hs b c u_=>on0 b false (on0 c false (on1 a false fun s=>onExprS s false fun v u_=>on1 hs false fun h=>tryHand h y x (f v)))
@[elab_as_elim]theorem tryP_elim{P:Stmt→Prop}{s:Stmt}{y x:Str}{f:Expr→Expr→Bool}(h:tryP s y x f=true)(k:∀v c ep p1 k1 p2 p3 p4 k2 p5 p6 p7 p8 p9,f v c=true→P (.Try [.Expr v ep] [.ExceptHandler (some c) none [.Return (some (.IfExp (.Compare (.Name y p1) [.Is] [.Constant .none k1 p2] p3) (.Name x p4) (.Constant .none k2 p5) p6)) p7] p8] [] [] p9)):P s:=by
 refine onTry_elim h ff fun a hs b c p9 h=> ?_
 refine on0_elim h ff fun h=> ?_
 refine on0_elim h ff fun h=> ?_
 refine on1_elim h ff fun s h=> ?_
 refine onExprS_elim h ff fun v ep h=> ?_
 refine on1_elim h ff fun t h=> ?_
 obtain⟨t,n,b,p8⟩:=t
 refine onS_elim (e:=t) h ff fun c h=> ?_
 refine onN_elim (e:=n) h ff fun h=> ?_
 refine on1_elim (e:=b) h ff fun s h=> ?_
 refine band h fun hr h=> ?_
 exact tryRet_elim hr fun p1 k1 p2 p3 p4 k2 p5 p6 p7=>k v c ep p1 k1 p2 p3 p4 k2 p5 p6 p7 p8 p9 h
noncomputable def swapC(x:Str)(p:Pos)(e:Expr):Bool:=onListComp e false fun u_ u_ s vp=> (p.line==vp.line) && !(s.names.any fun n=>n.1==x && (n.2== .local ||n.2== .cell))
noncomputable def onSl(s:Stmt)(f:Expr→Expr→Expr→Expr→Bool):Bool:=onAssign s false fun ts v u_=>on1 ts false fun t=>onSubscript t false fun l i u_=>onSlice i false fun a b c u_=>onS a false fun i=>onS b false fun j=>onN c false (f l i j v)
@[elab_as_elim]theorem onSl_elim{P:Stmt→Prop}{s:Stmt}{f:Expr→Expr→Expr→Expr→Bool}(h:onSl s f=true)(k:∀l i j v p1 p2 p3,f l i j v=true→P (.Assign [.Subscript l (.Slice (some i) (some j) none p1) p2] v p3)):P s:=by
 refine onAssign_elim h ff fun ts v p3 h=> ?_
 refine on1_elim h ff fun t h=> ?_
 refine onSubscript_elim h ff fun l i p2 h=> ?_
 refine onSlice_elim h ff fun a b c p1 h=> ?_
 refine onS_elim h ff fun i h=> ?_
 refine onS_elim h ff fun j h=> ?_
 exact onN_elim h ff fun h=>k l i j v p1 p2 p3 h
noncomputable def isDead:MS→Bool
 | .dead=>true
 |_=>false
noncomputable def isNilS:MSs→Bool
 | .nil=>true
 |_=>false
mutual
noncomputable def chkS(K:Frag)(cs:Scope):MS→Stmt→Bool
 | .assign t e,s=>onAssign s false fun ts v u_=>on1 ts false fun t'=> !isComp v && chkT K cs t t' && chkE K cs e v
 | .assignC x e,s=>onAssign s false fun ts v u_=>on1 ts false fun t=>onNm t (Str.ofString x) fun p=>swapC (Str.ofString x) p v && isL cs (Str.ofString x) && chkE K cs e v
 | .sliceSet l i j e,s=>onSl s fun l' i' j' v=> !isComp v && chkE K cs l l' && chkE K cs i i' && chkE K cs j j' && chkE K cs e v
 | .multi ts es,s=>onAssign s false fun l v u_=>on1 l false fun t=>onTuple t false fun ts' u_ u_=>onTuple v false fun es' u_ u_=>decide (ts.length < 20) && chkTs K cs ts ts' && chkEs K cs es es' && (sw2 cs ts ts' es' ||sw3 cs ts ts' es' || !ts'.all isName)
 | .unpack ts e,s=>onAssign s false fun l v u_=>on1 l false fun t=>onTuple t false fun ts' u_ u_=> !isComp v && !isTuple v && chkTs K cs ts ts' && chkE K cs e v
 | .expr e,s=>onExprS s false fun v u_=> !isComp v && chkE K cs e v
 | .ret e,s=>onReturn s false fun v u_=>onS v false fun v=>chkE K cs e v
 | .retNone,s=>onReturn s false fun v u_=>onN v false true
 | .ite c a b,s=>onIf s false fun c' a' b' u_=>tOk c && chkE K cs c c' && chkSs K cs a a' && chkSs K cs b b'
 | .while c b,s=>onWhile s false fun c' b' o u_=>on0 o false (tOk c && chkE K cs c c' && chkSs K cs b b')
 | .for x e b,s=>onFor s false fun t it b' o u_=>onNm t (Str.ofString x) fun _=>on0 o false (isL cs (Str.ofString x) && notSet it && chkE K cs e it && chkSs K cs b b')
 | .forRange x es b,s=>onFor s false fun t it b' o u_=>onNm t (Str.ofString x) fun _=>on0 o false (onRg K cs it fun as=>isL cs (Str.ofString x) && chkEs K cs es as && chkSs K cs b b')
 | .raise,s=>onRaise s false fun e c u_=>onS e false fun e=>onN c false (isRaise K cs e)
 | .tryS e x y,s=>tryP s (Str.ofString y) (Str.ofString x) fun v c=> !isComp v && isSignal K cs c && chkE K cs e v && isLoc cs (Str.ofString y) && bQ (Str.ofString y) && isLoc cs (Str.ofString x) && bQ (Str.ofString x)
 | .dead,_=>true
noncomputable def chkSs(K:Frag)(cs:Scope):MSs→List Stmt→Bool
 | .nil,l=>on0 l false true
 | .cons s r,l=> (isDead s && isNilS r) ||onC l false fun s' r'=>chkS K cs s s' && chkSs K cs r r'
end
noncomputable def FlR:MFl→Flow→Prop
 | .next,w=>w= .next
 | .ret v,w=> ∃u,w= .ret u∧VR v u
noncomputable def SS(KK:Params→Frag)(Fly:FlyT)(C:aB)(d:Nat)(ms:MS):Prop:=∀(f:Fm),f.K=KK f.w.params→f.Ok (d+1)→∀(st:Stmt),chkS f.K f.cs ms st=true→∀(ρ:ao) (μ:MH) (s:Shared) (Φ:FPst) (Ψ:Exc) (Q:Flow→Shared→Prop) (E:Value→Shared→Prop),
 St f ρ μ s→evS C ms ρ μ Φ Ψ→(∀fl w ρ' μ' s',FlR fl w→St f ρ' μ' s'→Φ fl ρ' μ'→Q w s')→(∀ev s' ρ' μ',Fly f ρ' μ' ev s'→Ψ μ'→E ev s')→wpAny (model pw f.w) f.A (exec st f.env) Q E s
noncomputable def SSs(KK:Params→Frag)(Fly:FlyT)(C:aB)(d:Nat)(mss:MSs):Prop:=∀(f:Fm),f.K=KK f.w.params→f.Ok (d+1)→∀(sts:List Stmt),chkSs f.K f.cs mss sts=true→∀(ρ:ao) (μ:MH) (s:Shared) (Φ:FPst) (Ψ:Exc) (Q:Flow→Shared→Prop) (E:Value→Shared→Prop),
 St f ρ μ s→aA C mss ρ μ Φ Ψ→(∀fl w ρ' μ' s',FlR fl w→St f ρ' μ' s'→Φ fl ρ' μ'→Q w s')→(∀ev s' ρ' μ',Fly f ρ' μ' ev s'→Ψ μ'→E ev s')→wpAny (model pw f.w) f.A (execs sts f.env) Q E s
theorem swapsSole{value:Expr}(h:isComp value=false)(t:Expr)(l:Nat)(env:Env):swapsWithSole [t] value l env=pure false:=swapsNo h (some t) l env
theorem seqAt_tuple(μ:MH)(a:Addr)(vs:List MV):seqAt (upd μ a (some (.tuple vs))) (.ref a)=some vs:=by
 exact bo (aj _ _ _)
theorem upd_comm{β:Type}(f:String→β){x y:String}{v w:β}(h:x≠y):upd (upd f x v) y w=upd (upd f y w) x v:=by
 funext z
 unfold upd
 by_cases h1:z=x
 ·subst h1;simp[h]
 ·by_cases h2:z=y
  ·subst h2;simp[h1]
  ·simp[h1,h2]
section
variable{KK:Params→Frag}{Fly:FlyT}{C:aB}{d:Nat}(HE:∀me,SE KK Fly C d me)(HT:∀me,ST KK Fly C d me)(HEs:∀mes,SEs KK Fly C d mes)
include HE in
theorem ss_assign(t:MT)(e:ME):SS KK Fly C d (.assign t e):=fun f hK ok st hc ρ μ s Φ Ψ Q E S h hQ hE=>by
 refine onAssign_elim hc ff fun ts v p hc=> ?_
 refine on1_elim hc ff fun t' hc=> ?_
 simp only[Bool.and_eq_true,Bool.not_eq_true'] at hc
 refine q7 hc fun h1 h3 h4=> ?_
 rw[arm_exec_Assign]
 refine wpAny_bind (wpAny_standAt (wpAny_bind (wpAny_of_eq (show swapsWithSole [t'] v p.line f.env=pure false from swapsNo h1 _ _ _) ?_)))
 rw[if_neg (by decide)]
 refine wpAny_bind (HE e f hK ok v h4 ρ μ s _ Ψ _ E S h (fun u mv μ' s' hv S' h'=> ?_) fun ev s' μ'=>hE ev s' ρ μ')
 refine wpAny_bind (wpAny_of_eq (swapT h3) ?_)
 have e1:(assignEach [t'] f.env).map (·.2)= [assign t' f.env]:=by rw[chkT_star h3];rfl
 rw[e1]
 show wpAny _ _ (do assignAll u [assign t' f.env];pure .next) Q E s'
 exact wpAny_bind (st_asg HE f hK ok h3 hv S' h' (fun ρ2 μ2 s2 S2 hΦ=>wpAny_pure (hQ .next _ _ _ _ rfl S2 hΦ)) hE)
include HE in
theorem ss_unpack(ts:List MT)(e:ME):SS KK Fly C d (.unpack ts e):=fun f hK ok st hc ρ μ s Φ Ψ Q E S h hQ hE=>by
 refine onAssign_elim hc ff fun l v p hc=> ?_
 refine on1_elim hc ff fun t hc=> ?_
 refine onTuple_elim hc ff fun tes k tp hc=> ?_
 simp only[Bool.and_eq_true,Bool.not_eq_true'] at hc
 refine q10 hc fun h1 h2 h3 h4=> ?_
 refine q2 (chkTs_len (env:=f.env) h3) fun l1 l2 l3=> ?_
 refine Assign_Tuple ?_ (swapsSole h1 _ _ _) (swapN h2)
 refine HE e f hK ok v h4 ρ μ s _ Ψ _ E S h (fun u mv μ' s' hv S' h'=> ?_) fun ev s' μ'=>hE ev s' ρ μ'
 refine q19 h' fun vs q1 q2 h'=> ?_
 rw[assign_Tuple]
 refine wpAny_bind (wpAny_standAt ?_)
 unfold unpack
 rw[l1,l2]
 refine wpAny_bind (wpAny_holding (st_items ok S' hv q1 q2 fun us s2 hus S2=> ?_))
 exact st_asgs HE f hK ok hE h3 hus S2 h' fun ρ2 μ2 s3 S3 hΦ=>hQ .next _ _ _ _ rfl S3 hΦ
theorem vsOk_of{vs:List Expr}(h:vsOk vs=true):vs.all (foldedForSure 8)=false∧vs.all (constantsAlone 8)=false∧vs.any isStar=false:=by
 unfold vsOk at h
 simp only[Bool.and_eq_true,Bool.not_eq_true'] at h
 exact⟨h.1.1,h.1.2,h.2⟩
theorem okBlock{f:Fm}(ok:f.Ok (d+1)):f.env.blockKind= .function:=by show(if f.cs.kind.isAnnotationScope then ScopeKind.function else f.cs.kind)=_;rw[ok.kind];rfl
noncomputable def Tup(C:aB)(f:Fm)(ts:List MT)(tes ves:List Expr)(ρ:ao)(Φ:FPst)(Ψ:Exc)(E:Value→Shared→Prop)(k':Nat)(vp:Pos)(s:Shared):Prop:=∀{Q:List Value→Shared→Prop},(∀us vs μ' s',VRs vs us→St f ρ μ' s'→vs.length=ts.length→asgs C ts vs ρ μ' (fun ρ μ=>Φ .next ρ μ) Ψ→Q us s')→
   wpAny (model pw f.w) f.A (eval (.Tuple ves k' vp) f.env) (fun u s'=>wpAny (model pw f.w) f.A (unpackItems u tes.length none) Q E s') E s
@[elab_as_elim]theorem VRs.c_elim{P:List MV→List Value→Prop}{vs:List MV}{us:List Value}{n:Nat}(h:VRs vs us)(l:vs.length=n+1)(k:∀v u vs us,VR v u→VRs vs us→vs.length=n→P (v::vs) (u::us)):P vs us:=by
 cases h with
 |nil=>cases l
 |cons a b=>exact k _ _ _ _ a b (Nat.succ.inj l)
@[elab_as_elim]theorem VRs.n_elim{P:List MV→List Value→Prop}{vs:List MV}{us:List Value}(h:VRs vs us)(l:vs.length=0)(k:P [] []):P vs us:=by
 cases h with
 |nil=>exact k
 |cons=>cases l
theorem ss_sw2{f:Fm}(ok:f.Ok (d+1)){ts:List MT}{tes ves:List Expr}{k k':Nat}{tp vp p:Pos}{ρ:ao}{Φ:FPst}{Ψ:Exc}{Q:Flow→Shared→Prop}{E:Value→Shared→Prop}{s:Shared}(h5:sw2 f.cs ts tes ves=true)
  (hQ:∀fl w ρ' μ' s',FlR fl w→St f ρ' μ' s'→Φ fl ρ' μ'→Q w s') (tup:Tup C f ts tes ves ρ Φ Ψ E k' vp s):wpAny (model pw f.w) f.A (exec (.Assign [.Tuple tes k tp] (.Tuple ves k' vp) p) f.env) Q E s:=by
 revert tup
 refine on2_elim h5 ff fun x y h5=> ?_
 refine onNameT_elim h5 ff fun x h5=> ?_
 refine onNameT_elim h5 ff fun y h5=> ?_
 refine on2_elim h5 ff fun a b h5=> ?_
 refine onNm_elim h5 fun q h5=> ?_
 refine onNm_elim h5 fun r h5 tup=> ?_
 simp only[Bool.and_eq_true,decide_eq_true_eq] at h5
 refine q41 h5 fun x1 x2 x3 x4 x5 x6 x7=> ?_
 refine q2 (vsOk_of x7) fun x7 x8 x9=> ?_
 refine Assign_Tuple_swapped ?_ (swapsSole (value:= .Tuple ves k' vp) rfl _ _ _) (swap2 (beq_iff_eq.mp x2) (beq_iff_eq.mp x3) x4 x5 x6 x7 x8 x9 (okBlock ok))
 refine tup fun us vs μ' s' hvs S' hl=> ?_
 refine VRs.c_elim hvs hl fun v1 u1 vs us hv1 hvs hl=> ?_
 refine VRs.c_elim hvs hl fun v2 u2 vs us hv2 hvs hl=> ?_
 refine VRs.n_elim hvs hl fun h'=> ?_
 refine assignInOrder_cons (bindName_ (st_store ok S' (isL_loc2 x3) hv2 fun s3 S3=> ?_))
 refine assignInOrder_cons (bindName_ (st_store ok S3 (isL_loc2 x2) hv1 fun s4 S4=>assignInOrder_nil ?_))
 refine hQ .next _ _ _ _ rfl S4 ?_
 rw[upd_comm _ (Ne.symm x1)]
 exact h'
theorem ss_sw3{f:Fm}(ok:f.Ok (d+1)){ts:List MT}{tes ves:List Expr}{k k':Nat}{tp vp p:Pos}{ρ:ao}{Φ:FPst}{Ψ:Exc}{Q:Flow→Shared→Prop}{E:Value→Shared→Prop}{s:Shared}(h5:sw3 f.cs ts tes ves=true)
  (hQ:∀fl w ρ' μ' s',FlR fl w→St f ρ' μ' s'→Φ fl ρ' μ'→Q w s') (tup:Tup C f ts tes ves ρ Φ Ψ E k' vp s):wpAny (model pw f.w) f.A (exec (.Assign [.Tuple tes k tp] (.Tuple ves k' vp) p) f.env) Q E s:=by
 revert tup
 refine on3_elim h5 ff fun x y z h5=> ?_
 refine onNameT_elim h5 ff fun x h5=> ?_
 refine onNameT_elim h5 ff fun y h5=> ?_
 refine onNameT_elim h5 ff fun z h5=> ?_
 refine on3_elim h5 ff fun a b c h5=> ?_
 refine onNm_elim h5 fun q h5=> ?_
 refine onNm_elim h5 fun r h5=> ?_
 refine onNm_elim h5 fun t h5 tup=> ?_
 simp only[Bool.and_eq_true,decide_eq_true_eq] at h5
 refine q11 h5 fun w1_ x4 x4' x5 x6 x7=> ?_
 refine q11 w1_ fun x1 x1' x1'' x2 x3 x3'=> ?_
 refine q2 (vsOk_of x7) fun x7 x8 x9=> ?_
 refine Assign_Tuple_swapped ?_ (swapsSole (value:= .Tuple ves k' vp) rfl _ _ _) (swap3 (beq_iff_eq.mp x2) (beq_iff_eq.mp x3) (beq_iff_eq.mp x3') x4 x4' x5 x6 x7 x8 x9 (okBlock ok))
 refine tup fun us vs μ' s' hvs S' hl=> ?_
 refine VRs.c_elim hvs hl fun v1 u1 vs us hv1 hvs hl=> ?_
 refine VRs.c_elim hvs hl fun v2 u2 vs us hv2 hvs hl=> ?_
 refine VRs.c_elim hvs hl fun v3 u3 vs us hv3 hvs hl=> ?_
 refine VRs.n_elim hvs hl fun h'=> ?_
 refine assignInOrder_cons (bindName_ (st_store ok S' (isL_loc2 x3') hv3 fun s3 S3=> ?_))
 refine assignInOrder_cons (bindName_ (st_store ok S3 (isL_loc2 x3) hv2 fun s4 S4=> ?_))
 refine assignInOrder_cons (bindName_ (st_store ok S4 (isL_loc2 x2) hv1 fun s5 S5=>assignInOrder_nil ?_))
 refine hQ .next _ _ _ _ rfl S5 ?_
 rw[upd_comm ρ (Ne.symm x1'),upd_comm (upd ρ y _) (Ne.symm x1''),upd_comm ρ (Ne.symm x1)]
 exact h'
include HE HEs in
theorem ss_multi(ts:List MT)(es:MEs):SS KK Fly C d (.multi ts es):=fun f hK ok st hc ρ μ s Φ Ψ Q E S h hQ hE=>by
 refine onAssign_elim hc ff fun l v p hc=> ?_
 refine on1_elim hc ff fun t hc=> ?_
 refine onTuple_elim hc ff fun tes k tp hc=> ?_
 refine onTuple_elim hc ff fun ves k' vp hc=> ?_
 simp only[Bool.and_eq_true,Bool.or_eq_true,Bool.not_eq_true',decide_eq_true_eq] at hc
 refine q10 hc fun h2 h3 h4 h5=> ?_
 refine q2 (chkTs_len (env:=f.env) h3) fun l1 l2 l3=> ?_
 have tup:Tup C f ts tes ves ρ Φ Ψ E k' vp s:=fun hQ'=>by
  refine Tuple_ (HEs es f hK ok ves h4 vp ρ μ s _ Ψ _ E S h (fun us vs μ' s' hvs S' h'=> ?_) fun ev s' μ'=>hE ev s' ρ μ')
  refine q0 h' fun hl h'=> ?_
  refine st_newTuple S' hvs (by unfold LIM;lia) fun a s2 ha S2=> ?_
  refine st_items ok S2 (v:= .ref a) rfl (seqAt_tuple _ _ _) (by lia) fun us2 s3 hus S3=> ?_
  exact hQ' us2 vs μ' s3 hus (S3.sub fun b o e=> ((af _ _ (ne_nb e ha)).trans e)) hl h'
 rcases h5 with(h5 |h5) |h5
 ·exact ss_sw2 ok h5 hQ tup
 ·exact ss_sw3 ok h5 hQ tup
 ·refine Assign_Tuple ?_ (swapsSole (value:= .Tuple ves k' vp) rfl _ _ _) (swapB h5)
  refine wpAny_impl (tup (Q:=fun us s'=>wpAny (model pw f.w) f.A (assignInOrder ((assignEach tes f.env).map (·.2)) us) (fun u_=>Q .next) E s') fun us vs μ' s' hvs S' hl h'=>st_asgs HE f hK ok hE h3 hvs S' h' fun ρ2 μ2 s3 S3 hΦ=>hQ .next _ _ _ _ rfl S3 hΦ) fun u s' h'=> ?_
  rw[assign_Tuple]
  refine wpAny_bind (wpAny_standAt ?_)
  unfold unpack
  rw[l1,l2,←l3]
  exact wpAny_bind (wpAny_holding h')
end
structure FlyOk(KK:Params→Frag)(Fly:FlyT):Prop where
 mono:FlyMono Fly
 raise:∀(f:Fm) (d:Nat),f.K=KK f.w.params→f.Ok (d+1)→∀(e:Expr) (p:Pos),isRaise f.K f.cs e=true→∀(ρ:ao) (μ:MH) (s:Shared) (Q:Flow→Shared→Prop) (E:Value→Shared→Prop),St f ρ μ s→
  (∀ev s',Fly f ρ μ ev s'→E ev s')→wpAny (model pw f.w) f.A (exec (.Raise (some e) none p) f.env) Q E s
 catch_:∀(f:Fm) (d:Nat),f.K=KK f.w.params→f.Ok (d+1)→∀(body:List Stmt) (c:Expr) (x y:String) (p1 p2 p3 p4 p5 p6 p7 p8 p9:Pos) (k1 k2:Nat),isSignal f.K f.cs c=true→isLoc f.cs (Str.ofString x)=true→bQ (Str.ofString x)=true→isLoc f.cs (Str.ofString y)=true→bQ (Str.ofString y)=true→
  ∀(ρ:ao) (s:Shared) (Q:Flow→Shared→Prop) (E:Value→Shared→Prop),
  wpAny (model pw f.w) f.A (execs body f.env) (fun w s'=>w= .next∧Q .next s') (fun ev s'=> ∃μ v w,Fly f ρ μ ev s'∧ρ x=some v∧ρ y=some w∧∀u s'',VR (if isNoneV w then v else .none) u→St f ρ μ s''→Q (.ret u) s'') s→
  wpAny (model pw f.w) f.A (exec (.Try body [.ExceptHandler (some c) none [.Return (some (.IfExp (.Compare (.Name (Str.ofString y) p1) [.Is] [.Constant .none k1 p2] p3) (.Name (Str.ofString x) p4) (.Constant .none k2 p5) p6)) p7] p8] [] [] p9) f.env) Q E s
theorem notInter{f:Fm}{d:Nat}(ok:f.Ok d):interactive f.env=false:=by
 unfold interactive
 show(f.cs.kind==_ && _)=false
 rw[ok.kind];rfl
section
variable{KK:Params→Frag}{Fly:FlyT}{C:aB}{d:Nat}(HE:∀me,SE KK Fly C d me)(HT:∀me,ST KK Fly C d me)(HEs:∀mes,SEs KK Fly C d mes)(HF:FlyOk KK Fly)
include HE in
theorem ss_expr(e:ME):SS KK Fly C d (.expr e):=fun f hK ok st hc ρ μ s Φ Ψ Q E S h hQ hE=>by
 refine onExprS_elim hc ff fun v p hc=> ?_
 simp only[Bool.and_eq_true,Bool.not_eq_true'] at hc
 exact wpAny_Expr_any (HE e f hK ok v hc.2 ρ μ s _ Ψ _ E S h (fun u mv μ' s' hv S' h'=>hQ .next _ _ _ _ rfl S' h') fun ev s' μ'=>hE ev s' ρ μ') (notInter ok) (swapsNo hc.1 _ _ _)
include HE in
theorem ss_ret(e:ME):SS KK Fly C d (.ret e):=fun f hK ok st hc ρ μ s Φ Ψ Q E S h hQ hE=>by
 refine onReturn_elim hc ff fun v p hc=> ?_
 refine onS_elim hc ff fun v hc=> ?_
 exact wpAny_Return_some (HE e f hK ok v hc ρ μ s _ Ψ _ E S h (fun u mv μ' s' hv S' h'=>hQ (.ret mv) _ _ _ _ ⟨u,rfl,hv⟩ S' h') fun ev s' μ'=>hE ev s' ρ μ')
theorem ss_retNone:SS KK Fly C d .retNone:=fun f hK ok st hc ρ μ s Φ Ψ Q E S h hQ hE=>by
 refine onReturn_elim hc ff fun v p hc=> ?_
 refine onN_elim hc ff fun hc=> ?_
 exact wpAny_Return_none (hQ (.ret .none) _ _ _ _ ⟨.none,rfl,rfl⟩ S h)
theorem ss_dead:SS KK Fly C d .dead:=fun f hK ok st hc ρ μ s Φ Ψ Q E S h hQ hE=>h.elim
include HF in
theorem ss_raise:SS KK Fly C d .raise:=fun f hK ok st hc ρ μ s Φ Ψ Q E S h hQ hE=>by
 refine onRaise_elim hc ff fun e c p hc=> ?_
 refine onS_elim hc ff fun e hc=> ?_
 refine onN_elim hc ff fun hc=> ?_
 exact HF.raise f d hK ok e p hc ρ μ s Q E S fun ev s' hf=>hE ev s' ρ μ hf h
include HE HF in
theorem ss_try(e:ME)(x y:String):SS KK Fly C d (.tryS e x y):=fun f hK ok st hc ρ μ s Φ Ψ Q E S h hQ hE=>by
 refine tryP_elim hc fun v c ep p1 k1 p2 p3 p4 k2 p5 p6 p7 p8 p9 hc=> ?_
 simp only[Bool.and_eq_true,Bool.not_eq_true'] at hc
 refine q41 hc fun h1 h2 h3 h5 h6 h8 h9=> ?_
 refine HF.catch_ f d hK ok _ c x y _ _ _ _ _ _ _ _ _ _ _ h2 h8 h9 h5 h6 ρ s Q E ?_
 refine wpAny_execs_cons (wpAny_impl (Q:=fun w s'=>w= .next∧Q .next s') ?_ fun w s' h'=>by rw[h'.1];exact wpAny_execs_nil ⟨rfl,h'.2⟩)
 refine wpAny_Expr_any (HE e f hK ok v h3 ρ μ s _ _ _ _ S h (fun u mv μ' s' hv S' h'=> ⟨rfl,hQ .next _ _ _ _ rfl S' h'⟩) fun ev s' μ' hf h'=> ?_) (notInter ok) (swapsNo h1 _ _ _)
 refine q18 h' fun v w e1 e2 h'=> ?_
 exact⟨μ',v,w,hf,e1,e2,fun u s'' hu S''=>hQ (.ret _) _ _ _ _ ⟨u,rfl,hu⟩ S'' h'⟩
theorem sss_nil:SSs KK Fly C d .nil:=fun f hK ok sts hc ρ μ s Φ Ψ Q E S h hQ hE=>by
 refine on0_elim hc ff fun u_=> ?_
 exact wpAny_execs_nil (hQ .next _ _ _ _ rfl S h)
theorem dead_no{ms:MS}{ρ:ao}{μ:MH}{Φ:FPst}{Ψ:Exc}(hd:isDead ms=true)(h:evS C ms ρ μ Φ Ψ):False:=by
 cases ms with
 |dead=>exact h
 |_=>exact absurd hd ff
theorem sss_cons{ms:MS}{mss:MSs}(ih:SS KK Fly C d ms)(ih2:SSs KK Fly C d mss):SSs KK Fly C d (.cons ms mss):=fun f hK ok sts hc ρ μ s Φ Ψ Q E S h hQ hE=>by
 replace hc:=(Bool.or_eq_true _ _).mp hc
 rcases hc with hc |hc
 ·rw[Bool.and_eq_true] at hc
  exact(dead_no hc.1 h).elim
 ·refine onC_elim hc ff fun st r hc=> ?_
  rw[Bool.and_eq_true] at hc
  refine wpAny_execs_cons (ih f hK ok st hc.1 ρ μ s _ Ψ _ E S h (fun fl w ρ' μ' s' hw S' h'=> ?_) hE)
  cases fl with
  |next=>subst hw;exact ih2 f hK ok r hc.2 ρ' μ' s' Φ Ψ Q E S' h' hQ hE
  |ret v=>obtain⟨u,rfl,hu⟩:=hw;exact hQ (.ret v) _ _ _ _ ⟨u,rfl,hu⟩ S' h'
include HT in
theorem ss_ite{c:ME}{a b:MSs}(ih:SSs KK Fly C d a)(ih2:SSs KK Fly C d b):SS KK Fly C d (.ite c a b):=fun f hK ok st hc ρ μ s Φ Ψ Q E S h hQ hE=>by
 refine onIf_elim hc ff fun c' a' b' p hc=> ?_
 simp only[Bool.and_eq_true] at hc
 refine q10 hc fun h1 h2 h3 h4=> ?_
 have h0:evE C ρ c μ (fun v μ=> ∃b',v= .bool b'∧(fun(v:MV) μ=> ∃b',v= .bool b'∧if b' then aA C a ρ μ Φ Ψ else aA C b ρ μ Φ Ψ) v μ) Ψ:=by rw[←boolP];exact h
 refine wpAny_If (HT c h1 f hK ok c' h2 ρ μ s _ Ψ _ E S h0 (fun b' μ' s' S' h'=> ?_) fun ev s' μ'=>hE ev s' ρ μ')
 refine q17 h' fun b2 e h'=> ?_
 cases e
 cases b'
 ·exact ih2 f hK ok b' h4 ρ μ' s' Φ Ψ Q E S' h' hQ hE
 ·exact ih f hK ok a' h3 ρ μ' s' Φ Ψ Q E S' h' hQ hE
include HT in
theorem ss_while{c:ME}{b:MSs}(ih:SSs KK Fly C d b):SS KK Fly C d (.while c b):=fun f hK ok st hc ρ μ s Φ Ψ Q E S h hQ hE=>by
 refine onWhile_elim hc ff fun c' b' o p hc=> ?_
 refine on0_elim hc ff fun hc=> ?_
 simp only[Bool.and_eq_true] at hc
 refine q7 hc fun h1 h2 h3=> ?_
 refine q1 h fun k h=> ?_
 refine wpAny_While (codeAny_whileLoop (fun n s=> ∃ρ μ,St f ρ μ s∧whK (fun ρ μ Φ=>evE C ρ c μ Φ (fun u_=>False)) (fun ρ μ Φ=>aA C b ρ μ Φ (fun u_=>False)) Φ n ρ μ) (fun n s hh=> ?_) k ⟨ρ,μ,S,h⟩)
 clear S h
 refine q20 hh fun ρ μ S h=> ?_
 cases n with
 |zero=>exact h.elim
 |succ n=>
  have h:evE C ρ c μ (fun v μ=> ∃b',v= .bool b'∧if b' then aA C b ρ μ (fun fl ρ μ=>match fl with
   | .next=>whK (fun ρ μ Φ=>evE C ρ c μ Φ (fun u_=>False)) (fun ρ μ Φ=>aA C b ρ μ Φ (fun u_=>False)) Φ n ρ μ
   | .ret v=>Φ (.ret v) ρ μ) (fun u_=>False) else Φ .next ρ μ) (fun u_=>False):=h
  rw[boolP] at h
  refine HT c h1 f hK ok c' h2 ρ μ s _ _ _ _ S h (fun b' μ' s' S' h'=> ?_) fun u_ u_ u_ u_ h=>h.elim
  refine q17 h' fun b2 e h'=> ?_
  cases e
  cases b'
  ·exact wpAny_execs_nil (hQ .next _ _ _ _ rfl S' h')
  ·refine ih f hK ok b' h3 ρ μ' s' _ _ _ _ S' h' (fun fl w ρ2 μ2 s2 hw S2 h2=> ?_) fun u_ u_ u_ u_ u_ h=>h.elim
   cases fl with
   |next=>subst hw;exact⟨n,Nat.lt_succ_self _,ρ2,μ2,S2,h2⟩
   |ret v=>obtain⟨u,rfl,hu⟩:=hw;exact hQ (.ret v) _ _ _ _ ⟨u,rfl,hu⟩ S2 h2
end
theorem notSet_fold{it:Expr}(h:notSet it=true)(env:Env)(x:Value):foldedSetIterable it env x=pure x:=by
 cases it with
 |Set=>exact absurd h ff
 |_=>rfl
noncomputable def IterO(o:Obj)(l:Addr)(i:Nat):Prop:=o.cls= .type "list_iterator"∧o.data= .fields #[.ref l, .int i 0]
theorem IterO.foreign{o:Obj}{l:Addr}{i:Nat}(h:IterO o l i):Foreign o:=⟨(fun xs n q=>by rw[h.2] at q;cases q),(fun xs n q=>by rw[h.2] at q;cases q),(fun q=>by rw[h.2] at q;cases q)⟩
theorem fields_foreign{c:Value}{d:Option Addr}{vs:Array Value}{sl:Array (Option Value)}:Foreign ⟨c,d, .fields vs,sl⟩:=⟨(fun xs n q=>by cases q),(fun xs n q=>by cases q),(fun q=>by cases q)⟩
theorem bootRange:bootBuiltins ("range":Str)=some (.type "range"):=by boot_by_name
theorem size_notin{f:Fm}{d:Nat}{ρ:ao}{μ:MH}{s:Shared}(S:St f ρ μ s)(ok:f.Ok d):s.heap.objs.size∉f.rs∧s.heap.objs.size∉f.cl.map (·.2):=by
 refine S.heapE fun m news F N l R k e=> ?_
 refine⟨fun q=> ?_,fun q=> ?_⟩
 ·refine q17 (List.mem_map.mp (R.rsin _ q)) fun p hp e=> ?_
  exact absurd (Heap.lt_size (N p hp).1) (by rw[show p.1=_ from e];exact Nat.lt_irrefl _)
 ·refine q20 (l.2 _ q) fun o v h1 u_=> ?_
  exact absurd (Heap.lt_size (N _ h1).1) (Nat.lt_irrefl _)
section
variable{KK:Params→Frag}{Fly:FlyT}{C:aB}{d:Nat}(HE:∀me,SE KK Fly C d me)(HEs:∀mes,SEs KK Fly C d mes)
include HE in
theorem ss_for{x:String}{e:ME}{b:MSs}(ih:SSs KK Fly C d b):SS KK Fly C d (.for x e b):=fun f hK ok st hc ρ μ s Φ Ψ Q E S h hQ hE=>by
 refine onFor_elim hc ff fun t it b' o p hc=> ?_
 refine onNm_elim hc fun q hc=> ?_
 refine on0_elim hc ff fun hc=> ?_
 simp only[Bool.and_eq_true] at hc
 refine q10 hc fun h1 h2 h3 h4=> ?_
 refine wpAny_For (HE e f hK ok it h3 ρ μ s _ Ψ _ E S h (fun u v μ' s' hv S' h'=> ?_) fun ev s' μ'=>hE ev s' ρ μ') (notSet_fold h2 _)
 refine q20 h' fun a k hva hk=> ?_
 subst hva;subst hv
 cases k with
 |zero=>exact hk.elim
 |succ k=>
 have hk0:=hk
 refine q17 hk0 fun xs hm u_=> ?_
 refine S'.listP hm fun ws n m news hm' hr F N l R kp hmem=> ?_
 refine wpAny_pyIter_list (news_isList N hmem) ?_
 refine q0 (size_notin S' ok) fun nrs ncl=> ?_
 generalize hI:s'.heap.objs.size=I at nrs ncl⊢
 refine q0 (S'.keepCons ok (o:={cls:= .type "list_iterator",data:= .fields #[.ref a, .int 0 0]}) fields_foreign rfl) fun ok1 S1=> ?_
 rw[hI] at ok1 S1
 refine codeAny_forLoop (fun n s=> ∃i ρ μ o,IterO o a i∧St (f.with I o) ρ μ s∧foK a x (fun ρ μ Φ=>aA C b ρ μ Φ (fun u_=>False)) Φ n i ρ μ) (fun n s hh=> ?_) (k+1) ⟨0,ρ,μ',_,⟨rfl,rfl⟩,S1,hk⟩
 clear hk S1 ok1 hmem kp R l N F hr hm' S' hI S h
 refine q34 hh fun i ρ μ o hio S hf=> ?_
 have okw:∀o,(f.with I o).Ok (d+1):=fun o=>ok.with ncl
 cases n with
 |zero=>exact hf.elim
 |succ n=>
  refine q17 hf fun xs hm hf=> ?_
  refine q2 (S.entry hio.foreign) fun he u_ u_=> ?_
  refine S.listP hm fun ws nn m news hm' hr F N l R kp hmem=> ?_
  cases hx:xs[i]? with
  |none=>
   rw[hx] at hf
   refine wpAny_pyNext_list_end ok.handled ⟨o,he,hio.1,hio.2⟩ (news_isList N hmem) (by simpa using hr.getNone hx) fun h' ext=>wpAny_execs_nil ?_
   exact hQ .next _ _ _ _ rfl (S.keepDrop (okw o) nrs ext) hf
  |some v=>
   rw[hx] at hf
   refine q17 (hr.get hx) fun u hu hv=> ?_
   refine wpAny_pyNext_list_item ⟨o,he,hio.1,hio.2⟩ (news_isList N hmem) (x:=u) (by simpa using hu) fun h' hit sb=> ?_
   refine q19 hit fun o' ho' hc' hd'=> ?_
   have hio':IterO o' a (i+1):=⟨hc',hd'⟩
   have S2:=S.keepStep (okw o) hio.foreign hio'.foreign nrs sb ho'
   refine PyProof.Rows.assign_Name (st_store (f:=f.with I o') (okw o') S2 (isL_loc2 h1) hv fun s3 S3=> ?_)
   refine ih (f.with I o') hK (okw o') b' h4 _ μ s3 _ _ _ _ S3 hf (fun fl w ρ2 μ2 s2 hw S4 h2=> ?_) fun u_ u_ u_ u_ u_ h=>h.elim
   cases fl with
   |next=>subst hw;exact⟨n,Nat.lt_succ_self _,i+1,ρ2,μ2,o',hio',S4,h2⟩
   |ret v=>
    refine q17 hw fun u rf1 hu=> ?_
    subst rf1
    exact hQ (.ret v) _ _ _ _ ⟨u,rfl,hu⟩ (S4.keepDrop (okw o') nrs (Heap.ExtBut.refl I s2.heap)) h2
theorem bigPow:(2:Int) ^ 63=9223372036854775808:=by decide
theorem small_down{a:Int}(h1: -1≤a)(h2:a≤100):Builtin.Range.small a (-1) (-1)=true∧Builtin.Range.rangeSize a (-1) (-1)=a+1:=by
 have e:Builtin.Range.rangeSize a (-1) (-1)=a+1:=by
  unfold Builtin.Range.rangeSize
  simp only[show¬((-1:Int) > 0) by decide,if_false]
  rw[show(- -1:Int)=1 by decide,Int.ediv_one]
  split <;> lia
 refine⟨?_,e⟩
 unfold Builtin.Range.small
 rw[e]
 simp only[Builtin.Range.rangeFitsLong,Bool.and_eq_true,Bool.or_eq_true,decide_eq_true_eq,beq_iff_eq,show¬((-1:Int) > 0) by decide,if_false,bigPow]
 lia
theorem rangeOf_inv{vs:List MV}{is:List Int}(h:rangeOf vs=some is):(∃n,vs= [.int n]∧n≤100∧0≤n∧is=ap 0 1 n.toNat)∨∃a,vs= [.int a, .int (-1), .int (-1)]∧a≤100∧ -1≤a∧is=ap a (-1) (a+1).toNat:=by
 cases vs with
 |nil=>exact absurd h nn
 |cons x r=>
 refine onIntV_elim (e:=x) h nn fun a h=> ?_
 cases r with
 |nil=>
  refine q0 (ite_some h) fun q e=> ?_
  exact .inl ⟨_,rfl,q.1,q.2,e.symm⟩
 |cons y r=>
 refine onIntV_elim (e:=y) h nn fun b h=> ?_
 cases r with
 |nil=>exact absurd h nn
 |cons w r=>
 refine onIntV_elim (e:=w) h nn fun c h=> ?_
 cases r with
 |cons=>exact absurd h nn
 |nil=>
 refine q0 (ite_some h) fun q e=> ?_
 refine q6 q fun q1 q2 q3 q4=> ?_
 subst q1 q3
 exact .inr ⟨_,rfl,q2,q4,e.symm⟩
include HEs in
theorem ss_forRange{x:String}{es:MEs}{b:MSs}(ih:SSs KK Fly C d b):SS KK Fly C d (.forRange x es b):=fun f hK ok st hc ρ μ s Φ Ψ Q E S h hQ hE=>by
 refine onFor_elim hc ff fun t it b' o p hc=> ?_
 refine onNm_elim hc fun q hc=> ?_
 refine on0_elim hc ff fun hc=> ?_
 refine onRg_elim hc fun y2 p1 as p2 hb hc=> ?_
 refine band hc fun hc h4=> ?_
 refine band hc fun h1 h3=> ?_
 refine wpAny_For ?_ (fun u_=>rfl)
 refine Call_ (st_builtin ok S hb bootRange ?_) rfl
 have ha:=plain_args f.env p2 h3
 refine PySem.callWith_type ha (evalArgs_any ha ?_)
 refine HEs es f hK ok as h3 p2 ρ μ s _ Ψ _ E S h (fun us vs μ' s' hvs S' h'=> ?_) fun ev s' μ'=>hE ev s' ρ μ'
 refine q17 h' fun is hi hk=> ?_
 have loop:∀(a st:Int) (n:Nat) (s₁:Shared),St f ρ μ' s₁→frK x (fun ρ μ Φ=>aA C b ρ μ Φ (fun u_=>False)) Φ (ap a st n) ρ μ'→
   codeAny (model pw f.w) f.A (.forLoop (.Name (Str.ofString x) q) (.ref s₁.heap.objs.size) b' [] f.env) (fun r s'=>match r with | .ok f=>Q f s' | .error e=>cameBackBy (model pw f.w) f.A f.env E e s')
    {s₁ with heap:=s₁.heap.push {cls:= .type "range_iterator",data:= .fields #[rawInt a,rawInt (n:Int),rawInt st]}}:=fun a st n s₁ S₁ hk=>by
  refine q0 (size_notin S₁ ok) fun nrs ncl=> ?_
  refine q0 (S₁.keepCons ok (o:={cls:= .type "range_iterator",data:= .fields #[rawInt a,rawInt (n:Int),rawInt st]}) fields_foreign rfl) fun ok1 S1=> ?_
  generalize hI:s₁.heap.objs.size=I at nrs ncl ok1 S1⊢
  have okw:∀o,(f.with I o).Ok (d+1):=fun o=>ok.with ncl
  refine codeAny_forLoop (fun k s=> ∃a ρ μ,St (f.with I {cls:= .type "range_iterator",data:= .fields #[rawInt a,rawInt (k:Int),rawInt st]}) ρ μ s∧frK x (fun ρ μ Φ=>aA C b ρ μ Φ (fun u_=>False)) Φ (ap a st k) ρ μ) (fun k s hh=> ?_) n ⟨a,ρ,μ',S1,hk⟩
  refine q25 hh fun a ρ μ S hf=> ?_
  refine q2 (S.entry fields_foreign) fun he u_ u_=> ?_
  cases k with
  |zero=>
   refine wpAny_pyNext_range_end ok.handled he (by decide) fun h' ext=>wpAny_execs_nil ?_
   exact hQ .next _ _ _ _ rfl (S.keepDrop (okw _) nrs ext) hf
  |succ k=>
   refine wpAny_pyNext_range_item he (by lia) fun h' hit sb=> ?_
   have e1:((k+1:Nat):Int) - 1=(k:Int):=by lia
   rw[e1] at hit
   have S2:=(S.keepStep (okw _) fields_foreign fields_foreign nrs sb hit).toks (s.toks+1)
   refine PyProof.Rows.assign_Name (st_store (f:=f.with I _) (okw _) S2 (isL_loc2 h1) (v:= .int a) ⟨_,rfl⟩ fun s3 S3=> ?_)
   refine ih (f.with I _) hK (okw _) b' h4 _ μ s3 _ _ _ _ S3 hf (fun fl w ρ2 μ2 s2 hw S4 h2=> ?_) fun u_ u_ u_ u_ u_ h=>h.elim
   cases fl with
   |next=>subst hw;exact⟨k,Nat.lt_succ_self _,a+st,ρ2,μ2,S4,h2⟩
   |ret v=>
    refine q17 hw fun u rf1 hu=> ?_
    subst rf1
    exact hQ (.ret v) _ _ _ _ ⟨u,rfl,hu⟩ (S4.keepDrop (okw _) nrs (Heap.ExtBut.refl I s2.heap)) h2
 rcases rangeOf_inv hi with⟨n,rfl,hn1,hn2,rfl⟩ |⟨a,rfl,hn1,hn2,rfl⟩
 ·cases hvs with |cons hv hvs=>cases hvs with |nil=>
  refine q1 hv.int fun t rf1=> ?_
  replace rf1:=rf1.symm;subst rf1
  refine call_range_1 ?_
  refine wpAny_pyIter_range (IsRange.new ..) (small_one (by decide) (by decide) (by lia) (by lia)) ?_
  have hsz:Builtin.Range.rangeSize 0 n 1=(n.toNat:Int):=by rw[rangeSize_one];split <;> lia
  rw[hsz]
  exact loop 0 1 n.toNat _ ((S'.more _ rfl).toks _) hk
 ·cases hvs with |cons hv hvs=>cases hvs with |cons hv2 hvs=>cases hvs with |cons hv3 hvs=>cases hvs with |nil=>
  refine q1 hv.int fun t rf1=> ?_
  rw[rf1]
  refine q1 hv2.int fun t2 rf1=> ?_
  subst rf1
  refine q1 hv3.int fun t3 rf1=> ?_
  subst rf1
  refine q0 (small_down hn2 hn1) fun sm hsz=> ?_
  refine call_range_3 (by decide) ?_ (Or.inl (PyProof.noPylong_small (by lia)))
  refine wpAny_pyIter_range (IsRange.new ..) sm ?_
  rw[hsz]
  have e:a+1=((a+1).toNat:Int):=by lia
  rw[e]
  exact loop a (-1) (a+1).toNat _ ((S'.more _ rfl).toks _) hk
end
set_option genInjectivity false in structure FnFact(K:Frag)(a:Addr)(fn:Fn) where
 name:Str
 qual:Str
 params:Arguments
 body:List Stmt
 scope:Scope
 dV:Value
 kV:Value
 doc:Value
 pm:Value
 cdv:Value
 ct:Value
 oc:Value
 an:Option Addr
 od:Option Addr
 osl:Array (Option Value)
 look:K.lookup a=some ⟨oc,od, .func (fnOf name qual params body scope dV kV doc pm an cdv ct),osl⟩
 code:codeIn K cdv qual=true
 keep:keepIn K (.ref a)=true
 chk:chkSs K scope fn.body body=true
 co:scope.isCoroutine=false
 gen:scope.isGenerator=false
 kind:scope.kind= .function
 nd:((cellsFrom 0 scope.names []).map (·.1)).Nodup
 pnd:(fn.params.map Str.ofString).Nodup
 kinds:(fn.params.all fun x=>isLoc2 scope (Str.ofString x))=true
 bind:∀(s:Shared) (us:List Value),K.In s.heap→us.length=fn.params.length→BindsTo s (fnOf name qual params body scope dV kV doc pm an cdv ct) ⟨us,[]⟩ ((fn.params.map Str.ofString).zip us)
theorem bindL_off{k:Str→Option NameKind}{y:Str}{bs:List (Str×Value)}:∀{m:Str→Option Value},y∉bs.map (·.1)→bindL k bs m y=m y:=by
 induction bs with
 |nil=>
  intro m _
  exact rfl
 |cons p0_ r ih=>
  obtain⟨n,v⟩:=p0_
  intro m h
  rw[bindL,ih (fun q=>h (.tail _ q))]
  have:y≠n:=fun q=>h (q▸ .head _)
  split
  ·simp[this]
  ·rfl
theorem bindL_mem{k:Str→Option NameKind}{x:Str}{u:Value}:∀{bs:List (Str×Value)} {m:Str→Option Value},(bs.map (·.1)).Nodup→(x,u)∈bs→k x=some .local→bindL k bs m x=some u
 |(n,v)::r,m,hn,hm,hk=>by
  rw[List.map_cons,List.nodup_cons] at hn
  rw[bindL]
  rcases List.mem_cons.mp hm with e |hm
  ·cases e
   rw[bindL_off hn.1,if_pos hk];simp
  ·exact bindL_mem hn.2 hm hk
theorem bindC_off{k:Str→Option NameKind}{y:Str}{bs:List (Str×Value)}:∀{m:Str→Option Value},y∉bs.map (·.1)→bindC k bs m y=m y:=by
 induction bs with
 |nil=>
  intro m _
  exact rfl
 |cons p0_ r ih=>
  obtain⟨n,v⟩:=p0_
  intro m h
  rw[bindC,ih (fun q=>h (.tail _ q))]
  have:y≠n:=fun q=>h (q▸ .head _)
  split
  ·rfl
  ·simp[this]
theorem bindC_mem{k:Str→Option NameKind}{x:Str}{u:Value}:∀{bs:List (Str×Value)} {m:Str→Option Value},(bs.map (·.1)).Nodup→(x,u)∈bs→k x=some .cell→bindC k bs m x=some u
 |(n,v)::r,m,hn,hm,hk=>by
  rw[List.map_cons,List.nodup_cons] at hn
  rw[bindC]
  rcases List.mem_cons.mp hm with e |hm
  ·cases e
   rw[bindC_off hn.1,if_neg (by rw[hk];decide)];simp
  ·exact bindC_mem hn.2 hm hk
theorem cellsAre_mem{cm:Str→Option Value}{n:Str}{c:Addr}{cl:List (Str×Addr)}{cells:NL}(h:CellsAre cm cl cells)(m:(n,c)∈cl):∃o,(c,o)∈cells∧o.data= .cell (cm n):=by
 induction h with
 |nil=>exact absurd m nem
 |cons hd r ih=>
  rcases List.mem_cons.mp m with e |h
  ·cases e;exact⟨_, .head _,hd⟩
  ·refine q17 (ih h) fun o h1 h2=> ?_
   exact⟨o, .tail _ h1,h2⟩
theorem cellsAre_keys{cm:Str→Option Value}{cl:List (Str×Addr)}{cells:NL}(h:CellsAre cm cl cells):cells.map (·.1)=cl.map (·.2):=by
 induction h with
 |nil=>rfl
 |cons hd r ih=>exact congrArg (List.cons _) ih
theorem cellsFrom_vals(names:List (Str×NameKind)):∀(n:Nat) (acc:List (Str×Addr)),(acc.map (·.2)).Nodup→(∀p∈acc,@LT.lt Nat _ p.2 n)→((cellsFrom n names acc).map (·.2)).Nodup:=by
 induction names with
 |nil=>
  intro _ _ h _
  exact h
 |cons p0_ r ih=>
  obtain⟨name,kind⟩:=p0_
  intro n acc h hl
  unfold cellsFrom
  split
  ·refine ih _ _ (List.nodup_cons.mpr ⟨fun q=> ?_,h⟩) fun p hp=> ?_
   ·refine q17 (List.mem_map.mp q) fun p hp e=> ?_
    have:=hl p hp
    rw[e] at this
    exact Nat.lt_irrefl _ this
   ·rcases List.mem_cons.mp hp with rfl |hp
    ·exact Nat.lt_succ_self _
    ·exact Nat.lt_succ_of_lt (hl p hp)
  ·exact ih _ _ h hl
theorem cellsFrom_above(names:List (Str×NameKind)):∀(n:Nat) (acc:List (Str×Addr)),∀p∈cellsFrom n names acc,p∈acc∨ @LE.le Nat _ n p.2:=by
 induction names with
 |nil=>
  intro _ _ p h
  exact .inl h
 |cons p0_ r ih=>
  obtain⟨name,kind⟩:=p0_
  intro n acc p h
  unfold cellsFrom at h
  split at h
  ·rcases ih _ _ p h with h |h
   ·rcases List.mem_cons.mp h with rfl |h
    ·exact .inr (Nat.le_refl _)
    ·exact .inl h
   ·exact .inr (Nat.le_of_succ_le h)
  ·exact ih _ _ p h
theorem vals_inj{cl:List (Str×Addr)}(h:(cl.map (·.2)).Nodup){x y:Str}{c:Addr}(h1:(x,c)∈cl)(h2:(y,c)∈cl):x=y:=by
 induction cl with
 |nil=>cases h1
 |cons p r ih=>
  rw[List.map_cons,List.nodup_cons] at h
  rcases List.mem_cons.mp h1 with e |h1
  ·rcases List.mem_cons.mp h2 with e2 |h2
   ·rw[←e] at e2;exact(congrArg Prod.fst e2).symm
   ·exact(h.1 (List.mem_map.mpr ⟨_,h2,by rw[←e]⟩)).elim
  ·rcases List.mem_cons.mp h2 with e2 |h2
   ·exact(h.1 (List.mem_map.mpr ⟨_,h1,by rw[←e2]⟩)).elim
   ·exact ih h.2 h1 h2
theorem lookup_pair{x:Str}{c:Addr}:∀{cl:List (Str×Addr)},cl.lookup x=some c→(x,c)∈cl
 | [],h=>by exact absurd h nn
 |(y,c')::r,h=>by
  rw[List.lookup_cons] at h
  split at h
  ·rename_i q;obtain rfl:=Option.some.inj h;rw[beq_iff_eq.mp q];exact .head _
  ·exact .tail _ (lookup_pair h)
theorem bindM_zip{x:String}{v:MV}{ps:List String}:∀{vs:List MV} {us:List Value},VRs vs us→bindM ps vs x=some v→∃u,VR v u∧(Str.ofString x,u)∈(ps.map Str.ofString).zip us:=by
 induction ps with
 |nil=>intro vs us h e;exact absurd e nn
 |cons p ps ih=>
  intro vs us h e
  cases h with
  |nil=>exact absurd e nn
  |cons hv h=>
   by_cases q:x=p
   ·replace e:=(if_pos q).symm.trans e
    rw[←Option.some.inj e,q]
    exact⟨_,hv, .head _⟩
   ·refine q17 (ih h ((if_neg q).symm.trans e)) fun u' h1 h2=> ?_
    exact⟨u',h1, .tail _ h2⟩
structure Inner(f f':Fm)(sc:Scope):Prop where
 w:f'.w=f.w
 K:f'.K=f.K
 cs:f'.cs=sc
 A:f'.A=f.A.deeper f'.env
 h₀:f'.h₀=f.h₀
 outer:f'.outer=f.env::f.outer
 s₀:f'.s₀=f.s₀
noncomputable def StN(f:Fm)(ρ:ao)(μ:MH)(s:Shared)(news:NL):Prop:=∃h tk m,s={f.s₀ with heap:=h,toks:=tk}∧Fr f.h₀ f.L h m∧News f.h₀ f.L h news∧LocR f.cs f.cl m news ρ∧Rep f.w f.rs μ news∧Kept f.keep news
theorem StN.st{f:Fm}{ρ:ao}{μ:MH}{s:Shared}{news:NL}(S:StN f ρ μ s news):St f ρ μ s:=let⟨h,tk,m,a⟩:=S;⟨h,tk,m,news,a⟩
theorem St.n{f:Fm}{ρ:ao}{μ:MH}{s:Shared}(S:St f ρ μ s):∃news,StN f ρ μ s news:=let⟨h,tk,m,news,a⟩:=S;⟨news,h,tk,m,a⟩
theorem enter{f:Fm}{d:Nat}(ok:f.Ok (d+2)){a:Addr}{fn:Fn}(FF:FnFact f.K a fn){ρ:ao}{μ:MH}{s:Shared}(S:St f ρ μ s){vs:List MV}{us:List Value}(hvs:VRs vs us)(hl:vs.length=fn.params.length){R:Result→Shared→Prop}
  (h:∀(f':Fm) (s':Shared),Inner f f' FF.scope→f'.Ok (d+1)→St f' (bindM fn.params vs) μ s'→(∀ρ' μ' s'' news2,StN f' ρ' μ' s'' news2→StN f ρ μ' s'' (news2.filter fun p=>decide (p.1≠f.L)))→
   wpAny (model pw f'.w) f'.A (execs FF.body f'.env) (fun fl s'=>R (.ok (.ret (match fl with | .ret v=>v |_=> .none))) s')
    (fun e s'=>wpAny (model pw f'.w) f'.A (leaving f'.env e) (fun u_ s''=>R (.error e) s'') (fun e' s''=>R (.error e') s'') s') s'):
  codeAny (model pw f.w) f.A (.call (.ref a) ⟨us,[]⟩) R s:=by
 refine S.heapE fun m news F N l Rp kp es=> ?_
 refine q8 ok.top fun p' loose mean mg mb T=> ?_
 have X:=S.kin ok
 have hkeys:((FF.scope.names)=FF.scope.names):=rfl
 have low:∀p∈news,p.1 < s.heap.objs.size:=fun p hp=>Heap.lt_size (N p hp).1
 have Llt:f.L < s.heap.objs.size:=F.ns.lt
 have hus:us.length=fn.params.length:=(hvs.length.trans hl)
 have bk:((fn.params.map Str.ofString).zip us).map (·.1)=fn.params.map Str.ofString:=zip_keys (by simpa using hus)
 have kindOf:∀x∈(fn.params.map Str.ofString).zip us,FF.scope.names.lookup x.1=some .local∨FF.scope.names.lookup x.1=some .cell:=fun x hx=>by
  have hm:x.1∈fn.params.map Str.ofString:=by rw[←bk];exact List.mem_map_of_mem hx
  refine q17 (List.mem_map.mp hm) fun y hy e=> ?_
  have:=List.all_eq_true.mp FF.kinds y hy
  rw[←e]
  exact isLoc2_of this
 refine codeAny_call_function (by have:=ok.depth;lia) (X _ _ FF.look) rfl FF.co FF.gen rfl (codeRec_of X FF.code) (FF.bind s us X hus _ _ _ _ ?_)
 refine wpAny_newFunctionEnv_cells FF.kind (fun x hx=> (kindOf x hx).imp id fun q=> ⟨q,cellsFrom_some _ _ _ (.inl q)⟩) fun env' he s' x=> ?_
 subst he
 refine⟨(T.nolimit.keeps F.keep).keeps x.toInCall.keep,codeAny_func ?_⟩
 refine q20 x.done fun h₁ tk rf2 u_=> ?_
 subst rf2
 have hk₁:=x.toInCall.keep
 refine q17 (Cl.news (h₀:=s.heap) (Nat.le_refl _) fun n c hm=> ⟨x.cell n c (lookup_of_mem_nodup (cellsFrom_names FF.scope.names 0 (s.heap.objs.size+1) [] [] rfl▸FF.nd) hm),x.above n c hm⟩) fun cells NC Y=> ?_
 refine q27 F.ns fun oL esL epL hL hLd hLk hLf=> ?_
 generalize hcl:cellsFrom (s.heap.objs.size+1) FF.scope.names []=cl at *
 have clv:(cl.map (·.2)).Nodup:=hcl▸cellsFrom_vals _ _ _ List.nodup_nil fun p hp=>nomatch hp
 have cla:∀c∈cl.map (·.2),s.heap.objs.size < c:=fun c hc=>by
  refine q17 (List.mem_map.mp hc) fun p hp e=> ?_
  rw[←hcl] at hp
  rcases cellsFrom_above _ _ _ p hp with q |q
  ·cases q
  ·rw[←e];exact q
 let own:NL:=news.filter fun p=>decide (p.1∈f.cl.map (·.2))
 have ownm:∀p,p∈own↔p∈news∧p.1∈f.cl.map (·.2):=fun p=>by simp[own]
 have ownF:∀p∈own,Foreign p.2:=fun p hp=>by
  refine q0 ((ownm p).mp hp) fun h1 h2=> ?_
  refine q20 (l.2 _ h2) fun o v h3 h4=> ?_
  have q:p=(p.1,o):=uniq Rp.nodup h1 h3 rfl
  rw[q];exact foreign_cell h4
 let f':Fm:={w:=f.w,K:=f.K,A:=f.A.deeper (envX FF.qual FF.scope s.heap.objs.size a FF.cdv cl),h₀:=f.h₀,outer:=f.env::f.outer,L:=s.heap.objs.size,a,cn:=FF.qual,cs:=FF.scope,ccd:=FF.cdv,cl:=cl,s₀:=f.s₀,keep:=(f.L,oL)::(own++f.keep)}
 have keepLow:∀p∈f'.keep,p.1 < s.heap.objs.size:=fun p hp=>by
  rcases List.mem_cons.mp hp with rfl |hp
  ·exact Llt
  ·rcases List.mem_append.mp hp with hp |hp
   ·exact low p ((ownm p).mp hp).1
   ·refine q17 (kp p hp) fun sl m u_=> ?_
    have q:=low _ m;exact q
 have keepNe:∀p∈own++f.keep,p.1≠f.L:=fun p hp=>by
  rcases List.mem_append.mp hp with hp |hp
  ·exact(N p ((ownm p).mp hp).1).2.1
  ·refine q17 (kp p hp) fun sl m u_=> ?_
   exact(N _ m).2.1
 have ok':f'.Ok (d+1):={
  frames:=Around.frames_deeper ok.frames
  handled:=ok.handled
  kin:=ok.kin
  top:=ok.top
  kind:=FF.kind
  mods:=ok.mods
  depth:=by have:=ok.depth;have e:f'.A.depth=f.A.depth+1:=depth_deeper _ _;lia
  units:=by have:=ok.units;have e:f'.A.units=f.A.units+3:=units_deeper _ _;lia
  outs:=fun e he=>by
   rcases List.mem_cons.mp he with rfl |he
   ·exact⟨ok.kind,f.L,oL,rfl, .head _,esL,epL,hLd⟩
   ·refine q33 (ok.outs e he) fun h1 L o h2 h3 h4=> ?_
    exact⟨h1,L,o,h2, .tail _ (List.mem_append_right _ h3),h4⟩
  apart:=fun p hp q=>absurd (Nat.lt_trans (keepLow p hp) (cla _ q)) (Nat.lt_irrefl _)
  cells:=fun y hy=>by
   have:=cellsFrom_some (x:=y) FF.scope.names (s.heap.objs.size+1) [] (.inl hy)
   rw[hcl] at this
   exact Option.isSome_iff_exists.mp this
  inj:=fun y z c h1 h2=>vals_inj clv (lookup_pair h1) (lookup_pair h2)}
 have ckeys:=cellsAre_keys Y
 have nd':((cells++(f.L,oL)::news).map (·.1)).Nodup:=by
  rw[List.map_append,List.nodup_append,List.map_cons,List.nodup_cons]
  refine⟨ckeys▸clv,⟨fun q=> ?_,Rp.nodup⟩,fun c hc b hb e=> ?_⟩
  ·refine q17 (List.mem_map.mp q) fun p hp e=> ?_
   exact(N p hp).2.1 e
  ·have c1:=cla c (ckeys▸hc)
   have c2:b < s.heap.objs.size:=by
    rcases List.mem_cons.mp hb with rfl |hb
    ·exact Llt
    ·refine q17 (List.mem_map.mp hb) fun p hp e=> ?_
     rw[←e];exact low p hp
   rw[e] at c1
   exact absurd (Nat.lt_trans c2 c1) (Nat.lt_irrefl _)
 have S':St f' (bindM fn.params vs) μ {s with heap:=h₁,toks:=tk}:=by
  refine q24 S fun h0 tk0 m0 news0 rf4 u_=> ?_
  subst rf4
  refine⟨h₁,tk,_,cells++(f.L,oL)::news,rfl,⟨x.toInCall.ns,fun b o e=>hk₁ b o (F.keep b o e),Nat.le_of_lt (Nat.lt_of_le_of_lt F.above Llt)⟩,fun p hp=> ?_,⟨fun y v e=> ?_,fun c hc=> ?_⟩,Rp.trans nd' (fun r hr=> ?_) (fun r hr=> ?_) (fun p hp u_ u_=>List.mem_append_right _ (.tail _ hp)),fun p hp=> ?_⟩
  ·rcases List.mem_append.mp hp with hp |hp
   ·refine q2 (NC p hp) fun n1 n2 n3=> ?_
    refine⟨n1,n2,?_⟩
    cases q:f.h₀.get? p.1 with
    |none=>rfl
    |some o=>have:=F.keep _ _ q;rw[n3] at this;exact absurd this nn
   ·rcases List.mem_cons.mp hp with rfl |hp
    ·refine⟨hk₁ _ _ hL,Nat.ne_of_lt Llt,?_⟩
     cases q:f.h₀.get? f.L with
     |none=>rfl
     |some o=>exact absurd (Nat.lt_of_lt_of_le (Heap.lt_size q) F.above) (Nat.lt_irrefl _)
    ·exact⟨hk₁ _ _ (N p hp).1,Nat.ne_of_lt (low p hp),(N p hp).2.2⟩
  ·refine q17 (bindM_zip hvs e) fun u hv hm=> ?_
   refine⟨u,hv,?_⟩
   rcases kindOf _ hm with q |q
   ·exact .inl ⟨q,bindL_mem (by rw[bk];exact FF.pnd) hm q⟩
   ·have:=cellsFrom_some (x:=Str.ofString y) FF.scope.names (h0.objs.size+1) [] (.inl q)
    refine q1 (Option.isSome_iff_exists.mp this) fun c hc=> ?_
    have hcl':cellsFrom (h0.objs.size+1) FF.scope.names []=cl:=hcl
    rw[hcl'] at hc
    refine q17 (cellsAre_mem Y (lookup_pair hc)) fun o h1 h2=> ?_
    refine .inr ⟨.inl q,c,o,hc,List.mem_append_left _ h1,?_⟩
    rw[h2];exact congrArg _ (bindC_mem (by rw[bk];exact FF.pnd) hm q)
  ·refine q17 (List.mem_map.mp hc) fun p hp e=> ?_
   refine q17 (cellsAre_mem Y (show(p.1,p.2)∈cl from hp)) fun o h1 h2=> ?_
   exact⟨o,_,by rw[←e];exact List.mem_append_left _ h1,h2⟩
  ·refine q17 (List.mem_map.mp hr) fun p hp e=> ?_
   rw[List.map_append]
   refine List.mem_append_right _ ?_
   rcases List.mem_cons.mp hp with rfl |hp
   ·rw[←e];exact .head _
   ·rcases List.mem_append.mp hp with hp |hp
    ·rw[←e];exact .tail _ (List.mem_map_of_mem ((ownm p).mp hp).1)
    ·refine q17 (kp p hp) fun sl m u_=> ?_
     rw[←e];exact .tail _ (List.mem_map.mpr ⟨_,m,rfl⟩)
  ·refine q17 (List.mem_map.mp hr) fun p hp e=> ?_
   rcases List.mem_cons.mp hp with rfl |hp
   ·exact .inr fun o ho=>absurd e.symm (N _ ho).2.1
   ·rcases List.mem_append.mp hp with hp |hp
    ·refine .inr fun o ho=> ?_
     have q:(r,o)=p:=uniq Rp.nodup ho ((ownm p).mp hp).1 e.symm
     have:=ownF p hp
     rw[←q] at this;exact this
    ·exact .inl (by rw[←e];exact List.mem_map_of_mem hp)
  ·rcases List.mem_cons.mp hp with rfl |hp
   ·exact⟨oL.slots,List.mem_append_right _ (.head _),fun u_=>rfl⟩
   ·rcases List.mem_append.mp hp with hp |hp
    ·exact⟨p.2.slots,List.mem_append_right _ (.tail _ ((ownm p).mp hp).1),fun u_=>rfl⟩
    ·refine q17 (kp p hp) fun sl m e=> ?_
     exact⟨sl,List.mem_append_right _ (.tail _ m),e⟩
 refine h f' _ ⟨rfl,rfl,rfl,rfl,rfl,rfl,rfl⟩ ok' S' fun ρ' μ' s'' news2 S''=> ?_
 refine q35 S'' fun h2 tk2 m2 rf3 F2 N2 l2 R2 k2=> ?_
 rw[rf3]
 refine q17 (k2 _ (.head _)) fun slL mL u_=> ?_
 have keepF:∀p∈news2,p.1≠f.L→p∈news2.filter fun p=>decide (p.1≠f.L):=fun p hp e=>List.mem_filter.mpr ⟨hp,by simpa using e⟩
 have sub:∀r∈f.rs,r∈f'.rs:=fun r hr=> .tail _ (by rw[List.map_append];exact List.mem_append_right _ hr)
 refine⟨h2,tk2,m,rfl,⟨⟨_,esL,epL,(N2 _ mL).1,hLd,hLk,hLf⟩,F2.keep,F.above⟩,fun p hp=> ?_,l.subC fun p hp q=> ?_,R2.trans (R2.nodup.sublist (List.filter_sublist.map _)) (fun r hr=> ?_) (fun r hr=> .inl (sub r hr)) (fun p hp hr u_=>keepF p hp fun e=>hr (e▸ .head _)),fun p hp=> ?_⟩
 ·refine q0 (List.mem_filter.mp hp) fun hp e=> ?_
  exact⟨(N2 p hp).1,by simpa using e,(N2 p hp).2.2⟩
 ·have po:p∈own:=(ownm p).mpr ⟨hp,q⟩
  refine q17 (k2 p (.tail _ (List.mem_append_left _ po))) fun sl m3 e3=> ?_
  rw[e3 (ownF p po)] at m3
  exact keepF _ m3 (N p hp).2.1
 ·refine q17 (List.mem_map.mp hr) fun p hp e=> ?_
  refine q17 (k2 p (.tail _ (List.mem_append_right _ hp))) fun sl m3 e3=> ?_
  exact List.mem_map.mpr ⟨_,keepF _ m3 (keepNe p (List.mem_append_right _ hp)),e⟩
 ·refine q17 (k2 p (.tail _ (List.mem_append_right _ hp))) fun sl m3 e3=> ?_
  exact⟨sl,keepF _ m3 (keepNe p (List.mem_append_right _ hp)),e3⟩
structure FlyLeave(Fly:FlyT):Prop where
 leave:∀(f f':Fm) (d:Nat) (sc:Scope),f'.Ok d→f.Ok d→Inner f f' sc→∀(ρ ρ':ao) (μ:MH) (ev:Value) (s:Shared) (Q E:Value→Shared→Prop),(∀ρ' μ' s'' news2,StN f' ρ' μ' s'' news2→StN f ρ μ' s'' (news2.filter fun p=>decide (p.1≠f.L)))→Fly f' ρ' μ ev s→(∀s'',Fly f ρ μ ev s''→Q ev s'')→
  wpAny (model pw f'.w) f'.A (leaving f'.env ev) (fun u_ s''=>Q ev s'') E s
noncomputable def NsO(o:Obj)(m:Str→Option Value):Prop:=∃es ep,o.data= .dict es ep∧StrKeys es∧∀name,nsFind es name=m name
section
variable{f:Fm}{d:Nat}{ρ:ao}{μ:MH}{s:Shared}{I C:Addr}{o o':Obj}
theorem St.perm{k':NL}(S:St f ρ μ s)(h1:∀p∈k',p∈f.keep):St {f with keep:=k'} ρ μ s:=by
 refine q26 S fun h tk m news rf4 F N l R k=> ?_
 subst rf4
 have sub:∀r∈k'.map (·.1),r∈f.rs:=fun r hr=>by
  refine q17 (List.mem_map.mp hr) fun p hp e=> ?_
  exact List.mem_map.mpr ⟨p,h1 p hp,e⟩
 have R':Rep f.w (k'.map (·.1)) μ news:=R.trans R.nodup (fun r hr=>R.rsin r (sub r hr)) (fun r hr=> .inl (sub r hr)) (fun p hp u_ u_=>hp)
 exact⟨h,tk,m,news,rfl,F,N,l,R',fun p hp=>k p (h1 p hp)⟩
theorem St.keepNew(S:St f ρ μ s)(ok:f.Ok d){h':Heap}{t:Nat}(hI:s.heap.objs.size≤I)(hk:∀b ob,s.heap.get? b=some ob→h'.get? b=some ob)(ho:h'.get? I=some o):
  I∉f.rs∧I∉f.cl.map (·.2)∧St (f.with I o) ρ μ {s with heap:=h',toks:=t}:=by
 refine S.heapE fun m news F N l R k e=> ?_
 have low:∀p∈news,p.1 < I:=fun p hp=>Nat.lt_of_lt_of_le (Heap.lt_size (N p hp).1) hI
 have fresh:I∉news.map (·.1):=fun q=>by
  refine q17 (List.mem_map.mp q) fun p hp e=> ?_
  exact absurd (low p hp) (by rw[show p.1=_ from e];exact Nat.lt_irrefl _)
 refine⟨fun q=>fresh (R.rsin _ q),fun q=> ?_,?_⟩
 ·refine q20 (l.2 _ q) fun o' v h1 u_=> ?_
  exact absurd (low _ h1) (Nat.lt_irrefl _)
 ·refine q24 S fun h0 tk m' news' rf4 u_=> ?_
  subst rf4
  have Llt:f.L < I:=Nat.lt_of_lt_of_le F.ns.lt hI
  refine⟨h',t,m,(I,o)::news,rfl,⟨F.ns.keeps hk,fun b ob e=>hk b ob (F.keep b ob e),F.above⟩,fun p hp=> ?_,l.sub fun p hp u_=> .tail _ hp,R.trans (List.nodup_cons.mpr ⟨fresh,R.nodup⟩) (fun r hr=> ?_) (fun r hr=> ?_) fun p hp u_ u_=> .tail _ hp,fun p hp=> ?_⟩
  ·rcases List.mem_cons.mp hp with rfl |hp
   ·refine⟨ho,Nat.ne_of_gt Llt,?_⟩
    cases q:f.h₀.get? I with
    |none=>rfl
    |some x=>exact absurd (Nat.lt_of_lt_of_le (Heap.lt_size (F.keep _ _ q)) hI) (Nat.lt_irrefl _)
   ·exact⟨hk _ _ (N p hp).1,(N p hp).2⟩
  ·rcases List.mem_cons.mp hr with rfl |hr
   ·exact .head _
   ·exact .tail _ (R.rsin r hr)
  ·rcases List.mem_cons.mp hr with rfl |hr
   ·exact .inr fun ob hob=>absurd (List.mem_map.mpr ⟨_,hob,rfl⟩) fresh
   ·exact .inl hr
  ·rcases List.mem_cons.mp hp with rfl |hp
   ·exact⟨o.slots, .head _,fun u_=>rfl⟩
   ·exact(k.cons _) p hp
theorem St.nsAt{m:Str→Option Value}(S:St (f.with C o) ρ μ s)(hn:NsO o m):s.heap.Ns C m:=by
 refine S.heapE fun mm news F N l R k e=> ?_
 refine q17 (k _ (.head _)) fun sl hm u_=> ?_
 refine q18 hn fun es ep hd h1 h2=> ?_
 exact⟨_,es,ep,(N _ hm).1,hd,h1,h2⟩
theorem St.stepAt(S:St (f.with I o) ρ μ s)(ok:f.Ok d)(hcl:I∉f.cl.map (·.2))(hI:I∉f.rs){h':Heap}{t:Nat}(hs:Heap.SameBut I s.heap h')(ho:h'.get? I=some o'):St (f.with I o') ρ μ {s with heap:=h',toks:=t}:=by
 refine S.heapE fun m news F N l R k e=> ?_
 refine q17 (k _ (.head _)) fun sl hm he=> ?_
 refine q2 (N _ hm) fun n1 n2 n3=> ?_
 refine q24 S fun h0 tk m' news' rf4 u_=> ?_
 subst rf4
 refine⟨h',t,m,putE news I o',rfl,F.change hs n2 n3,fun p hp=> ?_,l.subC fun p hp q=>mem_put_ne hp fun e=>hcl (e▸q),R.trans (by rw[put_keys];exact R.nodup) (by rw[put_keys];exact R.rsin) (fun r hr=> .inl hr) fun p hp hr u_=>mem_put_ne hp fun e=>hr (e▸ .head _),fun p hp=> ?_⟩
 ·refine q17 (List.mem_map.mp hp) fun q hq rf2=> ?_
  subst rf2
  by_cases e:q.1=I
  ·simp only[e,if_true];exact⟨ho,n2,n3⟩
  ·simp only[e,if_false];exact⟨(hs.2 _ e).trans (N q hq).1,(N q hq).2⟩
 ·rcases List.mem_cons.mp hp with rfl |hp
  ·exact⟨o'.slots,mem_put_same hm,fun u_=>rfl⟩
  ·refine q17 (k p (.tail _ hp)) fun sl' m' e'=> ?_
   exact⟨sl',mem_put_ne m' fun e=>hI (List.mem_map.mpr ⟨p,hp,e⟩),e'⟩
end
noncomputable abbrev Fm.with2(f:Fm)(C:Addr)(oC:Obj)(I:Addr)(oI:Obj):Fm:=(f.with I oI).with C oC
theorem St.swap{f:Fm}{ρ:ao}{μ:MH}{s:Shared}{C I:Addr}{oC oI:Obj}(S:St (f.with2 C oC I oI) ρ μ s):St (f.with2 I oI C oC) ρ μ s:=S.perm (k':=(I,oI)::(C,oC)::f.keep) fun p hp=>by
 rcases List.mem_cons.mp hp with rfl |hp
 ·exact .tail _ (.head _)
 ·rcases List.mem_cons.mp hp with rfl |hp
  ·exact .head _
  ·exact .tail _ (.tail _ hp)
theorem nsO_of{h:Heap}{C:Addr}{m:Str→Option Value}(hn:h.Ns C m):∃o,h.get? C=some o∧NsO o m:=by
 refine q27 hn fun o es ep h1 h2 h3 h4=> ?_
 exact⟨o,h1,es,ep,h2,h3,h4⟩
section
variable{f:Fm}{d:Nat}{ρ:ao}
noncomputable def CStep(d:Nat)(f:Fm)(ρ:ao)(cl:List (Str×Addr))(scope:Scope)(elt:Expr)(ifs:List Expr)(x:Str)(T:Addr→MV→MH→(MH→Prop)→Prop):Prop:=∀(D I C:Addr) (v:MV) (u:Value) (oI oC:Obj) (m:Str→Option Value) (s:Shared) (μ:MH) (K:MH→Prop) (E:Value→Shared→Prop),T D v μ K→VR v u→(f.with2 C oC I oI).Ok (d+1)→St (f.with2 C oC I oI) ρ μ s→s.heap.Ns C m→m x=some u→
   wpAny (model pw f.w) f.A (forIn ifs true fun c r=>if r=true then do let ok←isTrue c (compEnvC scope cl C f.env) (eval c (compEnvC scope cl C f.env));pure (ForInStep.yield ok) else pure (ForInStep.yield r))
    (fun okk s₃=>if okk=true then wpAny (model pw f.w) f.A (eval elt (compEnvC scope cl C f.env)) (fun y s₄=> ∃w μ₂,VR w y∧St (f.with2 C oC I oI) ρ μ₂ s₄∧addK D (some w) K μ₂) E s₃
     else∃μ₂,St (f.with2 C oC I oI) ρ μ₂ s₃∧K μ₂) E s
theorem comp_loop(ok:f.Ok (d+1)){scope:Scope}{cl:List (Str×Addr)}{elt iter:Expr}{x:Str}{px pos:Pos}{ifs:List Expr}{l D I C:Addr}{T:Addr→MV→MH→(MH→Prop)→Prop}{Φ:MH→Prop}{R:Result→Shared→Prop}
  (hx:(compEnvC scope cl C f.env).kindOf x=some .local) (hkind:scope.kind= .function) (nI:I∉f.rs) (cI:I∉f.cl.map (·.2)) (nC:C∉f.rs) (cC:C∉f.cl.map (·.2)) (hne:I≠C) (step:CStep d f ρ cl scope elt ifs x T)
  (hR:∀oC m μ s',St (f.with C oC) ρ μ s'→NsO oC m→Φ μ→R (.ok .next) s'):
  ∀n i μ oI oC m s,IterO oI l i→NsO oC m→St (f.with2 C oC I oI) ρ μ s→cmpG l (T D) Φ n i μ→
   codeAny (model pw f.w) f.A (.compLoop (.ListComp elt [⟨.Name x px,iter,ifs,0⟩] scope pos) 0 (.ref I) (.ref D) (compEnvC scope cl C f.env)) R s:=fun n i μ oI oC m s hio hno S hP=>by
 have okC:∀oC,(f.with C oC).Ok (d+1):=fun o=>ok.with cC
 have okI:∀oI,(f.with I oI).Ok (d+1):=fun o=>ok.with cI
 have ok2:∀oC oI,(f.with2 C oC I oI).Ok (d+1):=fun oC oI=> (okI oI).with cC
 have nI':∀oC,I∉(f.with C oC).rs:=fun oC q=>by
  rcases List.mem_cons.mp q with q |q
  ·exact hne q
  ·exact nI q
 have nC':∀oI,C∉(f.with I oI).rs:=fun oI q=>by
  rcases List.mem_cons.mp q with q |q
  ·exact hne q.symm
  ·exact nC q
 refine codeAny_compLoop_tests (fun n s=> ∃i μ oI oC m,IterO oI l i∧NsO oC m∧St (f.with2 C oC I oI) ρ μ s∧cmpG l (T D) Φ n i μ) (fun n s pp_=>q8 pp_ fun i μ oI oC m w1_=>q6 w1_ fun hio hno S hP=> ?_) n ⟨i,μ,oI,oC,m,hio,hno,S,hP⟩
 cases n with
 |zero=>exact hP.elim
 |succ n=>
  refine q17 hP fun xs hm hP=> ?_
  have Ssw:=S.swap
  refine q2 (Ssw.entry hio.foreign) fun he u_ u_=> ?_
  refine S.listP hm fun ws nn mm news hm' hr F N l' R' kp hmem=> ?_
  cases hx':xs[i]? with
  |none=>
   rw[hx'] at hP
   refine wpAny_pyNext_list_end ok.handled ⟨oI,he,hio.1,hio.2⟩ (news_isList N hmem) (by simpa using hr.getNone hx') fun h' ext=> ?_
   exact hR oC m μ _ (Ssw.keepDrop (f:=f.with C oC) ((okC oC).with cI) (nI' oC) ext) hno hP
  |some v=>
   rw[hx'] at hP
   refine q17 (hr.get hx') fun u hu hv=> ?_
   refine wpAny_pyNext_list_item ⟨oI,he,hio.1,hio.2⟩ (news_isList N hmem) (x:=u) (by simpa using hu) fun h' hit sb=> ?_
   refine q19 hit fun oI' ho' hc' hd'=> ?_
   have hio':IterO oI' l (i+1):=⟨hc',hd'⟩
   have S2:St (f.with2 C oC I oI') ρ μ {s with heap:=h'}:=(Ssw.stepAt (f:=f.with C oC) (okC oC) cI (nI' oC) (t:=s.toks) sb ho').swap
   refine wpAny_assign_Name (wpAny_storeName_local hx (S2.nsAt hno) (fun h₂ hn₂ hs₂=> ?_) (by show(_ ||_)=false;simp[compEnvC,relabel,hkind]))
   refine q17 (nsO_of hn₂) fun oC' hoC' hno'=> ?_
   have S3:St (f.with2 C oC' I oI') ρ μ {s with heap:=h₂,toks:=s.toks+1}:=S2.stepAt (f:=f.with I oI') (okI oI') cC (nC' oI') hs₂ hoC'
   refine wpAny_impl (step D I C v u oI' oC' _ _ μ _ _ hP hv (ok2 _ _) S3 hn₂ (by simp)) fun okk s₃ h₃=> ?_
   cases okk with
   |false=>
    refine q17 h₃ fun μ₂ S4 hP'=> ?_
    exact⟨n,Nat.lt_succ_self _,i+1,μ₂,oI',oC',_,hio',hno',S4,hP'⟩
   |true=>
    refine wpAny_impl h₃ fun y s₄ pp_=>q18 pp_ fun w μ₂ hw S4 hk=>q19 hk fun acc hD hlen hP'=> ?_
    have hb:bmP .append (.ref D) [w] μ₂ (fun u_ μ₃=>cmpG l (T D) Φ n (i+1) μ₃):=⟨acc,aE hD,hlen,hP'⟩
    exact st_bm (f:=f.with2 C oC' I oI') (ok2 _ _) S4 (n:= .append) (v:= .ref D) rfl (.cons hw .nil) hb fun u' v' μ' s' u_ S5 hP5=> ⟨n,Nat.lt_succ_self _,i+1,μ',oI',oC',_,hio',hno',S5,hP5⟩
theorem comp_go(ok:f.Ok (d+1)){μ:MH}{s:Shared}(S:St f ρ μ s){v:MV}{u:Value}{scope:Scope}{cl:List (Str×Addr)}{elt iter:Expr}{x:Str}{px pos:Pos}{ifs:List Expr}
  {T:Addr→MV→MH→(MH→Prop)→Prop} {Φ:Pst} {RR:Value→Addr→Result→Shared→Prop} {E:Value→Shared→Prop} (hv:VR v u)
  (hx:∀C,(compEnvC scope cl C f.env).kindOf x=some .local) (hkind:scope.kind= .function) (hcell:∀y∈scope.names,y.2≠ .cell) (step:CStep d f ρ cl scope elt ifs x T) (hP:evC T Φ v μ)
  (hR:∀D C oC m μ s',(f.with C oC).Ok (d+1)→C∉f.rs→St (f.with C oC) ρ μ s'→NsO oC m→Φ (.ref D) μ→RR (.ref D) C (.ok .next) s'):
  wpAny (model pw f.w) f.A (pyIter u) (fun it s₂=>wpAny (model pw f.w) f.A (newList []) (fun acc s₃=>wpAny (model pw f.w) f.A (newFunctionEnv scope f.env.globals cl [] f.env.qual none .none (some f.env)) (fun cenv s₄=>
   codeAny (model pw f.w) f.A (.compStart (.ListComp elt [⟨.Name x px,iter,ifs,0⟩] scope pos) 0 it acc {cenv with scope:=relabel scope f.env}) (RR acc cenv.locals) s₄) E s₃) E s₂) E s:=by
 refine q42 hP fun l k xs hvl hm hP=> ?_
 rw[hvl] at hv
 rw[show u= .ref l from hv]
 refine S.listP hm fun ws n m news hm' hr F N l' R kp hmem=> ?_
 refine wpAny_pyIter_list (news_isList N hmem) ?_
 refine q0 (size_notin S ok) fun nI cI=> ?_
 refine q0 (S.keepCons ok (o:={cls:= .type "list_iterator",data:= .fields #[.ref l, .int 0 0]}) fields_foreign rfl) fun okI S1=> ?_
 generalize hI:s.heap.objs.size=I at nI cI okI S1⊢
 refine st_newList (f:=f.with I _) S1 (xs:= []) .nil (by unfold LIM;decide) fun D s3 hD S3=> ?_
 refine wpAny_newFunctionEnv hcell (by intro y hy;simp at hy) (fun h₁ hns hsb=> ?_) hkind
 refine q17 (nsO_of hns) fun oC hoC hno=> ?_
 have hkp:∀b ob,s3.heap.get? b=some ob→h₁.get? b=some ob:=fun b ob e=>by
  have hb:b≠s3.heap.objs.size:=Nat.ne_of_lt (Heap.lt_size e)
  rw[hsb.2 b hb];exact Heap.get?_push_of_some _ e
 refine q2 (S3.keepNew okI (I:=s3.heap.objs.size) (t:=s3.toks+([]:List (Str×Value)).length) (Nat.le_refl _) hkp hoC) fun nC cC S4=> ?_
 have hne:I≠s3.heap.objs.size:=fun q=>nC (q▸ .head _)
 have nC':s3.heap.objs.size∉f.rs:=fun q=>nC (.tail _ q)
 generalize hC:s3.heap.objs.size=C at *
 have loop:=comp_loop (ρ:=ρ) (elt:=elt) (iter:=iter) (px:=px) (pos:=pos) ok (T:=T) (D:=D) (R:=RR (.ref D) C) (hx C) hkind nI cI nC' cC hne step (fun oC m μ s' S' hn hΦ=>hR D C oC m μ s' (ok.with cC) nC' S' hn hΦ)
  k 0 _ _ oC _ _ ⟨rfl,rfl⟩ hno S4 (hP D hD)
 have he:=(S4.swap.entry fields_foreign).1
 exact codeAny_compStart_list loop (wpAny_pyIter_listiter ⟨_,he,rfl,rfl⟩ loop)
end
theorem closure_loop{f:Fm}{d:Nat}(ok:f.Ok d):∀(names:List (Str×NameKind)) (acc:List (Str×Addr)),(∀n∈names,n.2= .free→f.cs.names.lookup n.1=some .cell)→
  ∃r,(forIn names acc (fun(x:Str×NameKind) cs=>if x.2== .free then(do let a←cellOf f.env x.1;pure (ForInStep.yield ((x.1,a)::cs))) else pure (ForInStep.yield cs)):Sem (List (Str×Addr)))=pure r∧
   (∀y c,r.lookup y=some c→acc.lookup y=some c∨f.cl.lookup y=some c)∧(∀y,(acc.lookup y).isSome=true∨names.lookup y=some .free→(r.lookup y).isSome=true)
 | [],acc,_=> ⟨acc,rfl,fun y c h=> .inl h,fun y h=>h.elim id fun q=>by exact absurd q nn⟩
 |(n,k)::r,acc,h=>by
  have ht:=fun x hx=>h x (.tail _ hx)
  by_cases hk:k= .free
  ·subst hk
   refine q1 (ok.cells _ (h (n, .free) (.head _) rfl)) fun c hc=> ?_
   refine q19 (closure_loop ok r ((n,c)::acc) ht) fun res e h1 h2=> ?_
   refine⟨res,?_,fun y c' hy=> ?_,fun y hy=> ?_⟩
   ·rw[List.forIn_cons]
    have hcell:cellOf f.env n=pure c:=by
     unfold cellOf
     have hc':f.env.cells.lookup n=some c:=hc
     rw[hc']
    simp only[beq_self_eq_true,if_true,hcell]
    exact e
   ·rcases h1 y c' hy with q |q
    ·rw[List.lookup_cons] at q
     split at q
     ·rename_i hy';rw[beq_iff_eq.mp hy'];obtain rfl:=Option.some.inj q;exact .inr hc
     ·exact .inl q
    ·exact .inr q
   ·refine h2 y (hy.elim (fun q=> .inl ?_) fun q=> ?_)
    ·rw[List.lookup_cons];split
     ·rfl
     ·exact q
    ·rw[List.lookup_cons] at q
     split at q
     ·rename_i hy';exact .inl (by rw[List.lookup_cons,hy'];rfl)
     ·exact .inr q
  ·refine q19 (closure_loop ok r acc ht) fun res e h1 h2=> ?_
   refine⟨res,?_,h1,fun y hy=>h2 y (hy.imp id fun q=> ?_)⟩
   ·rw[List.forIn_cons]
    have:(k==NameKind.free)=false:=by simpa using hk
    simp only[this,Bool.false_eq_true,if_false]
    exact e
   ·rw[List.lookup_cons] at q
    split at q
    ·obtain rfl:=Option.some.inj q;exact absurd rfl hk
    ·exact q
theorem closure_pure{f:Fm}{d:Nat}(ok:f.Ok d){scope:Scope}(h:scope.names.all (fun n=>n.2 != .free ||f.cs.names.lookup n.1==some .cell)=true):
  ∃cl,closureFor scope f.env=pure cl∧∀y,scope.names.lookup y=some .free→∃c,cl.lookup y=some c∧f.cl.lookup y=some c:=by
 obtain⟨r,e,h1,h2⟩:=closure_loop ok scope.names [] fun n hn hf=>by
  have:=List.all_eq_true.mp h n hn
  rw[hf] at this
  simpa using this
 refine⟨r,?_,fun y hy=> ?_⟩
 ·unfold closureFor
  have:∀t:Sem (List (Str×Addr)),(t >>=fun x=>pure x)=t:=fun t=>by simp
  rw[←e]
  first |rfl |exact(this _)
 ·refine q1 (Option.isSome_iff_exists.mp (h2 y (.inr hy))) fun c hc=> ?_
  rcases h1 y c hc with q |q
  ·exact absurd q nn
  ·exact⟨c,hc,q⟩
theorem kindC{f:Fm}{d:Nat}(ok:f.Ok d)(scope:Scope)(cl:List (Str×Addr))(C:Addr)(y:Str):(compEnvC scope cl C f.env).kindOf y=relab f.cs scope y:=by
 have e:(f.env.scope.kind==ScopeKind.function)=true:=by show(f.cs.kind==_)=true;rw[ok.kind];rfl
 show(relabel scope f.env).names.lookup y=_
 unfold relabel relab
 simp only[e,Bool.and_true]
 rfl
noncomputable def compGo(f:Fm)(use:Option (Value→Sem Unit))(Q E:Value→Shared→Prop)(s:Shared)(e:Expr):Prop:=onListComp e True fun elt gens scope pos=>
 wpAny (model pw f.w) f.A (comprehension (.ListComp elt gens scope pos) scope f.env (firstIterPos gens pos) (newList []) (firstAsync gens) (firstIter gens f.env) use) Q E s
noncomputable def SC(KK:Params→Frag)(Fly:FlyT)(C:aB)(d:Nat)(me:ME):Prop:=∀(f:Fm),f.K=KK f.w.params→f.Ok (d+1)→∀(e:Expr),chkE f.K f.cs me e=true→∀(ρ:ao) (μ:MH) (s:Shared) (Φ:Pst) (Ψ:Exc) (use:Option (Value→Sem Unit)) (Q E:Value→Shared→Prop),
 St f ρ μ s→evE C ρ me μ Φ Ψ→(∀D Cc oC m μ s',(f.with Cc oC).Ok (d+1)→Cc∉f.rs→St (f.with Cc oC) ρ μ s'→NsO oC m→Φ (.ref D) μ→compPost (model pw f.w) f.A E use Q (.ref D) Cc (.ok .next) s')→(∀ev s' μ',Fly f ρ μ' ev s'→Ψ μ'→E ev s')→compGo f use Q E s e
section
variable{KK:Params→Frag}{Fly:FlyT}{C:aB}{d:Nat}
theorem scopeOk_of{cs scope:Scope}{x:Str}(h:scopeOk cs scope x=true):scope.kind= .function∧(∀y∈scope.names,y.2≠ .cell)∧(∀y∈scope.names,y.2= .local→scope.names.lookup y.1=some .local)∧scope.names.lookup x=some .local∧scope.names.all (fun n=>n.2 != .free ||cs.names.lookup n.1==some .cell)=true:=by
 unfold scopeOk at h
 simp only[Bool.and_eq_true,beq_iff_eq] at h
 refine q13 h fun h1 h2 h3 h4 h5=> ?_
 refine⟨h1,fun y hy=> ?_,fun y hy hl=> ?_,h4,h5⟩
 ·have:=List.all_eq_true.mp h2 y hy
  simpa using this
 ·have:=List.all_eq_true.mp h3 y hy
  rw[hl] at this
  simpa using this
theorem notDebug_of{y:Str}(h:bQ y=true):(y==("__debug__":Str))=false:=by
 unfold bQ at h
 simp only[Bool.and_eq_true,Bool.not_eq_true'] at h
 exact h.1
theorem relab_free{cs:Scope}{y:Str}:∀{names:List (Str×NameKind)},(∀n∈names,n.2≠ .cell)→(names.map fun(n,k)=>if(k== .free && cs.names.lookup n==some .cell) then(n,NameKind.cell) else(n,k)).lookup y=some .cell→names.lookup y=some .free
 | [],_,h=>by exact absurd h nn
 |(n,k)::r,hn,h=>by
  have ih:= @relab_free cs y r fun x hx=>hn x (.tail _ hx)
  have hk:k≠ .cell:=hn (n,k) (.head _)
  rw[List.map_cons,List.lookup_cons] at h
  rw[List.lookup_cons]
  have fst:(if(k==NameKind.free && cs.names.lookup n==some .cell)=true then(n,NameKind.cell) else(n,k)).1=n:=by split <;> rfl
  skip
  rw[fst] at h
  split at h
  ·by_cases hk2:k= .free
   ·rw[hk2]
   ·have:(k==NameKind.free)=false:=by simpa using hk2
    rw[this] at h
    exact absurd (Option.some.inj h) hk
  ·exact ih h
theorem sc_main{f:Fm}(hK:f.K=KK f.w.params)(ok:f.Ok (d+1)){src:ME}(ih:SE KK Fly C d src){T:Addr→MV→MH→(MH→Prop)→Prop}{iter elt:Expr}{ifs:List Expr}{scope:Scope}{x:Str}{px pos:Pos}(hso:scopeOk f.cs scope x=true)(hns:notSet iter=true)(hsrc:chkE f.K f.cs src iter=true)
  {ρ:ao} {μ:MH} {s:Shared} {Φ:Pst} {Ψ:Exc} {use:Option (Value→Sem Unit)} {Q E:Value→Shared→Prop} (S:St f ρ μ s) (h:evE C ρ src μ (evC T Φ) Ψ)
  (hpost:∀D Cc oC m μ s',(f.with Cc oC).Ok (d+1)→Cc∉f.rs→St (f.with Cc oC) ρ μ s'→NsO oC m→Φ (.ref D) μ→compPost (model pw f.w) f.A E use Q (.ref D) Cc (.ok .next) s') (hE:∀ev s' μ',Fly f ρ μ' ev s'→Ψ μ'→E ev s')
  (step:∀cl,(∀y,scope.names.lookup y=some .free→∃c,cl.lookup y=some c∧f.cl.lookup y=some c)→(∀y∈scope.names,y.2≠ .cell)→scope.kind= .function→scope.names.lookup x=some .local→CStep d f ρ cl scope elt ifs x T):
  compGo f use Q E s (.ListComp elt [⟨.Name x px,iter,ifs,0⟩] scope pos):=by
 refine q3 (scopeOk_of hso) fun hkind hnc hnames hx hfree=> ?_
 refine q17 (closure_pure ok hfree) fun cl hcl hlk=> ?_
 exact wpAny_comprehension_free (cl:=cl) rfl (notSet_fold hns _) hcl hkind hnames (ih f hK ok iter hsrc ρ μ s _ Ψ _ E S h (fun u v μ' s' hv S' hP=>comp_go ok S' hv (fun Cc=>lookup_relabel_local hx) hkind hnc (step cl hlk hnc hkind hx) hP hpost) hE)
theorem sc_comp(HC:CallOk KK Fly C d){x g:String}{a:Addr}{y:String}{src:ME}(ih:SE KK Fly C d src):SC KK Fly C d (.comp x g a y src):=fun f hK ok e hc ρ μ s Φ Ψ use Q E S h hpost hE=>by
 refine compP_elim hc fun iter scope p1 p2 p3 p4 p5 p6 hc=> ?_
 simp only[Bool.and_eq_true,beq_iff_eq,decide_eq_true_eq] at hc
 refine q11 hc fun w1_ r2 hcell hgl hns hsrc=> ?_
 refine q11 w1_ fun hxy d1 d2 d3 hso r1=> ?_
 refine sc_main hK ok ih hso hns hsrc S h hpost hE fun cl hlk hnc hkind hx D I Cc v u oI oC m s₁ μ₁ K₁ E₁ hP hv1 ok2 S1 hns1 hmx=> ?_
 refine q17 hP fun w' ew' hC=> ?_
 refine S1.heapE fun mm news F N l' R kp e=> ?_
 refine q8 ok.top fun pp loose mean mg mb T=> ?_
 refine wpAny_tests_nil ?_
 rw[if_pos rfl]
 refine Call_ (nameG_K F ok.kin (topRead_of T) (nsRef_inv hgl) ?_ rfl hkind (by rw[kindC ok];exact r2) (notDebug_of d1)) rfl
 refine callWith_of (P:=fun h=>f.K.In h∧keepIn f.K (.ref a)=true) rfl (fun h k=>keeps_K k.2 h k.1) (evalArgs_any rfl ?_)
 refine q17 (l'.1 y w' ew') fun uy huy hly=> ?_
 obtain⟨c,o,hc1,hc2,hc3⟩:∃c o,f.cl.lookup (Str.ofString y)=some c∧(c,o)∈news∧o.data= .cell (some uy):=by
  rcases hly with⟨q,_⟩ |⟨_,q⟩
  ·rw[show f.cs.names.lookup (Str.ofString y)=_ from hcell] at q;cases q
  ·exact q
 refine q17 (hlk _ (relab_free hnc r1)) fun c' hl1 hl2=> ?_
 rw[hc1] at hl2;obtain rfl:=Option.some.inj hl2
 refine args_cons (ldVarK hns1 hmx ?_ hkind (lookup_relabel_local hx) (notDebug_of d2)) rfl
 refine args_cons (ldCellK hl1 ⟨o,(N _ hc2).1,hc3⟩ ?_ hkind (by rw[kindC ok];exact r1) (notDebug_of d3)) rfl
 refine args_nil ?_
 exact do_call (f:=f.with2 Cc oC I oI) HC hK ok2 hC (.cons hv1 (.cons huy .nil)) S1 (fun u2 v2 μ2 s2 hv2 S2 hk=> ⟨v2,μ2,hv2,S2,hk⟩) fun u_ u_ u_ u_ h=>h.elim
end
theorem St.nsO{f:Fm}{ρ:ao}{μ:MH}{s:Shared}{C:Addr}{o:Obj}{m:Str→Option Value}(S:St (f.with C o) ρ μ s)(hn:s.heap.Ns C m):NsO o m:=by
 refine S.heapE fun mm news F N l R k e=> ?_
 refine q17 (k _ (.head _)) fun sl hm u_=> ?_
 refine q27 hn fun o' es ep h1 h2 h3 h4=> ?_
 rw[(N _ hm).1] at h1
 obtain rfl:=Option.some.inj h1
 exact⟨es,ep,h2,h3,h4⟩
section
variable{KK:Params→Frag}{Fly:FlyT}{C:aB}{d:Nat}
theorem sc_compIf{x:String}{k w:Str}{src:ME}(ih:SE KK Fly C d src):SC KK Fly C d (.compIf x k w src):=fun f hK ok e hc ρ μ s Φ Ψ use Q E S h hpost hE=>by
 refine compIfP_elim hc fun iter scope p1 p2 p3 p4 p5 p6 p7 p8 k1 k2 hc=> ?_
 simp only[Bool.and_eq_true] at hc
 refine q10 hc fun d1 hso hns hsrc=> ?_
 refine sc_main hK ok ih hso hns hsrc S h hpost hE fun cl hlk hnc hkind hx D I Cc v u oI oC m s₁ μ₁ K₁ E₁ hP hv1 ok2 S1 hns1 hmx=> ?_
 refine q17 hP fun wi hwi hP=> ?_
 refine q17 hP fun b hb hP=> ?_
 have hno:=S1.nsO hns1
 refine wpAny_tests_one (wpAny_isTrue_Compare1 (Subscript_ (ldVarK hns1 hmx (wpAny_Constant_str ?_) hkind (lookup_relabel_local hx) (notDebug_of d1))) rfl)
 refine st_item (f:=f.with2 Cc oC I oI) ok2 (S1.toks _) hv1 (i:= .str k) ⟨_,rfl⟩ hwi (fun u_ u_=>rfl) fun u2 s2 hu2 S2=> ?_
 refine wpAny_Constant_str (st_cmp (f:=f.with2 Cc oC I oI) (op:= .ne) (S2.toks _) hu2 (y:= .str w) ⟨_,rfl⟩ hb ?_)
 refine wpAny_truthy_bool ?_
 cases b with
 |false=>
  rw[if_neg Bool.false_ne_true]
  exact⟨μ₁,S2.toks _,q19 hP fun _ _ _ h=>h⟩
 |true=>
  rw[if_pos rfl]
  exact ldVarK ((S2.toks _).nsAt hno) hmx ⟨v,μ₁,hv1,S2.toks _,hP⟩ hkind (lookup_relabel_local hx) (notDebug_of d1)
theorem se_of_sc{me:ME}(hs:SC KK Fly C d me)(hl:∀(P:Expr→Prop) K cs e,chkE K cs me e=true→(∀a b c p,P (.ListComp a b c p))→P e):SE KK Fly C d me:=fun f hK ok e hc ρ μ s Φ Ψ Q E S h hQ hE=>
 hl (fun e=>compGo f none Q E s e→wpAny (model pw f.w) f.A (eval e f.env) Q E s) _ _ _ hc (fun a b c p g=>by rw[eval_ListComp];exact g)
  (hs f hK ok e hc ρ μ s Φ Ψ none Q E S h (fun D Cc oC m μ' s' okc hCn S' hn hΦ=> ⟨m,S'.nsAt hn,fun h' hs'=>hQ _ (.ref D) _ _ rfl (S'.keepDrop okc hCn hs'.extBut) hΦ⟩) hE)
theorem se_comp(HC:CallOk KK Fly C d){x g:String}{a:Addr}{y:String}{src:ME}(ih:SE KK Fly C d src):SE KK Fly C d (.comp x g a y src):=se_of_sc (sc_comp HC ih) fun P K cs e h k=>onListComp_elim h ff fun a b c p _=>k a b c p
theorem se_compIf{x:String}{k w:Str}{src:ME}(ih:SE KK Fly C d src):SE KK Fly C d (.compIf x k w src):=se_of_sc (sc_compIf ih) fun P K cs e h k=>onListComp_elim h ff fun a b c p _=>k a b c p
end
section
variable{KK:Params→Frag}{Fly:FlyT}{C:aB}{d:Nat}
theorem sc_any(HC:CallOk KK Fly C d)(HE:∀me,SE KK Fly C d me){me:ME}{K:Frag}{cs:Scope}{elt:Expr}{gens:List Comprehension}{scope:Scope}{pos:Pos}(h:chkE K cs me (.ListComp elt gens scope pos)=true):SC KK Fly C d me:=by
 cases me with
 |comp x g a y s=>exact sc_comp HC (HE s)
 |compIf x k w s=>exact sc_compIf (HE s)
 |_=>exact absurd h ff
@[elab_as_elim]theorem swapC_elim{P:Expr→Prop}{x:Str}{p:Pos}{v:Expr}(h:swapC x p v=true)(k:∀elt gens s vp,(p.line==vp.line)=true→(s.names.any fun n=>n.1==x && (n.2== .local ||n.2== .cell))=false→P (.ListComp elt gens s vp)):P v:=by
 refine onListComp_elim h ff fun x gs s vp h=> ?_
 rw[Bool.and_eq_true,Bool.not_eq_true'] at h
 exact k _ _ _ _ h.1 h.2
theorem ss_assignC(HC:CallOk KK Fly C d)(HE:∀me,SE KK Fly C d me)(x:String)(e:ME):SS KK Fly C d (.assignC x e):=fun f hK ok st hc ρ μ s Φ Ψ Q E S h hQ hE=>by
 refine onAssign_elim hc ff fun ts v q hc=> ?_
 refine on1_elim hc ff fun t hc=> ?_
 refine onNm_elim hc fun p hc=> ?_
 refine band hc fun hc h3=> ?_
 refine band hc fun h1 h2=> ?_
 revert h3
 refine swapC_elim h1 fun elt gens sc vp hp hn h3=> ?_
 have hk:f.env.kindOf (Str.ofString x)=some .local:=beq_iff_eq.mp h2
 have hb:f.env.blockKind= .function:=by show(if f.cs.kind.isAnnotationScope then ScopeKind.function else f.cs.kind)=_;rw[ok.kind];rfl
 have hsw:swapsWithSole [.Name (Str.ofString x) p] (.ListComp elt gens sc vp) q.line f.env=pure true:=by
  show swapsWith (.ListComp elt gens sc vp) (some (.Name (Str.ofString x) p)) q.line f.env=_
  show(pure (f.env.blockKind== .function && f.env.kindOf (Str.ofString x)==some .local && p.line==vp.line && !(sc.names.any fun n=>n.1==Str.ofString x && (n.2== .local ||n.2== .cell))):Sem Bool)=pure true
  rw[hb,hk,hp,hn]
  rfl
 rw[arm_exec_Assign]
 refine wpAny_bind (wpAny_standAt (wpAny_bind (wpAny_of_eq hsw ?_)))
 rw[if_pos rfl]
 have e1:(assignEach [.Name (Str.ofString x) p] f.env).map (·.2)= [assign (.Name (Str.ofString x) p) f.env]:=by
  rw[chkT_star (K:=f.K) (cs:=f.cs) (t:= .name x) (by show(Str.ofString x==Str.ofString x && isLoc2 f.cs (Str.ofString x))=true;rw[isL_loc2 h2,beq_self_eq_true];rfl)];rfl
 rw[e1,arm_evalThenUse_ListComp]
 refine wpAny_bind (wpAny_bind ?_)
 have sc1:=sc_any HC HE h3
 refine sc1 f hK ok (.ListComp elt gens sc vp) h3 ρ μ s (fun v μ=>Φ .next (upd ρ x (some v)) μ) Ψ _ _ E S h ?_ fun ev s' μ'=>hE ev s' ρ μ'
 intro D Cc oC m μ' s' okc hCn S' hno hΦ
 unfold compPost
 dsimp only
 unfold assignAll
 refine PyProof.Rows.assign_Name (st_store (f:=f.with Cc oC) okc S' (isL_loc2 h2) (v:= .ref D) rfl fun s2 S2=> ⟨m,S2.nsAt hno,fun h' hs'=> ?_⟩)
 exact wpAny_pure (wpAny_pure (hQ .next _ _ _ _ rfl (S2.keepDrop okc hCn hs'.extBut) hΦ))
end
section
variable{prog:Program}{w:World}{A:Around}{s:Shared}{E:Value→Shared→Prop}
theorem setSlice_list{l b sl:Addr}{items new:Array Value}{n nb:Nat}{x y:Int}{t u:Tok}{Q:Unit→Shared→Prop}(ho:s.heap.get? l=some (listOf items n))(hs:s.heap.IsSliceOf sl (.int x t) (.int y u) .none)(hb:s.heap.get? b=some (listOf new nb))(hbl:(l==b)=false)
  (h0:0≤x) (h1:x≤y) (h2:y≤items.size) (hz:items.size+new.size≤100000)
  (hQ:Q () {s with heap:=s.heap.update l (Obj.mapSeq fun xs=>xs.extract 0 x.toNat++new++xs.extract y.toNat xs.size)}):
  wpAny (model prog w) A (setItem (.ref l) (.ref sl) (.ref b)) Q E s:=by
 have hl:s.heap.IsList l items:=PySem.IsL.isList (n:=n) ho
 have hlb:s.heap.IsList b new:=PySem.IsL.isList (n:=nb) hb
 refine q19 (id hs) fun os hos hcs hds=> ?_
 have hTs:s.TypeIs (.ref sl) "slice":=⟨os,hos,hcs⟩
 unfold setItem
 try with_reducible refine wpAny_holding ?_
 first |refine wpAny_bind (wpAny_pure ?_) |skip
 refine wpAny_bind (wpAny_sequenceKey hl.typeIs (by decide) ?_)
 refine wpAny_bind (wpAny_callSpecial?_slot (name:=Str.ofString "__setitem__") hl.typeIs slot_list_setitem
  (wpAny_call_entry slot_list_setitem hl.typeIs entry_list_setitem ?_ (args_list_setitem _ _ _)))
 show wpAny _ _ (Builtin.List.listSubscript? (.ref sl) >>=_) _ _ s
 refine wpAny_bind ?_
 ·unfold Builtin.List.listSubscript?
  refine wpAny_bind (wpAny_specialOf hTs slice_no_index ?_)
  simp only[Option.isNone_none,if_true]
  refine wpAny_pure ?_
  show wpAny _ _ (typeOf (.ref sl) >>=_) _ _ s
  refine wpAny_bind (wpAny_typeOf hTs ?_)
  rw[if_neg (by decide)]
  rw[listSliceParts_eq]
  refine wpAny_bind (wpAny_bind (wpAny_field hos hds (x:= .none) rfl (wpAny_bind (wpAny_listPart .none ?_))))
  rw[if_neg (by decide)]
  refine wpAny_bind (wpAny_field hos hds (x:= .int x t) rfl (wpAny_bind (wpAny_listPart (.int x t) ?_)))
  refine wpAny_bind (wpAny_field hos hds (x:= .int y u) rfl (wpAny_bind (wpAny_listPart (.int y u) (wpAny_pure ?_))))
  rw[if_neg (show¬(Builtin.List.listSameRef (.ref l) (.ref b)=true) from by rw[show Builtin.List.listSameRef (.ref l) (.ref b)=false from hbl];exact Bool.false_ne_true)]
  refine wpAny_bind (m:=Builtin.List.listAllItems (.ref b) _) ?_
  unfold Builtin.List.listAllItems
  refine wpAny_bind (wpAny_typeOf hlb.typeIs ?_)
  rw[if_pos (by decide)]
  unfold Builtin.List.listItems
  refine wpAny_bind (wpAny_seqItems hb rfl (wpAny_pure ?_))
  refine wpAny_bind (wpAny_bind (wpAny_seqItems ho rfl (wpAny_pure ?_)))
  refine wpAny_bind (wpAny_of_eq (sliceIndices_raw (some x) (some y) none items.size (by decide)) ?_)
  have e:sliceBounds (some x) (some y) none items.size=(x,y,1):=by
   rw[kms_bounds]
   unfold kms_lo kms_hi
   dsimp only
   rw[if_neg (by lia),if_neg (by lia),Nat.min_eq_left (by lia),Nat.min_eq_left (by lia)]
   simp only[Prod.mk.injEq,and_true]
   lia
  rw[e]
  dsimp only
  rw[if_pos (by decide)]
  refine wpAny_bind (wpAny_rule ?_)
  rw[if_neg (by unfold Builtin.List.listTooLong;rw[sizeLine_eq];simp;lia)]
  rw[show max x y=y from by lia]
  refine wpAny_bind (m:=updateSeq l _) (wpAny_updateSeq ho rfl ?_ (by rw[sizeLine_eq];lia) ?_)
  ·exact wpAny_bind (wpAny_letGo (wpAny_pure ⟨.none,rfl,wpAny_pure hQ⟩))
  ·rw[sizeLine_eq]
   simp only[Array.size_append,Array.size_extract]
   lia
end
section
variable{f:Fm}{d:Nat}{ρ:ao}{μ:MH}{s:Shared}{E:Value→Shared→Prop}
set_option tactic.hygienic true in theorem st_sliceSet(ok:f.Ok d)(S:St f ρ μ s){a:Addr}{x y:Int}{t u:Tok}{w:MV}{uw:Value}{xs ys:List MV}{Q:Unit→Shared→Prop}(hw:VR w uw)(h1:listAt μ (.ref a)=some xs)(h2:listAt μ w=some ys)(hne:w≠ .ref a)
  (h3:0≤x) (h4:x≤y) (h5:y≤xs.length) (h6:xs.length < LIM) (h7:ys.length < LIM)
  (hQ:∀s',St f ρ (upd μ a (some (.list (xs.take x.toNat++ys++xs.drop y.toNat)))) s'→Q () s'):
  wpAny (model pw f.w) f.A (setItem (.ref a) (.ref s.heap.objs.size) uw) Q E {s with heap:=s.heap.push {cls:= .type "slice",data:= .fields #[.int x t, .int y u, .none]}}:=by
 have S':=S.more {cls:= .type "slice",data:= .fields #[.int x t, .int y u, .none]} rfl
 refine S'.listR (P:=fun _=>_) (u:= .ref a) rfl h1 fun ws n m news hm hr F N l R kp hmem=> ?_
 refine q17 R.ex fun dx hx _=> ?_
 revert hw hne
 refine listAt_elim h2 fun b hmb hw hne=> ?_
 ·subst hw
  ·refine q20 (hx b _ hmb) fun vs nb hmemb hrb=> ?_
   have hab:(a==b)=false:=by
    cases q:a==b with
    |false=>rfl
    |true=>exact absurd (by rw[eq_of_beq q]) hne
   have hl1:=hr.length
   have hl2:=hrb.length
   unfold LIM at h6 h7
   refine setSlice_list (N _ hmem).1 (Heap.IsSliceOf.new ..) (N _ hmemb).1 hab h3 h4 (by rw[List.size_toArray,hl1];exact h5) (by rw[List.size_toArray,List.size_toArray];lia) ?_
   have hn:=N _ hmem
   have eq1:(ws.toArray.extract 0 x.toNat++vs.toArray++ws.toArray.extract y.toNat ws.toArray.size)=(ws.take x.toNat++vs++ws.drop y.toNat).toArray:=by
    apply Array.toList_inj.mp
    simp only[Array.toList_append,Array.toList_extract,List.extract_eq_take_drop,List.drop_zero,Nat.sub_zero,List.size_toArray]
    congr 1
    apply List.take_of_length_le
    simp
   obtain⟨n2,ho2⟩:∃n2,Obj.mapSeq (fun xs=>xs.extract 0 x.toNat++vs.toArray++xs.extract y.toNat xs.size) (listOf ws.toArray n)=listOf (ws.take x.toNat++vs++ws.drop y.toNat).toArray n2:=by
    rw[←eq1]
    exact⟨_,rfl⟩
   refine hQ _ (S'.chgList (us:=ws.take x.toNat++vs++ws.drop y.toNat) (n':=n2) l R kp ok hm hmem (((hr.take _).append hrb).append (hr.drop _)) (F.change (Heap.SameBut.update ..) hn.2.1 hn.2.2) (fun p hp=> ?_))
   refine q17 (List.mem_map.mp hp) fun q hq rf2=> ?_
   subst rf2
   by_cases e:q.1=a
   ·simp only[e,if_true]
    refine⟨?_,hn.2⟩
    rw[Heap.get?_update_self _ hn.1 rfl]
    exact congrArg some ho2
   ·simp only[e,if_false]
    exact⟨((Heap.SameBut.update ..).2 _ e).trans (N q hq).1,(N q hq).2⟩
end
section
variable{KK:Params→Frag}{Fly:FlyT}{C:aB}{d:Nat}
set_option tactic.hygienic true in theorem ss_sliceSet(HE:∀me,SE KK Fly C d me)(l i j e:ME):SS KK Fly C d (.sliceSet l i j e):=fun f hK ok st hc ρ μ s Φ Ψ Q E S h hQ hE=>by
 refine onSl_elim hc fun l' i' j' v p1 p2 p3 hc=> ?_
 simp only[Bool.and_eq_true,Bool.not_eq_true'] at hc
 refine q13 hc fun h1 h2 h3 h4 h5=> ?_
 refine wpAny_Assign_Subscript ?_ (swapsNo h1 _ _ _)
 refine HE e f hK ok v h5 ρ μ s _ Ψ _ E S h (fun uw w μ1 s1 hw S1 k1=> ?_) fun ev s' μ'=>hE ev s' ρ μ'
 refine HE l f hK ok l' h2 ρ μ1 s1 _ Ψ _ E S1 k1 (fun ul lv μ2 s2 hl S2 k2=> ?_) fun ev s' μ'=>hE ev s' ρ μ'
 refine wpAny_Slice (evalPart_some_step ?_)
 refine HE i f hK ok i' h3 ρ μ2 s2 _ Ψ _ E S2 k2 (fun ui x μ3 s3 hi S3 k3=>evalPart_some_step ?_) fun ev s' μ'=>hE ev s' ρ μ'
 refine HE j f hK ok j' h4 ρ μ3 s3 _ Ψ _ E S3 k3 (fun uj y μ4 s4 hj S4 k4=>evalPart_none_step ?_) fun ev s' μ'=>hE ev s' ρ μ'
 revert hl hi hj
 refine refP_elim k4 fun a k4=> ?_
 refine intP_elim k4 fun x k4=> ?_
 refine intP_elim k4 fun y k4 hl hi hj=> ?_
 ·subst hl
  refine q1 hi fun t rf1=> ?_
  subst rf1
  refine q1 hj fun t' rf1=> ?_
  subst rf1
  refine q5 k4 fun xs ys w1_=> ?_
  refine q4 w1_ fun q1 q2 q3 q4 q5 w2_=> ?_
  refine q6 w2_ fun q6 q7 q8 k5=> ?_
  exact st_sliceSet ok S4 hw q1 q2 q3 q4 q5 q6 q7 q8 fun s5 S5=>hQ .next _ _ _ _ rfl S5 k5
end
section
variable{KK:Params→Frag}{Fly:FlyT}{C:aB}{d:Nat}
theorem stNo{me:ME}(h:tOk me=false):ST KK Fly C d me:=fun q=>by rw[h] at q;exact absurd q ff
variable(HF:FlyOk KK Fly)(HC:CallOk KK Fly C d)
include HF HC
mutual
theorem aX:(me:ME)→SE KK Fly C d me∧ST KK Fly C d me
 | .var x=> ⟨se_var x,st_of_var x⟩
 | .cst v=> ⟨se_cst v,stNo rfl⟩
 | .glob x v=> ⟨se_glob x v,stNo rfl⟩
 | .attr e n=> ⟨se_attr n (aX e).1,stNo rfl⟩
 | .item e i=> ⟨se_item (aX e).1 (aX i).1,stNo rfl⟩
 | .rev e=> ⟨se_rev (aX e).1,stNo rfl⟩
 | .init e=> ⟨se_init (aX e).1,stNo rfl⟩
 | .bin op l r=> ⟨se_bin (aX l).1 (aX r).1,stNo rfl⟩
 | .neg e=> ⟨se_neg (aX e).1,stNo rfl⟩
 | .cmp op l r=>se_cmp (aX l).1 (aX r).1
 | .isNone b e=>se_isNone (aX e).1
 | .isIn l r=>se_isIn (aX l).1 (aX r).1
 | .neNil b e=>se_neNil (aX e).1
 | .boolop c l r=>se_boolop (aX l).1 (aX r).1 (aX l).2 (aX r).2
 | .ite c t e=> ⟨se_ite (aX c).2 (aX t).1 (aX e).1,stNo rfl⟩
 | .call g as=> ⟨se_call HC (aX g).1 (ses_all as).1,stNo rfl⟩
 | .meth K g e n as=> ⟨se_meth HC (aX e).1 (ses_all as).1,stNo rfl⟩
 | .new K g x as=> ⟨se_new HF.mono HC (ses_all as).1,stNo rfl⟩
 | .len e=> ⟨se_len (aX e).1,stNo rfl⟩
 | .sum e=> ⟨se_sum (aX e).1,stNo rfl⟩
 | .strOf e=> ⟨se_strOf (aX e).1,stNo rfl⟩
 | .listOf e=> ⟨se_listOf (aX e).1,stNo rfl⟩
 | .bm n e as=> ⟨se_bm (aX e).1 (ses_all as).1,stNo rfl⟩
 | .tuple es=> ⟨se_tuple (ses_all es).1,stNo rfl⟩
 | .list es=> ⟨se_list (ses_all es).1,stNo rfl⟩
 | .dict ks es=> ⟨se_dict (ses_all es).2.1,stNo rfl⟩
 | .dict0=> ⟨se_dict0,stNo rfl⟩
 | .fstr es=> ⟨se_fstr (ses_all es).2.2,stNo rfl⟩
 | .ladd l r=> ⟨se_ladd (aX l).1 (aX r).1,stNo rfl⟩
 | .comp x g a y s=> ⟨se_comp HC (aX s).1,stNo rfl⟩
 | .compIf x k w s=> ⟨se_compIf (aX s).1,stNo rfl⟩
 | .dead=> ⟨fun f hK ok e hc ρ μ s Φ Ψ Q E S h hQ hE=>h.elim,stNo rfl⟩
theorem ses_all:(mes:MEs)→SEs KK Fly C d mes∧SPs KK Fly C d mes∧SFs KK Fly C d mes
 | .nil=> ⟨ses_nil,sps_nil,sfs_nil⟩
 | .cons e r=> ⟨ses_cons (aX e).1 (ses_all r).1,sps_cons (aX e).1 (ses_all r).2.1,sfs_cons (aX e).1 (ses_all r).2.2⟩
end
mutual
theorem ss_all:(ms:MS)→SS KK Fly C d ms
 | .assign t e=>ss_assign (fun me=> (aX HF HC me).1) t e
 | .assignC x e=>ss_assignC HC (fun me=> (aX HF HC me).1) x e
 | .multi ts es=>ss_multi (fun me=> (aX HF HC me).1) (fun mes=> (ses_all HF HC mes).1) ts es
 | .unpack ts e=>ss_unpack (fun me=> (aX HF HC me).1) ts e
 | .sliceSet l i j e=>ss_sliceSet (fun me=> (aX HF HC me).1) l i j e
 | .expr e=>ss_expr (fun me=> (aX HF HC me).1) e
 | .ret e=>ss_ret (fun me=> (aX HF HC me).1) e
 | .retNone=>ss_retNone
 | .ite c a b=>ss_ite (fun me=> (aX HF HC me).2) (sss_all a) (sss_all b)
 | .while c b=>ss_while (fun me=> (aX HF HC me).2) (sss_all b)
 | .for x e b=>ss_for (fun me=> (aX HF HC me).1) (sss_all b)
 | .forRange x es b=>ss_forRange (fun mes=> (ses_all HF HC mes).1) (sss_all b)
 | .raise=>ss_raise HF
 | .tryS e x y=>ss_try (fun me=> (aX HF HC me).1) HF e x y
 | .dead=>ss_dead
theorem sss_all:(mss:MSs)→SSs KK Fly C d mss
 | .nil=>sss_nil
 | .cons s r=>sss_cons (ss_all s) (sss_all r)
end
end
theorem call_ok{KK:Params→Frag}{Fly:FlyT}{tab:Addr→Option Fn}(HF:FlyOk KK Fly)(HL:FlyLeave Fly)(facts:∀P a fn,tab a=some fn→Nonempty (FnFact (KK P) a fn)):∀k,CallOk KK Fly (az tab k) (2 * k)
 | 0=>fun f hK ok a vs us μ Φ Ψ ρ s R h hvs S hQ hE=>h.elim
 |k+1=>fun f hK ok a vs us μ Φ Ψ ρ s R h hvs S hQ hE=>by
  have HC:=call_ok HF HL facts k
  refine q19 h fun fn ht hl h=> ?_
  obtain⟨FF⟩:=facts f.w.params a fn ht
  rw[←hK] at FF
  have ok2:f.Ok (2 * k+2):=ok
  refine⟨FF.keep,enter ok2 FF S hvs hl fun f' s' I ok' S' backN=> ?_⟩
  have back:∀ρ' μ' s'',St f' ρ' μ' s''→St f ρ μ' s'':=fun ρ' μ' s'' S=>let⟨n,S⟩:=S.n;(backN _ _ _ _ S).st
  have hK':f'.K=KK f'.w.params:=by rw[I.K,I.w];exact hK
  refine sss_all HF HC fn.body f' hK' ok' FF.body ?_ _ μ s' _ Ψ _ _ S' h (fun fl w ρ' μ' s2 hw S2 hΦ=> ?_) fun ev s2 ρ' μ' hf hp=> ?_
  ·rw[I.K,I.cs];exact FF.chk
  ·cases fl with
   |next=>subst hw;exact hQ _ .none _ _ rfl (back _ _ _ S2) hΦ
   |ret v=>obtain⟨u,rfl,hu⟩:=hw;exact hQ _ v _ _ hu (back _ _ _ S2) hΦ
  ·exact HL.leave f f' (2 * k+1) FF.scope ok' (Fm.Ok.down ok2) I ρ ρ' μ' ev s2 (fun ev s=>R (.error ev) s) _ backN hf fun s3 hf3=>hE ev s3 μ' hf3 hp
end
section
open PySem PySem.W
noncomputable def kF(i:Nat):Stmt:=(PySem.Challenge.pw_sq0003_01.main.body.drop i).headD (.Pass default)
noncomputable def kM(i j:Nat):Stmt:=if h:(kF i).ctorIdx=2 then Stmt.ClassDef.elim (kF i) h fun _ _ _ b _ _ _ _ _ _ _=> (b.drop j).headD (.Pass default) else kF i
noncomputable def kS(x:String)(t:Nat):Value:= .str (Str.ofString x) t
noncomputable def kO(t:String)(d:Data):Obj:={cls:= .type t,data:=d}
noncomputable def kE(P:Params)(k:String)(t:Nat)(v:Value)(r:List DictEntry):List DictEntry:={hash:=PyData.keyHash P (Str.ofString k),key:=kS k t,val:=v}::r
noncomputable def kD(a:Addr)(es:List DictEntry)(n:Nat)(K:Frag):Frag:=(a,kO "dict" (.dict ⟨es⟩ n))::K
noncomputable def kC(c:Addr)(n:String)(b:List Value)(s:Option Value)(w:String)(t u:Nat)(K:Frag):Frag:=(c,{cls:= .type "type",data:= .cls {name:=Str.ofString n,bases:=b.take 1,mro:= .ref c::b,ns:=c - 1,qualname:=Str.ofString n},slots:= #[s,none,some (kS n t),some (kS n u),some (.builtin w),some (.bool true)]})::K
noncomputable def kL(st:Stmt)(c:Nat)(q:String)(m d:Value)(t u:Nat)(rs:Value→Value→List Value→List Value)(K:Frag):Frag:=
 if h:st.ctorIdx=0 then Stmt.FunctionDef.elim st h fun nm ps b _ _ _ sc _ _ p=>
  (c,kO "code" (.fields ⟨.str nm t::kS q (t+1)::kS "/claim/cut.py" (t+2):: .int p.line 0:: .int ps.args.length 0:: .int 0 0:: .int 0 0:: .int 3 0::rs (.bool true) (.int 181 0) [.int u 0, .int p.line 0,kS "/claim/cut.py" (u+1)]⟩))::
  (c+1,kO "function" (.func {name:=nm,qualname:=Str.ofString q,params:=ps,body:= .stmts b,scope:=sc,globals:=3,closure:= [],defaults:=d,kwdefaults:= .none,pyModule:=m,code:= .ref c}))::K
 else K
noncomputable def fA(c:Nat)(st:Stmt)(q:String)(m d:Value)(t u:Nat):Frag→Frag:=kL st c q m d t u fun a b r=> .ref (c - 5)::a::b:: .ref (c - 4):: .none:: .ref (c - 3):: .ref (c - 2):: .ref (c - 1)::r
noncomputable def fB(c:Nat)(st:Stmt)(q:String)(m d:Value)(t u:Nat):Frag→Frag:=kL st c q m d t u fun a b r=> .ref (c - 3)::a::b:: .ref (c - 2):: .none:: .none:: .none:: .ref (c - 1)::r
noncomputable def kT(a:Addr)(l:List Value)(K:Frag):Frag:=(a,kO "tuple" (.seq ⟨l⟩))::K
noncomputable def kW1:Value:=kS "emacs.errors" 194
noncomputable def kW2:Value:=kS "emacs.windows" 227
noncomputable def kW3:Value:=kS "emacs.configuration" 490
noncomputable def kW4:Value:=kS "emacs.sizes" 506
noncomputable def kW5:Value:=kS "emacs.splits" 539
noncomputable def kW6:Value:=kS "law_sq0003_01" 666
noncomputable def KK(P:Params):Frag:=(nat_lit 3,kO "dict" (.dict ⟨kE P "__name__" 165 (kS "law_sq0003_01" 666) <|kE P "__doc__" 166 .none <|kE P "__package__" 167 .none <|kE P "__loader__" 168 (.builtin "__main__.__loader__#opaque") <|kE P "__spec__" 169 .none <|kE P "__annotations__" 170 (.ref 6) <|kE P "__builtins__" 171 (.ref 4) <|kE P "__file__" 173 (kS "/claim/cut.py" 172) <|kE P "__cached__" 174 .none <|kE P "_wall" 193 (.ref 21) <|kE P "LispSignal" 226 (.ref 38) <|kE P "LEAF" 230 (.int 0 229) <|kE P "COLUMN" 232 (.int 1 231) <|kE P "ROW" 234 (.int 2 233) <|kE P "WIDTH" 236 (.int 0 235) <|kE P "HEIGHT" 238 (.int 1 237) <|kE P "Window" 324 (.ref 93) <|kE P "WindowTree" 426 (.ref 164) <|kE P "along" 433 (.ref 175) <|kE P "sort_along" 440 (.ref 182) <|kE P "leaves_under" 451 (.ref 189) <|kE P "leaves" 458 (.ref 196) <|kE P "windows_under" 469 (.ref 203) <|kE P "replace_child" 480 (.ref 210) <|kE P "forget" 489 (.ref 217) <|kE P "layout_text" 505 (.ref 224) <|kE P "least_size" 513 (.ref 229) <|kE P "shares" 519 (.ref 234) <|kE P "set_tree_size" 525 (.ref 239) <|kE P "set_places" 538 (.ref 246) <|kE P "split_parts" 553 (.ref 253) <|kE P "combined" 564 (.ref 260) <|kE P "split" 582 (.ref 267) <|kE P "joined" 594 (.ref 274) <|kE P "split_below" 603 (.ref 282) <|kE P "split_above" 612 (.ref 290) <|kE P "split_right" 621 (.ref 298) <|kE P "split_left" 630 (.ref 306) <|kE P "lifted" 640 (.ref 313) <|kE P "most_recent" 650 (.ref 320) <|kE P "delete_window" 665 (.ref 327) <|kE P "_law_draw" 675 (.ref 334) <|kE P "_law_leaves" 687 (.ref 341) <|kE P "_law_box" 695 (.ref 348) <|kE P "_law_leaf" 705 (.ref 355) <|kE P "_law_size" 711 (.ref 360) <|kE P "_law_lines" 725 (.ref 367) <|kE P "_law_put" 736 (.ref 374) <|kE P "_law_split" 754 (.ref 381) <|kE P "_law_gone" 760 (.ref 386) <|kE P "_law_is_split" 774 (.ref 393) <|kE P "_law_other" 789 (.ref 400) <|kE P "law" 795 (.ref 405) []⟩ 53))::
 (fA 34 (kM 2 0) "LispSignal.__init__" kW1 .none 208 214 <|
 kD 37 (kE P "__module__" 203 (kS "emacs.errors" 194) <|kE P "__firstlineno__" 207 (.int 5 206) <|kE P "__init__" 216 (.ref 35) <|kE P "__static_attributes__" 219 (.ref 36) <|kE P "__weakref__" 221 (.ref 39) <|kE P "__doc__" 222 .none []) 3 <|
 kC 38 "LispSignal" [.type "Exception", .type "BaseException", .type "object"] (some (.ref 22)) "Exception.__new__" 196 204 <|
 fA 54 (kM 9 0) "Window.__init__" kW2 .none 251 258 <|
 fA 61 (kM 9 1) "Window.size" kW2 .none 261 266 <|
 fA 68 (kM 9 2) "Window.set_size" kW2 .none 269 275 <|
 fA 82 (kM 9 4) "Window.shown" kW2 .none 286 290 <|
 fA 89 (kM 9 5) "Window.show" kW2 .none 293 298 <|
 kD 92 (kE P "__module__" 246 (kS "emacs.windows" 227) <|kE P "__firstlineno__" 250 (.int 16 249) <|kE P "__init__" 260 (.ref 55) <|kE P "size" 268 (.ref 62) <|kE P "set_size" 277 (.ref 69) <|kE P "place" 285 (.ref 76) <|kE P "shown" 292 (.ref 83) <|kE P "show" 300 (.ref 90) <|kE P "__static_attributes__" 317 (.ref 91) <|kE P "__dict__" 319 (.ref 94) <|kE P "__weakref__" 321 (.ref 95) <|kE P "__doc__" 322 .none []) 4 <|
 kC 93 "Window" [.type "object"] none "object.__new__" 239 247 <|
 kT 105 [.int 10 337, .int 4 338] <|
 fA 111 (kM 10 0) "WindowTree.__init__" kW2 (.ref 105) 339 349 <|
 fA 118 (kM 10 1) "WindowTree.fresh" kW2 .none 352 359 <|
 fA 125 (kM 10 2) "WindowTree.window" kW2 .none 362 368 <|
 fA 132 (kM 10 3) "WindowTree.leaf" kW2 .none 371 377 <|
 fA 139 (kM 10 4) "WindowTree.touch" kW2 .none 380 385 <|
 fA 146 (kM 10 5) "WindowTree.select" kW2 .none 388 393 <|
 fA 153 (kM 10 6) "WindowTree.least_leaf" kW2 .none 396 401 <|
 kD 163 (kE P "__module__" 332 (kS "emacs.windows" 227) <|kE P "__firstlineno__" 336 (.int 53 335) <|kE P "__init__" 351 (.ref 112) <|kE P "fresh" 361 (.ref 119) <|kE P "window" 370 (.ref 126) <|kE P "leaf" 379 (.ref 133) <|kE P "touch" 387 (.ref 140) <|kE P "select" 395 (.ref 147) <|kE P "least_leaf" 403 (.ref 154) <|kE P "frame_size" 411 (.ref 161) <|kE P "__static_attributes__" 419 (.ref 162) <|kE P "__dict__" 421 (.ref 165) <|kE P "__weakref__" 423 (.ref 166) <|kE P "__doc__" 424 .none []) 4 <|
 kC 164 "WindowTree" [.type "object"] none "object.__new__" 325 333 <|
 fA 174 (kF 11) "along" kW2 .none 427 431 <|
 fA 181 (kF 12) "sort_along" kW2 .none 434 438 <|
 fA 188 (kF 13) "leaves_under" kW2 .none 441 449 <|
 fA 195 (kF 14) "leaves" kW2 .none 452 456 <|
 fA 202 (kF 15) "windows_under" kW2 .none 459 467 <|
 fA 209 (kF 16) "replace_child" kW2 .none 470 478 <|
 fA 216 (kF 17) "forget" kW2 .none 481 487 <|
 fA 223 (kF 19) "layout_text" kW3 .none 492 503 <|
 fB 228 (kF 21) "least_size" kW4 .none 508 511 <|
 fB 238 (kF 23) "set_tree_size" kW4 .none 520 523 <|
 fA 245 (kF 24) "set_places" kW4 .none 526 536 <|
 fA 252 (kF 26) "split_parts" kW5 .none 541 551 <|
 fA 259 (kF 27) "combined" kW5 .none 554 562 <|
 fA 266 (kF 28) "split" kW5 .none 565 580 <|
 fA 273 (kF 29) "joined" kW5 .none 583 592 <|
 kT 275 [.none] <|
 fA 281 (kF 30) "split_below" kW5 (.ref 275) 595 601 <|
 kT 283 [.none] <|
 fA 289 (kF 31) "split_above" kW5 (.ref 283) 604 610 <|
 kT 291 [.none] <|
 fA 297 (kF 32) "split_right" kW5 (.ref 291) 613 619 <|
 kT 299 [.none] <|
 fA 305 (kF 33) "split_left" kW5 (.ref 299) 622 628 <|
 fA 312 (kF 34) "lifted" kW5 .none 631 638 <|
 fA 319 (kF 35) "most_recent" kW5 .none 641 648 <|
 fA 326 (kF 36) "delete_window" kW5 .none 651 663 <|
 fA 333 (kF 38) "_law_draw" kW6 .none 668 673 <|
 fA 340 (kF 39) "_law_leaves" kW6 .none 676 685 <|
 fA 347 (kF 40) "_law_box" kW6 .none 688 693 <|
 fA 354 (kF 41) "_law_leaf" kW6 .none 696 703 <|
 fB 359 (kF 42) "_law_size" kW6 .none 706 709 <|
 fA 366 (kF 43) "_law_lines" kW6 .none 712 723 <|
 fA 373 (kF 44) "_law_put" kW6 .none 726 734 <|
 fA 380 (kF 45) "_law_split" kW6 .none 737 752 <|
 fB 385 (kF 46) "_law_gone" kW6 .none 755 758 <|
 fA 392 (kF 47) "_law_is_split" kW6 .none 761 772 <|
 fA 399 (kF 48) "_law_other" kW6 .none 775 787 [])
noncomputable def as265:List Addr:= [3,34,35,37,38,54,55,61,62,68,69,82,83,89,90,92,93,105,111,112,118,119,125,126,132,133,139,140,146,147,153,154,163,164,174,175,181,182,188,189,195,196,202,203,209,210,216,217,223,224,228,229,238,239,245,246,252,253,259,260,266,267,273,274,275,281,282,283,289,290,291,297,298,299,305,306,312,313,319,320,326,327,333,334,340,341,347,348,354,355,359,360,366,367,373,374,380,381,385,386,392,393,399,400]
theorem keysK:∀P,as265=(KK P).map (·.1):=fun P=>by kernel_rfl
noncomputable abbrev hkK:Hook:=kHook KK as265 keysK
end
section
open PySem PySem.W PySem.Calls PyProof.Rows PySem.Spec
noncomputable def bodyOf:FuncBody→List Stmt
 | .stmts b=>b
 |_=> []
noncomputable def fdOf(K:Frag)(a:Addr):Option FuncData:=match K.lookup a with
 |some ⟨_,_, .func fd,_⟩=>some fd
 |_=>none
noncomputable def isStmts:FuncBody→Bool
 | .stmts _=>true
 |_=>false
noncomputable def aU(K:Frag)(a:Addr)(fn:Fn):Bool:=match fdOf K a with
 |some fd=>isStmts fd.body && (fd.globals==mainGlobals) && fd.closure.isEmpty && (fd.builtins==builtinsNs) && codeIn K fd.code fd.qualname && keepIn K (.ref a) && chkSs K fd.scope fn.body (bodyOf fd.body) && !fd.scope.isCoroutine && !fd.scope.isGenerator &&
   (fd.scope.kind== .function) && decide ((cellsFrom 0 fd.scope.names []).map (·.1)).Nodup && decide (fn.params.map Str.ofString).Nodup && (fn.params.all fun x=>isLoc2 fd.scope (Str.ofString x))
 |none=>false
set_option tactic.hygienic true in theorem aY{K:Frag}{a:Addr}{fn:Fn}(h:aU K a fn=true)(hb:∀fd,fdOf K a=some fd→∀(s:Shared) (us:List Value),K.In s.heap→us.length=fn.params.length→BindsTo s fd ⟨us,[]⟩ ((fn.params.map Str.ofString).zip us)):Nonempty (FnFact K a fn):=by
 unfold aU at h
 split at h
 ·rename_i fd hfd
  have hb:=hb fd hfd
  simp only[Bool.and_eq_true,Bool.not_eq_true',beq_iff_eq,decide_eq_true_eq] at h
  obtain⟨⟨⟨⟨⟨⟨⟨⟨⟨⟨⟨⟨h1,h2⟩,h3⟩,h4⟩,h5⟩,h6⟩,h7⟩,h8⟩,h9⟩,h10⟩,h11⟩,h12⟩,h13⟩:=h
  unfold fdOf at hfd
  split at hfd
  ·rename_i oc od fd' osl hl
   cases hfd
   obtain⟨name,qual,params,body,scope,globals,closure,dV,kV,doc,pm,an,code,ct,bi⟩:=fd
   have h3':closure= []:=by simpa using h3
   simp only at h1 h2 h4 h5 h7 h8 h9 h10 h11 h13
   cases body with
   |stmts b=>
    subst h2 h3' h4
    exact⟨{name,qual,params,body:=b,scope,dV,kV,doc,pm,cdv:=code,ct,oc,an,od,osl,look:=hl,code:=h5,keep:=h6,chk:=h7,co:=h8,gen:=h9,kind:=h10,nd:=h11,pnd:=h12,kinds:=h13,bind:=hb}⟩
   |_=>exact absurd h1 ff
  ·exact absurd hfd nn
 ·exact absurd h ff
end
section
open PySem
noncomputable def f_Window_init:Fn:={params:= ["self","number","sort","parent"],body:=(.cons (.assign (.attr (.var "self") "number") (.var "number")) (.cons (.assign (.attr (.var "self") "sort") (.var "sort")) (.cons (.assign (.attr (.var "self") "parent") (.var "parent")) (.cons (.assign (.attr (.var "self") "children") (.list .nil)) (.cons (.assign (.attr (.var "self") "left") (.cst (.int 0))) (.cons (.assign (.attr (.var "self") "top") (.cst (.int 0))) (.cons (.assign (.attr (.var "self") "width") (.cst (.int 0))) (.cons (.assign (.attr (.var "self") "height") (.cst (.int 0))) (.cons (.assign (.attr (.var "self") "buffer") (.cst (.int 0))) (.cons (.assign (.attr (.var "self") "start") (.cst (.int 1))) (.cons (.assign (.attr (.var "self") "point") (.cst (.int 1))) (.cons (.assign (.attr (.var "self") "hscroll") (.cst (.int 0))) (.cons (.assign (.attr (.var "self") "is_dedicated") (.cst (.bool false))) (.cons (.assign (.attr (.var "self") "use_time") (.cst (.int 0))) (.cons (.assign (.attr (.var "self") "earlier") (.list .nil)) (.cons (.assign (.attr (.var "self") "later") (.list .nil)) .nil))))))))))))))))}
noncomputable def f_Window_size:Fn:={params:= ["self","axis"],body:=(.cons (.ret (.ite (.cmp .eq (.var "axis") (.glob "WIDTH" (.int 0))) (.attr (.var "self") "width") (.attr (.var "self") "height"))) .nil)}
noncomputable def f_Window_set_size:Fn:={params:= ["self","axis","size"],body:=(.cons (.ite (.cmp .eq (.var "axis") (.glob "WIDTH" (.int 0))) (.cons (.assign (.attr (.var "self") "width") (.var "size")) .nil) (.cons (.assign (.attr (.var "self") "height") (.var "size")) .nil)) .nil)}
noncomputable def f_Window_shown:Fn:={params:= ["self"],body:=(.cons (.ret (.tuple (.cons (.attr (.var "self") "buffer") (.cons (.attr (.var "self") "start") (.cons (.attr (.var "self") "point") (.cons (.attr (.var "self") "hscroll") .nil)))))) .nil)}
noncomputable def f_Window_show:Fn:={params:= ["self","told"],body:=(.cons (.unpack [(.attr (.var "self") "buffer"),(.attr (.var "self") "start"),(.attr (.var "self") "point"),(.attr (.var "self") "hscroll")] (.var "told")) .nil)}
noncomputable def f_WindowTree_init:Fn:={params:= ["self","width","height","buffer","least_width","least_height"],body:=(.cons (.assign (.attr (.var "self") "windows") .dict0) (.cons (.assign (.attr (.var "self") "last") (.cst (.int 0))) (.cons (.assign (.attr (.var "self") "clock") (.cst (.int 0))) (.cons (.assign (.attr (.var "self") "least_width") (.var "least_width")) (.cons (.assign (.attr (.var "self") "least_height") (.var "least_height")) (.cons (.assign (.name "first") (.meth 164 119 (.var "self") "fresh" (.cons (.glob "LEAF" (.int 0)) (.cons (.cst (.int 0)) .nil)))) (.cons (.assign (.attr (.var "first") "width") (.var "width")) (.cons (.assign (.attr (.var "first") "height") (.var "height")) (.cons (.assign (.attr (.var "first") "buffer") (.var "buffer")) (.cons (.assign (.attr (.var "self") "root") (.attr (.var "first") "number")) (.cons (.assign (.attr (.var "self") "selected") (.attr (.var "first") "number")) (.cons (.expr (.meth 164 140 (.var "self") "touch" (.cons (.attr (.var "first") "number") .nil))) .nil))))))))))))}
noncomputable def f_WindowTree_fresh:Fn:={params:= ["self","sort","parent"],body:=(.cons (.assign (.attr (.var "self") "last") (.bin .add (.attr (.var "self") "last") (.cst (.int 1)))) (.cons (.assign (.name "found") (.new 93 55 "Window" (.cons (.attr (.var "self") "last") (.cons (.var "sort") (.cons (.var "parent") .nil))))) (.cons (.assign (.item (.attr (.var "self") "windows") (.attr (.var "self") "last")) (.var "found")) (.cons (.ret (.var "found")) .nil))))}
noncomputable def f_WindowTree_window:Fn:={params:= ["self","number"],body:=(.cons (.assign (.name "found") (.bm .dget (.attr (.var "self") "windows") (.cons (.var "number") (.cons (.cst .none) .nil)))) (.cons (.ite (.isNone true (.var "found")) (.cons .raise .nil) .nil) (.cons (.ret (.var "found")) .nil)))}
noncomputable def f_WindowTree_leaf:Fn:={params:= ["self","number"],body:=(.cons (.assign (.name "found") (.meth 164 126 (.var "self") "window" (.cons (.var "number") .nil))) (.cons (.ite (.cmp .ne (.attr (.var "found") "sort") (.glob "LEAF" (.int 0))) (.cons .raise .nil) .nil) (.cons (.ret (.var "found")) .nil)))}
noncomputable def f_WindowTree_touch:Fn:={params:= ["self","number"],body:=(.cons (.assign (.attr (.var "self") "clock") (.bin .add (.attr (.var "self") "clock") (.cst (.int 1)))) (.cons (.assign (.attr (.item (.attr (.var "self") "windows") (.var "number")) "use_time") (.attr (.var "self") "clock")) .nil))}
noncomputable def f_WindowTree_select:Fn:={params:= ["self","number"],body:=(.cons (.assign (.attr (.var "self") "selected") (.attr (.meth 164 133 (.var "self") "leaf" (.cons (.var "number") .nil)) "number")) (.cons (.expr (.meth 164 140 (.var "self") "touch" (.cons (.var "number") .nil))) .nil))}
noncomputable def f_WindowTree_least_leaf:Fn:={params:= ["self","axis"],body:=(.cons (.ret (.ite (.cmp .eq (.var "axis") (.glob "WIDTH" (.int 0))) (.attr (.var "self") "least_width") (.attr (.var "self") "least_height"))) .nil)}
noncomputable def f_along:Fn:={params:= ["sort"],body:=(.cons (.ret (.ite (.cmp .eq (.var "sort") (.glob "ROW" (.int 2))) (.glob "WIDTH" (.int 0)) (.glob "HEIGHT" (.int 1)))) .nil)}
noncomputable def f_sort_along:Fn:={params:= ["axis"],body:=(.cons (.ret (.ite (.cmp .eq (.var "axis") (.glob "WIDTH" (.int 0))) (.glob "ROW" (.int 2)) (.glob "COLUMN" (.int 1)))) .nil)}
noncomputable def f_leaves_under:Fn:={params:= ["tree","number"],body:=(.cons (.assign (.name "found") (.list .nil)) (.cons (.assign (.name "waiting") (.list (.cons (.var "number") .nil))) (.cons (.while (.neNil false (.var "waiting")) (.cons (.assign (.name "here") (.item (.attr (.var "tree") "windows") (.bm .pop (.var "waiting") .nil))) (.cons (.ite (.cmp .eq (.attr (.var "here") "sort") (.glob "LEAF" (.int 0))) (.cons (.expr (.bm .append (.var "found") (.cons (.attr (.var "here") "number") .nil))) .nil) (.cons (.expr (.bm .extend (.var "waiting") (.cons (.rev (.attr (.var "here") "children")) .nil))) .nil)) .nil))) (.cons (.ret (.var "found")) .nil))))}
noncomputable def f_leaves:Fn:={params:= ["tree"],body:=(.cons (.ret (.call (.glob "leaves_under" (.ref 189)) (.cons (.var "tree") (.cons (.attr (.var "tree") "root") .nil)))) .nil)}
noncomputable def f_windows_under:Fn:={params:= ["tree","number"],body:=(.cons (.assign (.name "found") (.list .nil)) (.cons (.assign (.name "waiting") (.list (.cons (.var "number") .nil))) (.cons (.while (.neNil false (.var "waiting")) (.cons (.assign (.name "here") (.item (.attr (.var "tree") "windows") (.bm .pop (.var "waiting") .nil))) (.cons (.expr (.bm .append (.var "found") (.cons (.attr (.var "here") "number") .nil))) (.cons (.expr (.bm .extend (.var "waiting") (.cons (.rev (.attr (.var "here") "children")) .nil))) .nil)))) (.cons (.ret (.var "found")) .nil))))}
noncomputable def f_replace_child:Fn:={params:= ["tree","old","new"],body:=(.cons (.assign (.name "parent") (.attr (.item (.attr (.var "tree") "windows") (.var "old")) "parent")) (.cons (.assign (.attr (.item (.attr (.var "tree") "windows") (.var "new")) "parent") (.var "parent")) (.cons (.ite (.cmp .eq (.var "parent") (.cst (.int 0))) (.cons (.assign (.attr (.var "tree") "root") (.var "new")) .nil) (.cons (.assign (.name "children") (.attr (.item (.attr (.var "tree") "windows") (.var "parent")) "children")) (.cons (.assign (.item (.var "children") (.bm .index (.var "children") (.cons (.var "old") .nil))) (.var "new")) .nil))) .nil)))}
noncomputable def f_forget:Fn:={params:= ["tree","number"],body:=(.cons (.for "own" (.call (.glob "windows_under" (.ref 203)) (.cons (.var "tree") (.cons (.var "number") .nil))) (.cons (.expr (.bm .dpop (.attr (.var "tree") "windows") (.cons (.var "own") .nil))) .nil)) .nil)}
noncomputable def f_layout_text:Fn:={params:= ["tree"],body:=(.cons (.multi [(.name "lines"),(.name "waiting")] (.cons (.list .nil) (.cons (.list (.cons (.tuple (.cons (.attr (.var "tree") "root") (.cons (.cst (.int 0)) .nil))) .nil)) .nil))) (.cons (.while (.neNil false (.var "waiting")) (.cons (.unpack [(.name "number"),(.name "deep")] (.bm .pop (.var "waiting") .nil)) (.cons (.assign (.name "here") (.item (.attr (.var "tree") "windows") (.var "number"))) (.cons (.assign (.name "told") (.bin .add (.item (.list (.cons (.cst (.str (Str.ofString "leaf"))) (.cons (.cst (.str (Str.ofString "column"))) (.cons (.cst (.str (Str.ofString "row"))) .nil)))) (.attr (.var "here") "sort")) (.fstr (.cons (.cst (.str (Str.ofString " "))) (.cons (.attr (.var "here") "width") (.cons (.cst (.str (Str.ofString "x"))) (.cons (.attr (.var "here") "height") (.cons (.cst (.str (Str.ofString "+"))) (.cons (.attr (.var "here") "left") (.cons (.cst (.str (Str.ofString "+"))) (.cons (.attr (.var "here") "top") .nil))))))))))) (.cons (.ite (.cmp .eq (.attr (.var "here") "sort") (.glob "LEAF" (.int 0))) (.cons (.assign (.name "told") (.bin .add (.bin .add (.var "told") (.fstr (.cons (.cst (.str (Str.ofString " "))) (.cons (.attr (.var "here") "buffer") .nil)))) (.ite (.cmp .eq (.var "number") (.attr (.var "tree") "selected")) (.cst (.str (Str.ofString "*"))) (.cst (.str (Str.ofString "")))))) .nil) .nil) (.cons (.expr (.bm .append (.var "lines") (.cons (.bin .add (.bin .mul (.cst (.str (Str.ofString "."))) (.var "deep")) (.var "told")) .nil))) (.cons (.for "child" (.rev (.attr (.var "here") "children")) (.cons (.expr (.bm .append (.var "waiting") (.cons (.tuple (.cons (.var "child") (.cons (.bin .add (.var "deep") (.cst (.int 1))) .nil))) .nil))) .nil)) .nil))))))) (.cons (.ret (.bin .add (.bm .join (.cst (.str (Str.ofString "\n"))) (.cons (.var "lines") .nil)) (.cst (.str (Str.ofString "\n"))))) .nil)))}
noncomputable def f_least_size:Fn:={params:= ["tree","number","axis"],body:=(.cons (.assign (.name "found") .dict0) (.cons (.for "own" (.rev (.call (.glob "windows_under" (.ref 203)) (.cons (.var "tree") (.cons (.var "number") .nil)))) (.cons (.assign (.name "here") (.item (.attr (.var "tree") "windows") (.var "own"))) (.cons (.ite (.cmp .eq (.attr (.var "here") "sort") (.glob "LEAF" (.int 0))) (.cons (.assign (.item (.var "found") (.var "own")) (.meth 164 154 (.var "tree") "least_leaf" (.cons (.var "axis") .nil))) .nil) (.cons (.ite (.cmp .eq (.call (.glob "along" (.ref 175)) (.cons (.attr (.var "here") "sort") .nil)) (.var "axis")) (.cons .dead .nil) (.cons .dead .nil)) .nil)) .nil))) (.cons (.ret (.item (.var "found") (.var "number"))) .nil)))}
noncomputable def f_set_tree_size:Fn:={params:= ["tree","number","axis","size"],body:=(.cons (.assign (.name "waiting") (.list (.cons (.tuple (.cons (.var "number") (.cons (.var "size") .nil))) .nil))) (.cons (.while (.neNil false (.var "waiting")) (.cons (.unpack [(.name "own"),(.name "much")] (.bm .pop (.var "waiting") .nil)) (.cons (.assign (.name "here") (.item (.attr (.var "tree") "windows") (.var "own"))) (.cons (.ite (.cmp .ne (.attr (.var "here") "sort") (.glob "LEAF" (.int 0))) (.cons (.ite (.cmp .eq (.call (.glob "along" (.ref 175)) (.cons (.attr (.var "here") "sort") .nil)) (.var "axis")) (.cons .dead .nil) (.cons (.for "child" (.attr (.var "here") "children") (.cons (.expr (.bm .append (.var "waiting") (.cons (.tuple (.cons (.var "child") (.cons (.var "much") .nil))) .nil))) .nil)) .nil)) .nil) .nil) (.cons (.expr (.meth 93 69 (.var "here") "set_size" (.cons (.var "axis") (.cons (.var "much") .nil)))) .nil))))) .nil))}
noncomputable def f_set_places:Fn:={params:= ["tree"],body:=(.cons (.assign (.name "waiting") (.list (.cons (.tuple (.cons (.attr (.var "tree") "root") (.cons (.cst (.int 0)) (.cons (.cst (.int 0)) .nil)))) .nil))) (.cons (.while (.neNil false (.var "waiting")) (.cons (.unpack [(.name "number"),(.name "left"),(.name "top")] (.bm .pop (.var "waiting") .nil)) (.cons (.assign (.name "here") (.item (.attr (.var "tree") "windows") (.var "number"))) (.cons (.multi [(.attr (.var "here") "left"),(.attr (.var "here") "top")] (.cons (.var "left") (.cons (.var "top") .nil))) (.cons (.for "child" (.attr (.var "here") "children") (.cons (.expr (.bm .append (.var "waiting") (.cons (.tuple (.cons (.var "child") (.cons (.var "left") (.cons (.var "top") .nil)))) .nil))) (.cons (.ite (.cmp .eq (.call (.glob "along" (.ref 175)) (.cons (.attr (.var "here") "sort") .nil)) (.glob "WIDTH" (.int 0))) (.cons (.assign (.name "left") (.bin .add (.var "left") (.attr (.item (.attr (.var "tree") "windows") (.var "child")) "width"))) .nil) (.cons (.assign (.name "top") (.bin .add (.var "top") (.attr (.item (.attr (.var "tree") "windows") (.var "child")) "height"))) .nil)) .nil))) .nil))))) .nil))}
noncomputable def f_split_parts:Fn:={params:= ["tree","number","size","axis"],body:=(.cons (.assign (.name "whole") (.meth 93 62 (.meth 164 126 (.var "tree") "window" (.cons (.var "number") .nil)) "size" (.cons (.var "axis") .nil))) (.cons (.ite (.isNone true (.var "size")) (.cons (.assign (.name "new") (.bin .fdiv (.var "whole") (.cst (.int 2)))) .nil) (.cons (.assign (.name "new") (.ite (.cmp .gt (.var "size") (.cst (.int 0))) (.bin .sub (.var "whole") (.var "size")) (.bin .sub (.cst (.int 0)) (.var "size")))) .nil)) (.cons (.assign (.name "old") (.bin .sub (.var "whole") (.var "new"))) (.cons (.ite (.boolop false (.cmp .lt (.var "old") (.call (.glob "least_size" (.ref 229)) (.cons (.var "tree") (.cons (.var "number") (.cons (.var "axis") .nil))))) (.cmp .lt (.var "new") (.meth 164 154 (.var "tree") "least_leaf" (.cons (.var "axis") .nil)))) (.cons .raise .nil) .nil) (.cons (.ret (.tuple (.cons (.var "old") (.cons (.var "new") .nil)))) .nil)))))}
noncomputable def f_combined:Fn:={params:= ["tree","number","axis"],body:=(.cons (.assign (.name "here") (.item (.attr (.var "tree") "windows") (.var "number"))) (.cons (.ite (.boolop true (.cmp .ne (.attr (.var "here") "parent") (.cst (.int 0))) (.cmp .eq (.call (.glob "along" (.ref 175)) (.cons (.attr (.item (.attr (.var "tree") "windows") (.attr (.var "here") "parent")) "sort") .nil)) (.var "axis"))) (.cons (.ret (.attr (.var "here") "parent")) .nil) .nil) (.cons (.assign (.name "around") (.meth 164 119 (.var "tree") "fresh" (.cons (.call (.glob "sort_along" (.ref 182)) (.cons (.var "axis") .nil)) (.cons (.attr (.var "here") "parent") .nil)))) (.cons (.multi [(.attr (.var "around") "width"),(.attr (.var "around") "height"),(.attr (.var "around") "left"),(.attr (.var "around") "top")] (.cons (.attr (.var "here") "width") (.cons (.attr (.var "here") "height") (.cons (.attr (.var "here") "left") (.cons (.attr (.var "here") "top") .nil))))) (.cons (.expr (.call (.glob "replace_child" (.ref 210)) (.cons (.var "tree") (.cons (.var "number") (.cons (.attr (.var "around") "number") .nil))))) (.cons (.assign (.attr (.var "here") "parent") (.attr (.var "around") "number")) (.cons (.assign (.attr (.var "around") "children") (.list (.cons (.var "number") .nil))) (.cons (.ret (.attr (.var "around") "number")) .nil))))))))}
noncomputable def f_split:Fn:={params:= ["tree","number","size","axis","is_ahead"],body:=(.cons (.unpack [(.name "old"),(.name "new")] (.call (.glob "split_parts" (.ref 253)) (.cons (.var "tree") (.cons (.var "number") (.cons (.var "size") (.cons (.var "axis") .nil)))))) (.cons (.assign (.name "parent") (.call (.glob "combined" (.ref 260)) (.cons (.var "tree") (.cons (.var "number") (.cons (.var "axis") .nil))))) (.cons (.assign (.name "model") (.item (.attr (.var "tree") "windows") (.item (.call (.glob "leaves_under" (.ref 189)) (.cons (.var "tree") (.cons (.var "number") .nil))) (.cst (.int 0))))) (.cons (.assign (.name "found") (.meth 164 119 (.var "tree") "fresh" (.cons (.glob "LEAF" (.int 0)) (.cons (.var "parent") .nil)))) (.cons (.multi [(.attr (.var "found") "width"),(.attr (.var "found") "height")] (.cons (.attr (.var "model") "width") (.cons (.attr (.var "model") "height") .nil))) (.cons (.expr (.meth 93 69 (.var "found") "set_size" (.cons (.var "axis") (.cons (.var "new") .nil)))) (.cons (.expr (.meth 93 69 (.var "found") "set_size" (.cons (.bin .sub (.cst (.int 1)) (.var "axis")) (.cons (.meth 93 62 (.item (.attr (.var "tree") "windows") (.var "number")) "size" (.cons (.bin .sub (.cst (.int 1)) (.var "axis")) .nil)) .nil)))) (.cons (.expr (.meth 93 90 (.var "found") "show" (.cons (.meth 93 83 (.var "model") "shown" .nil) .nil))) (.cons (.assign (.attr (.var "found") "earlier") (.listOf (.attr (.var "model") "earlier"))) (.cons (.assign (.name "children") (.attr (.item (.attr (.var "tree") "windows") (.var "parent")) "children")) (.cons (.assign (.name "at") (.bm .index (.var "children") (.cons (.var "number") .nil))) (.cons (.expr (.bm .insert (.var "children") (.cons (.ite (.var "is_ahead") (.var "at") (.bin .add (.var "at") (.cst (.int 1)))) (.cons (.attr (.var "found") "number") .nil)))) (.cons (.expr (.call (.glob "set_tree_size" (.ref 239)) (.cons (.var "tree") (.cons (.var "number") (.cons (.var "axis") (.cons (.var "old") .nil)))))) (.cons (.expr (.call (.glob "joined" (.ref 274)) (.cons (.var "tree") (.cons (.var "parent") .nil)))) (.cons (.expr (.call (.glob "set_places" (.ref 246)) (.cons (.var "tree") .nil))) (.cons (.ret (.attr (.var "found") "number")) .nil))))))))))))))))}
noncomputable def f_joined:Fn:={params:= ["tree","number"],body:=(.cons (.assign (.name "here") (.item (.attr (.var "tree") "windows") (.var "number"))) (.cons (.assign (.name "found") (.list .nil)) (.cons (.for "child" (.attr (.var "here") "children") (.cons (.assign (.name "own") (.item (.attr (.var "tree") "windows") (.var "child"))) (.cons (.ite (.cmp .eq (.attr (.var "own") "sort") (.attr (.var "here") "sort")) (.cons (.expr (.bm .extend (.var "found") (.cons (.attr (.var "own") "children") .nil))) (.cons (.expr (.bm .dpop (.attr (.var "tree") "windows") (.cons (.var "child") .nil))) .nil)) (.cons (.expr (.bm .append (.var "found") (.cons (.var "child") .nil))) .nil)) .nil))) (.cons (.for "child" (.var "found") (.cons (.assign (.attr (.item (.attr (.var "tree") "windows") (.var "child")) "parent") (.var "number")) .nil)) (.cons (.assign (.attr (.var "here") "children") (.var "found")) .nil)))))}
noncomputable def f_split_below:Fn:={params:= ["tree","number","size"],body:=(.cons (.ret (.call (.glob "split" (.ref 267)) (.cons (.var "tree") (.cons (.var "number") (.cons (.var "size") (.cons (.glob "HEIGHT" (.int 1)) (.cons (.cst (.bool false)) .nil))))))) .nil)}
noncomputable def f_split_above:Fn:={params:= ["tree","number","size"],body:=(.cons (.ret (.call (.glob "split" (.ref 267)) (.cons (.var "tree") (.cons (.var "number") (.cons (.var "size") (.cons (.glob "HEIGHT" (.int 1)) (.cons (.cst (.bool true)) .nil))))))) .nil)}
noncomputable def f_split_right:Fn:={params:= ["tree","number","size"],body:=(.cons (.ret (.call (.glob "split" (.ref 267)) (.cons (.var "tree") (.cons (.var "number") (.cons (.var "size") (.cons (.glob "WIDTH" (.int 0)) (.cons (.cst (.bool false)) .nil))))))) .nil)}
noncomputable def f_split_left:Fn:={params:= ["tree","number","size"],body:=(.cons (.ret (.call (.glob "split" (.ref 267)) (.cons (.var "tree") (.cons (.var "number") (.cons (.var "size") (.cons (.glob "WIDTH" (.int 0)) (.cons (.cst (.bool true)) .nil))))))) .nil)}
noncomputable def f_lifted:Fn:={params:= ["tree","number"],body:=(.cons (.assign (.name "here") (.item (.attr (.var "tree") "windows") (.var "number"))) (.cons (.ite (.cmp .ne (.len (.attr (.var "here") "children")) (.cst (.int 1))) (.cons .retNone .nil) .nil) (.cons (.assign (.name "left") (.item (.attr (.var "here") "children") (.cst (.int 0)))) (.cons (.expr (.call (.glob "replace_child" (.ref 210)) (.cons (.var "tree") (.cons (.var "number") (.cons (.var "left") .nil))))) (.cons (.assign (.attr (.var "here") "children") (.list .nil)) (.cons (.expr (.bm .dpop (.attr (.var "tree") "windows") (.cons (.var "number") .nil))) (.cons (.ite (.cmp .ne (.attr (.item (.attr (.var "tree") "windows") (.var "left")) "parent") (.cst (.int 0))) (.cons (.expr (.call (.glob "joined" (.ref 274)) (.cons (.var "tree") (.cons (.attr (.item (.attr (.var "tree") "windows") (.var "left")) "parent") .nil)))) .nil) .nil) .nil)))))))}
noncomputable def f_most_recent:Fn:={params:= ["tree","numbers"],body:=(.cons (.assign (.name "found") (.item (.var "numbers") (.cst (.int 0)))) (.cons (.for "number" (.var "numbers") (.cons (.ite (.cmp .gt (.attr (.item (.attr (.var "tree") "windows") (.var "number")) "use_time") (.attr (.item (.attr (.var "tree") "windows") (.var "found")) "use_time")) (.cons (.assign (.name "found") (.var "number")) .nil) .nil) .nil)) (.cons (.ret (.var "found")) .nil)))}
noncomputable def cG:Fn:={params:= ["tree","number"],body:=(.cons (.assign (.name "here") (.meth 164 126 (.var "tree") "window" (.cons (.var "number") .nil))) (.cons (.ite (.cmp .eq (.attr (.var "here") "parent") (.cst (.int 0))) (.cons .raise .nil) .nil) (.cons (.assign (.name "parent") (.item (.attr (.var "tree") "windows") (.attr (.var "here") "parent"))) (.cons (.multi [(.name "axis"),(.name "at")] (.cons (.call (.glob "along" (.ref 175)) (.cons (.attr (.var "parent") "sort") .nil)) (.cons (.bm .index (.attr (.var "parent") "children") (.cons (.var "number") .nil)) .nil))) (.cons (.assign (.name "other") (.ite (.cmp .gt (.var "at") (.cst (.int 0))) (.item (.attr (.var "parent") "children") (.bin .sub (.var "at") (.cst (.int 1)))) (.item (.attr (.var "parent") "children") (.cst (.int 1))))) (.cons (.assign (.name "size") (.bin .add (.meth 93 62 (.item (.attr (.var "tree") "windows") (.var "other")) "size" (.cons (.var "axis") .nil)) (.meth 93 62 (.var "here") "size" (.cons (.var "axis") .nil)))) (.cons (.assign (.name "is_gone") (.isIn (.attr (.var "tree") "selected") (.call (.glob "leaves_under" (.ref 189)) (.cons (.var "tree") (.cons (.var "number") .nil))))) (.cons (.expr (.bm .remove (.attr (.var "parent") "children") (.cons (.var "number") .nil))) (.cons (.expr (.call (.glob "forget" (.ref 217)) (.cons (.var "tree") (.cons (.var "number") .nil)))) (.cons (.expr (.call (.glob "set_tree_size" (.ref 239)) (.cons (.var "tree") (.cons (.var "other") (.cons (.var "axis") (.cons (.var "size") .nil)))))) (.cons (.expr (.call (.glob "lifted" (.ref 313)) (.cons (.var "tree") (.cons (.attr (.var "parent") "number") .nil)))) (.cons (.expr (.call (.glob "set_places" (.ref 246)) (.cons (.var "tree") .nil))) (.cons (.ite (.var "is_gone") (.cons (.assign (.attr (.var "tree") "selected") (.call (.glob "most_recent" (.ref 320)) (.cons (.var "tree") (.cons (.call (.glob "leaves_under" (.ref 189)) (.cons (.var "tree") (.cons (.attr (.var "tree") "root") .nil))) .nil)))) .nil) .nil) .nil)))))))))))))}
noncomputable def f__law_draw:Fn:={params:= ["deck","many"],body:=(.cons (.ret (.ite (.neNil false (.var "deck")) (.bin .mod (.bm .popAt (.var "deck") (.cons (.cst (.int 0)) .nil)) (.var "many")) (.cst (.int 0)))) .nil)}
noncomputable def f__law_leaves:Fn:={params:= ["box"],body:=(.cons (.multi [(.name "found"),(.name "waiting")] (.cons (.list .nil) (.cons (.list (.cons (.tuple (.cons (.var "box") (.cons (.list .nil) .nil))) .nil)) .nil))) (.cons (.while (.neNil false (.var "waiting")) (.cons (.unpack [(.name "own"),(.name "way")] (.bm .pop (.var "waiting") .nil)) (.cons (.ite (.cmp .eq (.item (.var "own") (.cst (.str (Str.ofString "sort")))) (.cst (.str (Str.ofString "leaf")))) (.cons (.expr (.bm .append (.var "found") (.cons (.tuple (.cons (.var "own") (.cons (.var "way") .nil))) .nil))) .nil) .nil) (.cons (.forRange "nth" (.cons (.bin .sub (.len (.item (.var "own") (.cst (.str (Str.ofString "parts"))))) (.cst (.int 1))) (.cons (.neg (.cst (.int 1))) (.cons (.neg (.cst (.int 1))) .nil))) (.cons (.expr (.bm .append (.var "waiting") (.cons (.tuple (.cons (.item (.item (.var "own") (.cst (.str (Str.ofString "parts")))) (.var "nth")) (.cons (.ladd (.var "way") (.list (.cons (.tuple (.cons (.var "own") (.cons (.var "nth") .nil))) .nil))) .nil))) .nil))) .nil)) .nil)))) (.cons (.ret (.var "found")) .nil)))}
noncomputable def f__law_box:Fn:={params:= ["sort","inner"],body:=(.cons (.ret (.dict ["sort","parts"] (.cons (.var "sort") (.cons (.var "inner") .nil)))) .nil)}
noncomputable def f__law_leaf:Fn:={params:= ["wide","high","buffer","number"],body:=(.cons (.ret (.dict ["sort","parts","row","column","buffer","number"] (.cons (.cst (.str (Str.ofString "leaf"))) (.cons (.list .nil) (.cons (.var "wide") (.cons (.var "high") (.cons (.var "buffer") (.cons (.var "number") .nil)))))))) .nil)}
noncomputable def f__law_size:Fn:={params:= ["own","axis"],body:=(.cons (.ite (.cmp .eq (.item (.var "own") (.cst (.str (Str.ofString "sort")))) (.cst (.str (Str.ofString "leaf")))) (.cons (.ret (.item (.var "own") (.var "axis"))) .nil) .nil) (.cons (.assignC "some" (.comp "part" "_law_size" 360 "axis" (.item (.var "own") (.cst (.str (Str.ofString "parts")))))) (.cons (.ret (.ite (.cmp .eq (.item (.var "own") (.cst (.str (Str.ofString "sort")))) (.var "axis")) (.sum (.var "some")) (.item (.var "some") (.cst (.int 0))))) .nil)))}
noncomputable def f__law_lines:Fn:={params:= ["own","left","top","deep","starred"],body:=(.cons (.assign (.name "here") (.bin .add (.bin .add (.bin .add (.bin .add (.bin .add (.bin .mul (.cst (.str (Str.ofString "."))) (.var "deep")) (.item (.var "own") (.cst (.str (Str.ofString "sort"))))) (.cst (.str (Str.ofString " ")))) (.strOf (.call (.glob "_law_size" (.ref 360)) (.cons (.var "own") (.cons (.cst (.str (Str.ofString "row"))) .nil))))) (.cst (.str (Str.ofString "x")))) (.strOf (.call (.glob "_law_size" (.ref 360)) (.cons (.var "own") (.cons (.cst (.str (Str.ofString "column"))) .nil)))))) (.cons (.assign (.name "here") (.bin .add (.bin .add (.bin .add (.bin .add (.var "here") (.cst (.str (Str.ofString "+")))) (.strOf (.var "left"))) (.cst (.str (Str.ofString "+")))) (.strOf (.var "top")))) (.cons (.ite (.cmp .eq (.item (.var "own") (.cst (.str (Str.ofString "sort")))) (.cst (.str (Str.ofString "leaf")))) (.cons (.assign (.name "here") (.bin .add (.bin .add (.bin .add (.var "here") (.cst (.str (Str.ofString " ")))) (.strOf (.item (.var "own") (.cst (.str (Str.ofString "buffer")))))) (.ite (.cmp .eq (.item (.var "own") (.cst (.str (Str.ofString "number")))) (.var "starred")) (.cst (.str (Str.ofString "*"))) (.cst (.str (Str.ofString "")))))) .nil) .nil) (.cons (.assign (.name "found") (.list (.cons (.var "here") .nil))) (.cons (.for "part" (.item (.var "own") (.cst (.str (Str.ofString "parts")))) (.cons (.expr (.bm .extend (.var "found") (.cons (.call (.glob "_law_lines" (.ref 367)) (.cons (.var "part") (.cons (.var "left") (.cons (.var "top") (.cons (.bin .add (.var "deep") (.cst (.int 1))) (.cons (.var "starred") .nil)))))) .nil))) (.cons (.ite (.cmp .eq (.item (.var "own") (.cst (.str (Str.ofString "sort")))) (.cst (.str (Str.ofString "row")))) (.cons (.assign (.name "left") (.bin .add (.var "left") (.call (.glob "_law_size" (.ref 360)) (.cons (.var "part") (.cons (.cst (.str (Str.ofString "row"))) .nil))))) .nil) (.cons (.assign (.name "top") (.bin .add (.var "top") (.call (.glob "_law_size" (.ref 360)) (.cons (.var "part") (.cons (.cst (.str (Str.ofString "column"))) .nil))))) .nil)) .nil))) (.cons (.ret (.var "found")) .nil))))))}
noncomputable def f__law_put:Fn:={params:= ["root","way","inner"],body:=(.cons (.ite (.neNil true (.var "way")) (.cons (.ret (.item (.var "inner") (.cst (.int 0)))) .nil) .nil) (.cons (.unpack [(.name "around"),(.name "nth")] (.item (.var "way") (.neg (.cst (.int 1))))) (.cons (.sliceSet (.item (.var "around") (.cst (.str (Str.ofString "parts")))) (.var "nth") (.bin .add (.var "nth") (.cst (.int 1))) (.var "inner")) (.cons (.ret (.var "root")) .nil))))}
noncomputable def b7:Fn:={params:= ["root","nth","size","axis","is_ahead","number"],body:=(.cons (.unpack [(.name "own"),(.name "way")] (.item (.call (.glob "_law_leaves" (.ref 341)) (.cons (.var "root") .nil)) (.var "nth"))) (.cons (.assign (.name "later") (.ite (.isNone true (.var "size")) (.bin .fdiv (.item (.var "own") (.var "axis")) (.cst (.int 2))) (.ite (.cmp .gt (.var "size") (.cst (.int 0))) (.bin .sub (.item (.var "own") (.var "axis")) (.var "size")) (.bin .sub (.cst (.int 0)) (.var "size"))))) (.cons (.assign (.name "least") (.ite (.cmp .eq (.var "axis") (.cst (.str (Str.ofString "row")))) (.cst (.int 3)) (.cst (.int 2)))) (.cons (.ite (.boolop false (.cmp .lt (.bin .sub (.item (.var "own") (.var "axis")) (.var "later")) (.var "least")) (.cmp .lt (.var "later") (.var "least"))) (.cons (.ret (.cst .none)) .nil) .nil) (.cons (.assign (.name "fresh") (.call (.glob "_law_leaf" (.ref 355)) (.cons (.item (.var "own") (.cst (.str (Str.ofString "row")))) (.cons (.item (.var "own") (.cst (.str (Str.ofString "column")))) (.cons (.item (.var "own") (.cst (.str (Str.ofString "buffer")))) (.cons (.var "number") .nil)))))) (.cons (.multi [(.item (.var "own") (.var "axis")),(.item (.var "fresh") (.var "axis"))] (.cons (.bin .sub (.item (.var "own") (.var "axis")) (.var "later")) (.cons (.var "later") .nil))) (.cons (.assign (.name "pair") (.ite (.var "is_ahead") (.list (.cons (.var "fresh") (.cons (.var "own") .nil))) (.list (.cons (.var "own") (.cons (.var "fresh") .nil))))) (.cons (.ite (.boolop true (.neNil false (.var "way")) (.cmp .eq (.item (.item (.item (.var "way") (.neg (.cst (.int 1)))) (.cst (.int 0))) (.cst (.str (Str.ofString "sort")))) (.var "axis"))) (.cons (.ret (.call (.glob "_law_put" (.ref 374)) (.cons (.var "root") (.cons (.var "way") (.cons (.var "pair") .nil))))) .nil) .nil) (.cons (.ret (.call (.glob "_law_put" (.ref 374)) (.cons (.var "root") (.cons (.var "way") (.cons (.list (.cons (.call (.glob "_law_box" (.ref 348)) (.cons (.var "axis") (.cons (.var "pair") .nil))) .nil)) .nil))))) .nil)))))))))}
noncomputable def cH:Fn:={params:= ["root","nth","starred"],body:=(.cons (.unpack [(.name "own"),(.name "way")] (.item (.call (.glob "_law_leaves" (.ref 341)) (.cons (.var "root") .nil)) (.var "nth"))) (.cons (.ite (.boolop false (.neNil true (.var "way")) (.cmp .eq (.item (.var "own") (.cst (.str (Str.ofString "number")))) (.var "starred"))) (.cons (.ret (.cst .none)) .nil) .nil) (.cons (.unpack [(.name "around"),(.name "at")] (.item (.var "way") (.neg (.cst (.int 1))))) (.cons (.multi [(.name "other"),(.name "axis")] (.cons (.item (.item (.var "around") (.cst (.str (Str.ofString "parts")))) (.ite (.cmp .gt (.var "at") (.cst (.int 0))) (.bin .sub (.var "at") (.cst (.int 1))) (.cst (.int 1)))) (.cons (.item (.var "around") (.cst (.str (Str.ofString "sort")))) .nil))) (.cons (.assign (.name "some") (.ite (.neNil false (.item (.var "other") (.cst (.str (Str.ofString "parts"))))) (.item (.var "other") (.cst (.str (Str.ofString "parts")))) (.list (.cons (.var "other") .nil)))) (.cons (.ite (.neNil false (.compIf "part" (Str.ofString "sort") (Str.ofString "leaf") (.var "some"))) (.cons (.ret (.cst .none)) .nil) .nil) (.cons (.assign (.name "size") (.bin .add (.call (.glob "_law_size" (.ref 360)) (.cons (.var "other") (.cons (.var "axis") .nil))) (.item (.var "own") (.var "axis")))) (.cons (.expr (.bm .popAt (.item (.var "around") (.cst (.str (Str.ofString "parts")))) (.cons (.var "at") .nil))) (.cons (.for "part" (.var "some") (.cons (.assign (.item (.var "part") (.var "axis")) (.var "size")) .nil)) (.cons (.ite (.cmp .gt (.len (.item (.var "around") (.cst (.str (Str.ofString "parts"))))) (.cst (.int 1))) (.cons (.ret (.var "root")) .nil) .nil) (.cons (.assign (.name "is_merged") (.boolop true (.cmp .gt (.len (.var "way")) (.cst (.int 1))) (.cmp .eq (.item (.item (.item (.var "way") (.neg (.cst (.int 2)))) (.cst (.int 0))) (.cst (.str (Str.ofString "sort")))) (.item (.var "other") (.cst (.str (Str.ofString "sort"))))))) (.cons (.ret (.call (.glob "_law_put" (.ref 374)) (.cons (.var "root") (.cons (.init (.var "way")) (.cons (.ite (.var "is_merged") (.item (.var "other") (.cst (.str (Str.ofString "parts")))) (.list (.cons (.var "other") .nil))) .nil))))) .nil))))))))))))}
noncomputable def dm:Fn:={params:= ["tree","root","deck","number"],body:=(.cons (.multi [(.name "nth"),(.name "way")] (.cons (.call (.glob "_law_draw" (.ref 334)) (.cons (.var "deck") (.cons (.len (.call (.glob "leaves" (.ref 196)) (.cons (.var "tree") .nil))) .nil))) (.cons (.call (.glob "_law_draw" (.ref 334)) (.cons (.var "deck") (.cons (.cst (.int 4)) .nil))) .nil))) (.cons (.assign (.name "size") (.item (.list (.cons (.cst .none) (.cons (.bin .add (.cst (.int 3)) (.call (.glob "_law_draw" (.ref 334)) (.cons (.var "deck") (.cons (.cst (.int 9)) .nil)))) (.cons (.bin .sub (.neg (.cst (.int 2))) (.call (.glob "_law_draw" (.ref 334)) (.cons (.var "deck") (.cons (.cst (.int 9)) .nil)))) .nil)))) (.call (.glob "_law_draw" (.ref 334)) (.cons (.var "deck") (.cons (.cst (.int 3)) .nil))))) (.cons (.assign (.name "due") (.call (.glob "_law_split" (.ref 381)) (.cons (.var "root") (.cons (.var "nth") (.cons (.var "size") (.cons (.item (.list (.cons (.cst (.str (Str.ofString "column"))) (.cons (.cst (.str (Str.ofString "row"))) .nil))) (.bin .fdiv (.var "way") (.cst (.int 2)))) (.cons (.cmp .eq (.bin .mod (.var "way") (.cst (.int 2))) (.cst (.int 1))) (.cons (.var "number") .nil)))))))) (.cons (.tryS (.call (.item (.list (.cons (.glob "split_below" (.ref 282)) (.cons (.glob "split_above" (.ref 290)) (.cons (.glob "split_right" (.ref 298)) (.cons (.glob "split_left" (.ref 306)) .nil))))) (.var "way")) (.cons (.var "tree") (.cons (.item (.call (.glob "leaves" (.ref 196)) (.cons (.var "tree") .nil)) (.var "nth")) (.cons (.var "size") .nil)))) "root" "due") (.cons (.ret (.var "due")) .nil)))))}
noncomputable def c9:Fn:={params:= ["tree","root","deck","way","starred"],body:=(.cons (.assign (.name "nth") (.call (.glob "_law_draw" (.ref 334)) (.cons (.var "deck") (.cons (.len (.call (.glob "leaves" (.ref 196)) (.cons (.var "tree") .nil))) .nil)))) (.cons (.multi [(.name "own"),(.name "number")] (.cons (.item (.item (.call (.glob "_law_leaves" (.ref 341)) (.cons (.var "root") .nil)) (.var "nth")) (.cst (.int 0))) (.cons (.item (.call (.glob "leaves" (.ref 196)) (.cons (.var "tree") .nil)) (.var "nth")) .nil))) (.cons (.ite (.cmp .lt (.var "way") (.cst (.int 2))) (.cons (.assign (.name "due") (.call (.glob "_law_gone" (.ref 386)) (.cons (.var "root") (.cons (.var "nth") (.cons (.var "starred") .nil))))) (.cons (.ite (.isNone false (.var "due")) (.cons (.expr (.call (.glob "delete_window" (.ref 327)) (.cons (.var "tree") (.cons (.var "number") .nil)))) (.cons (.ret (.tuple (.cons (.var "due") (.cons (.var "starred") .nil)))) .nil)) .nil) .nil)) (.cons (.ite (.cmp .eq (.var "way") (.cst (.int 2))) (.cons (.expr (.meth 164 147 (.var "tree") "select" (.cons (.var "number") .nil))) (.cons (.ret (.tuple (.cons (.var "root") (.cons (.item (.var "own") (.cst (.str (Str.ofString "number")))) .nil)))) .nil)) (.cons (.assign (.item (.var "own") (.cst (.str (Str.ofString "buffer")))) (.bin .add (.cst (.int 1)) (.call (.glob "_law_draw" (.ref 334)) (.cons (.var "deck") (.cons (.cst (.int 4)) .nil))))) (.cons (.expr (.meth 93 90 (.meth 164 133 (.var "tree") "leaf" (.cons (.var "number") .nil)) "show" (.cons (.tuple (.cons (.item (.var "own") (.cst (.str (Str.ofString "buffer")))) (.cons (.cst (.int 1)) (.cons (.cst (.int 1)) (.cons (.cst (.int 0)) .nil))))) .nil))) .nil))) .nil)) (.cons (.ret (.tuple (.cons (.var "root") (.cons (.var "starred") .nil)))) .nil))))}
noncomputable def f_law:MSs:=(.cons (.multi [(.name "wide"),(.name "high")] (.cons (.bin .add (.cst (.int 20)) (.call (.glob "_law_draw" (.ref 334)) (.cons (.var "deck") (.cons (.cst (.int 60)) .nil)))) (.cons (.bin .add (.cst (.int 10)) (.call (.glob "_law_draw" (.ref 334)) (.cons (.var "deck") (.cons (.cst (.int 40)) .nil)))) .nil))) (.cons (.multi [(.name "tree"),(.name "root"),(.name "starred")] (.cons (.new 164 112 "WindowTree" (.cons (.var "wide") (.cons (.var "high") (.cons (.cst (.int 1)) (.cons (.cst (.int 3)) (.cons (.cst (.int 2)) .nil)))))) (.cons (.call (.glob "_law_leaf" (.ref 355)) (.cons (.var "wide") (.cons (.var "high") (.cons (.cst (.int 1)) (.cons (.cst (.int 0)) .nil))))) (.cons (.cst (.int 0)) .nil)))) (.cons (.forRange "lap" (.cons (.bin .add (.cst (.int 1)) (.call (.glob "_law_draw" (.ref 334)) (.cons (.var "deck") (.cons (.cst (.int 8)) .nil)))) .nil) (.cons (.assign (.name "way") (.call (.glob "_law_draw" (.ref 334)) (.cons (.var "deck") (.cons (.cst (.int 8)) .nil)))) (.cons (.ite (.cmp .lt (.var "way") (.cst (.int 4))) (.cons (.assign (.name "root") (.call (.glob "_law_is_split" (.ref 393)) (.cons (.var "tree") (.cons (.var "root") (.cons (.var "deck") (.cons (.bin .add (.var "lap") (.cst (.int 1))) .nil)))))) .nil) (.cons (.unpack [(.name "root"),(.name "starred")] (.call (.glob "_law_other" (.ref 400)) (.cons (.var "tree") (.cons (.var "root") (.cons (.var "deck") (.cons (.bin .sub (.var "way") (.cst (.int 4))) (.cons (.var "starred") .nil))))))) .nil)) (.cons (.ite (.boolop false (.isNone true (.var "root")) (.cmp .ne (.call (.glob "layout_text" (.ref 224)) (.cons (.var "tree") .nil)) (.bin .add (.bm .join (.cst (.str (Str.ofString "\n"))) (.cons (.call (.glob "_law_lines" (.ref 367)) (.cons (.var "root") (.cons (.cst (.int 0)) (.cons (.cst (.int 0)) (.cons (.cst (.int 0)) (.cons (.var "starred") .nil)))))) .nil)) (.cst (.str (Str.ofString "\n")))))) (.cons (.ret (.cst (.bool false))) .nil) .nil) .nil)))) (.cons (.ret (.cst (.bool true))) .nil))))
noncomputable def tabL:List (Addr×Fn):= [(55,f_Window_init),(62,f_Window_size),(69,f_Window_set_size),(83,f_Window_shown),(90,f_Window_show),(112,f_WindowTree_init),(119,f_WindowTree_fresh),(126,f_WindowTree_window),(133,f_WindowTree_leaf),(140,f_WindowTree_touch),(147,f_WindowTree_select),(154,f_WindowTree_least_leaf),(175,f_along),(182,f_sort_along),(189,f_leaves_under),(196,f_leaves),(203,f_windows_under),(210,f_replace_child),(217,f_forget),(224,f_layout_text),(229,f_least_size),(239,f_set_tree_size),(246,f_set_places),(253,f_split_parts),(260,f_combined),(267,f_split),(274,f_joined),(282,f_split_below),(290,f_split_above),(298,f_split_right),(306,f_split_left),(313,f_lifted),(320,f_most_recent),(327,cG),(334,f__law_draw),(341,f__law_leaves),(348,f__law_box),(355,f__law_leaf),(360,f__law_size),(367,f__law_lines),(374,f__law_put),(381,b7),(386,cH),(393,dm),(400,c9)]
noncomputable def tab(a:Addr):Option Fn:=tabL.lookup a
end
section
open PySem PySem.W PySem.Calls PyProof.Rows PySem.Spec
theorem c_f_Window_init:∀P,aU (KK P) 55 f_Window_init=true:=by intro P;kernel_rfl
theorem c_f_Window_size:∀P,aU (KK P) 62 f_Window_size=true:=by intro P;kernel_rfl
theorem c_f_Window_set_size:∀P,aU (KK P) 69 f_Window_set_size=true:=by intro P;kernel_rfl
theorem c_f_Window_shown:∀P,aU (KK P) 83 f_Window_shown=true:=by intro P;kernel_rfl
theorem c_f_Window_show:∀P,aU (KK P) 90 f_Window_show=true:=by intro P;kernel_rfl
theorem c_f_WindowTree_init:∀P,aU (KK P) 112 f_WindowTree_init=true:=by intro P;kernel_rfl
theorem c_f_WindowTree_fresh:∀P,aU (KK P) 119 f_WindowTree_fresh=true:=by intro P;kernel_rfl
theorem c_f_WindowTree_window:∀P,aU (KK P) 126 f_WindowTree_window=true:=by intro P;kernel_rfl
theorem c_f_WindowTree_leaf:∀P,aU (KK P) 133 f_WindowTree_leaf=true:=by intro P;kernel_rfl
theorem c_f_WindowTree_touch:∀P,aU (KK P) 140 f_WindowTree_touch=true:=by intro P;kernel_rfl
theorem c_f_WindowTree_select:∀P,aU (KK P) 147 f_WindowTree_select=true:=by intro P;kernel_rfl
theorem c_f_WindowTree_least_leaf:∀P,aU (KK P) 154 f_WindowTree_least_leaf=true:=by intro P;kernel_rfl
theorem c_f_along:∀P,aU (KK P) 175 f_along=true:=by intro P;kernel_rfl
theorem c_f_sort_along:∀P,aU (KK P) 182 f_sort_along=true:=by intro P;kernel_rfl
theorem c_f_leaves_under:∀P,aU (KK P) 189 f_leaves_under=true:=by intro P;kernel_rfl
theorem c_f_leaves:∀P,aU (KK P) 196 f_leaves=true:=by intro P;kernel_rfl
theorem c_f_windows_under:∀P,aU (KK P) 203 f_windows_under=true:=by intro P;kernel_rfl
theorem c_f_replace_child:∀P,aU (KK P) 210 f_replace_child=true:=by intro P;kernel_rfl
theorem c_f_forget:∀P,aU (KK P) 217 f_forget=true:=by intro P;kernel_rfl
theorem c_f_layout_text:∀P,aU (KK P) 224 f_layout_text=true:=by intro P;kernel_rfl
theorem c_f_least_size:∀P,aU (KK P) 229 f_least_size=true:=by intro P;kernel_rfl
theorem c_f_set_tree_size:∀P,aU (KK P) 239 f_set_tree_size=true:=by intro P;kernel_rfl
theorem c_f_set_places:∀P,aU (KK P) 246 f_set_places=true:=by intro P;kernel_rfl
theorem c_f_split_parts:∀P,aU (KK P) 253 f_split_parts=true:=by intro P;kernel_rfl
theorem c_f_combined:∀P,aU (KK P) 260 f_combined=true:=by intro P;kernel_rfl
theorem c_f_split:∀P,aU (KK P) 267 f_split=true:=by intro P;kernel_rfl
theorem c_f_joined:∀P,aU (KK P) 274 f_joined=true:=by intro P;kernel_rfl
theorem c_f_split_below:∀P,aU (KK P) 282 f_split_below=true:=by intro P;kernel_rfl
theorem c_f_split_above:∀P,aU (KK P) 290 f_split_above=true:=by intro P;kernel_rfl
theorem c_f_split_right:∀P,aU (KK P) 298 f_split_right=true:=by intro P;kernel_rfl
theorem c_f_split_left:∀P,aU (KK P) 306 f_split_left=true:=by intro P;kernel_rfl
theorem c_f_lifted:∀P,aU (KK P) 313 f_lifted=true:=by intro P;kernel_rfl
theorem c_f_most_recent:∀P,aU (KK P) 320 f_most_recent=true:=by intro P;kernel_rfl
theorem c_f_delete_window:∀P,aU (KK P) 327 cG=true:=by intro P;kernel_rfl
theorem c_f__law_draw:∀P,aU (KK P) 334 f__law_draw=true:=by intro P;kernel_rfl
theorem c_f__law_leaves:∀P,aU (KK P) 341 f__law_leaves=true:=by intro P;kernel_rfl
theorem c_f__law_box:∀P,aU (KK P) 348 f__law_box=true:=by intro P;kernel_rfl
theorem c_f__law_leaf:∀P,aU (KK P) 355 f__law_leaf=true:=by intro P;kernel_rfl
theorem c_f__law_size:∀P,aU (KK P) 360 f__law_size=true:=by intro P;kernel_rfl
theorem c_f__law_lines:∀P,aU (KK P) 367 f__law_lines=true:=by intro P;kernel_rfl
theorem c_f__law_put:∀P,aU (KK P) 374 f__law_put=true:=by intro P;kernel_rfl
theorem c_f__law_split:∀P,aU (KK P) 381 b7=true:=by intro P;kernel_rfl
theorem c_f__law_gone:∀P,aU (KK P) 386 cH=true:=by intro P;kernel_rfl
theorem c_f__law_is_split:∀P,aU (KK P) 393 dm=true:=by intro P;kernel_rfl
theorem c_f__law_other:∀P,aU (KK P) 400 c9=true:=by intro P;kernel_rfl
end
section
open PySem PySem.W PySem.Calls PyProof.Rows PySem.Spec
open Builtin Builtin.ObjectAttr
noncomputable abbrev bmX:List Value:= [.type "Exception", .type "BaseException", .type "object"]
noncomputable abbrev ox38:Obj:=excClassObj (Str.ofString "LispSignal") (Str.ofString "LispSignal") 38 37 [.type "Exception"] bmX true [] [] false none none (some (.ref 22)) none (some (kS "LispSignal" 196)) (some (kS "LispSignal" 204)) (some (.bool true)) "Exception.__new__"
noncomputable def esX(K:Frag):Array DictEntry:=match K.lookup 37 with
 |some ⟨_,_, .dict es _,_⟩=>es
 |_=> #[]
noncomputable def isSk(v:Value):Bool:=match v with
 | .str _ _=>true
 |_=>false
theorem isSk_of{v:Value}(h:isSk v=true):∃n t,v= .str n t:=by
 unfold isSk at h
 split at h
 ·exact⟨_,_,rfl⟩
 ·exact absurd h ff
structure ExcK(K:Frag):Prop where
 cls:K.lookup 38=some ox38
 o37:K.lookup 37=some {cls:= .type "dict",data:= .dict (esX K) 3}
 keys:((esX K).toList.all fun e=>isSk e.key)=true
 n1:nsFind (esX K) "__init__"=some (.ref 35)
 n2:nsFind (esX K) "__setattr__"=none
 n3:nsFind (esX K) "symbol"=none
 n4:nsFind (esX K) "data"=none
 fn:typeIn K (.ref 35)=some (.type "function")
 set:findIn K (.ref 38) "__setattr__"=some (some (.builtin "object.__setattr__"))
 tak:takerIn K 38 "symbol"=some none
 keep:keepIn K (.ref 38)=true
 kit:exmOne K (.ref 38) (.ref 38)=some true
theorem excK:∀P,ExcK (KK P):=fun P=> ⟨by kernel_rfl,by kernel_rfl,by kernel_rfl,by kernel_rfl,by kernel_rfl,by kernel_rfl,by kernel_rfl,by kernel_rfl,by kernel_rfl,by kernel_rfl,by kernel_rfl,by kernel_rfl⟩
theorem ExcK.ns{K:Frag}(EK:ExcK K):∃o es ep,K.lookup 37=some o∧o.data= .dict es ep∧StrKeys es∧∀name,nsFind es name=nsFind (esX K) name:=
 ⟨_,_,_,EK.o37,rfl,fun e he=>isSk_of (List.all_eq_true.mp EK.keys e (Array.mem_toList_iff.mpr he)),fun _=>rfl⟩
theorem nsK{K:Frag}{h:Heap}{N:Addr}{mN:Str→Option Value}(X:K.In h)(e:∃o es ep,K.lookup N=some o∧o.data= .dict es ep∧StrKeys es∧∀name,nsFind es name=mN name):h.Ns N mN:=by
 refine q25 e fun o es ep h1 h2=> ?_
 exact⟨o,es,ep,X _ _ h1,h2⟩
section
variable{prog:Program}{w:World}{A:Around}{E:Value→Shared→Prop}{s:Shared}{K:Frag}{x:Addr}{name:Str}{v:Value}
theorem osa38{R:Result→Shared→Prop}{o:Obj}{vs:Array Value}{tk:Tok}(X:K.In s.heap)(EK:ExcK K)(ht:takerIn K 38 name=some none)(hx:s.heap.get? x=some o)(hc:o.cls= .ref 38)(hd:o.data= .fields vs)(hdn:o.dict=none)
  (hq:∀h' tk',h'.get? x=some {o with dict:=some s.heap.objs.size}→h'.Ns1 s.heap.objs.size (fun y=>if y=name then some v else none)→(∀b ob,b≠x→s.heap.get? b=some ob→h'.get? b=some ob)→R (.ok (.ret .none)) {s with heap:=h',toks:=tk'}):
  codeAny (model prog w) A (.call (.builtin "object.__setattr__") ⟨[.ref x, .str name tk,v],[]⟩) R s:=by
 have hC0:=EK.cls
 have I:InstAt s.heap x o 38 none:=⟨hx,hc,(by obtain⟨_,_,od,_⟩:=o;dsimp only at hd;rw[hd];rfl),by rw[hdn];trivial⟩
 obtain⟨cd,hcl,hmro,hdict⟩:∃cd,clsIn K 38=some cd∧cd.mro= .ref 38::bmX∧cd.hasDict=true:=⟨_,by unfold clsIn;rw[hC0],rfl,rfl⟩
 have SF:=PySem.F.store_object
 have sub:Looks (model prog w) s.heap (isInstance (.ref x) (.type "object")) true:=I.type.andThen (looks_mroIn X (by unfold mroIn;rw[hcl,Option.bind_some,hmro];decide+kernel))
 refine codeAny_call_builtin SF.slot.plain SF.entry (@check_slot (model prog w) _ _ _ "object.__setattr__" "object" "__setattr__" (.ref x) [.str name tk,v] [] _ SF.kind SF.split sub (SF.args (.ref x) (.str name tk) v) ?_)
 refine q17 (Option.bind_eq_some_iff.mp ht) fun attr ha hr=> ?_
 have hm:Looks (model prog w) s.heap (mroOf (.ref 38)) (.ref 38::bmX):=hmro▸(looks_clsIn X hcl).andThen .now
 have L3:Looks (model prog w) s.heap (storeTaker? attr) none:=by
  cases attr with
  |none=>exact .now
  |some a=>
   refine q17 (Option.map_eq_some_iff.mp hr) fun b hb hb'=> ?_
   refine(looks_takesIn X hb).andThen ?_
   cases b with
   |false=>exact .now
   |true=>exact absurd hb'.symm nn
 rw[osa_eq,refuse_eq]
 refine wpAny_bind (wpAny_bind (I.type.here (wpAny_bind (hm.here ?_))))
 rw[refuseLoop_ref,PySem.F.store_Exception.passes]
 refine wpAny_pure (wpAny_bind (I.type.here (wpAny_bind ((looks_findIn X ha).here (wpAny_bind (L3.here ?_))))))
 obtain⟨h,g,d,t,os⟩:=s
 obtain⟨oc,od,odt,osl⟩:=o
 dsimp only at hc hd hdn hx hq X hcl
 subst hc hd hdn
 have hx₁:(h.push {cls:= .type "dict",data:= .dict #[]}).get? x=some _:=Heap.get?_push_of_some _ hx
 have hxs:x≠h.objs.size:=Nat.ne_of_lt (Heap.lt_size hx)
 refine wpAny_bind (wpAny_pure (wpAny_bind (wpAny_bind (wpAny_loadPart hx (wpAny_bind ((looks_clsIn X hcl).here ?_))))))
 rw[hdict]
 refine wpAny_bind (wpAny_alloc' ?_)
 refine wpAny_bind (wpAny_update' hx₁ ?_)
 refine wpAny_pure (a:=some h.objs.size) ?_
 have hgd:((h.push {cls:= .type "dict",data:= .dict #[]}).update x fun o=> {cls:=o.cls,dict:=some h.objs.size,data:=o.data,slots:=o.slots}).get? h.objs.size
   =some {cls:= .type "dict",data:= .dict #[]}:=
  (Heap.get?_update_ne _ _ _ _ hxs.symm).trans (Heap.get?_push_at rfl rfl)
 have hnd:((h.push {cls:= .type "dict",data:= .dict #[]}).update x fun o=> {cls:=o.cls,dict:=some h.objs.size,data:=o.data,slots:=o.slots}).Ns h.objs.size (fun u_=>none):=
  ⟨_,#[],_,hgd,rfl,fun e he=>absurd he (by simp),fun u_=>rfl⟩
 show wpAny _ _ (storeInDict h.objs.size (.str name _) name v) _ _ _
 unfold storeInDict newKeyGuard
 refine wpAny_bind (wpAny_pure (wpAny_bind (wpAny_nsSet1 (Heap.Ns1.of_empty hnd) fun h' hn' hs=> ?_)))
 refine q42 (hn'.count (Within.cons name v Within.nil)) fun oD esD epD hoD hdD hcD=> ?_
 refine wpAny_bind (wpAny_lookBehind hoD (by rw[hdD];exact pastItsLine_dict (Nat.le_trans hcD (by rw[List.length_cons,List.length_nil,sizeLine_eq];lia))) ?_)
 have hx':h'.get? x=some {cls:= .ref 38,dict:=some h.objs.size,data:= .fields vs,slots:=osl}:=
  (hs.2 x hxs).trans (Heap.get?_update_self _ hx₁ rfl)
 exact wpAny_pure (hq h' _ hx' hn' fun b ob hbx hb=> (hs.2 b (Nat.ne_of_lt (Heap.lt_size hb))).trans ((Heap.get?_update_ne _ _ _ _ hbx).trans (Heap.get?_push_of_some _ hb)))
theorem first_store{Q:Unit→Shared→Prop}{o:Obj}{vs:Array Value}(X:K.In s.heap)(EK:ExcK K)(ht:takerIn K 38 name=some none)(hx:s.heap.get? x=some o)(hc:o.cls= .ref 38)(hd:o.data= .fields vs)(hdn:o.dict=none)
  (hq:∀h' tk',h'.get? x=some {o with dict:=some s.heap.objs.size}→h'.Ns1 s.heap.objs.size (fun y=>if y=name then some v else none)→(∀b ob,b≠x→s.heap.get? b=some ob→h'.get? b=some ob)→Q () {s with heap:=h',toks:=tk'}):
  wpAny (model prog w) A (setAttr (.ref x) name v) Q E s:=
 have I:InstAt s.heap x o 38 none:=⟨hx,hc,(by obtain⟨_,_,od,_⟩:=o;dsimp only at hd;rw[hd];rfl),by rw[hdn];trivial⟩
 set_plain X I EK.set (osa38 (s:={s with toks:=s.toks+1}) X EK ht hx hc hd hdn fun h' tk' a b c=>hq h' tk' a b c)
end
theorem noData:typeLookup (.type "Exception") "data"=pure none:=by rw[typeLookup_type,builtinLookup_eq_fast];kernel_rfl
end
section
open PySem PySem.W PySem.Calls PyProof.Rows PySem.Spec
noncomputable def fn35:Fn:={params:= ["self","symbol","data"],body:= .cons .dead .nil}
noncomputable def asg35(cs:Scope)(x:String)(s:Stmt):Bool:=onAssign s false fun ts v u_=>on1 ts false fun t=>onAt t (Str.ofString x) fun o u_=>onNm o (Str.ofString "self") fun _=>onNm v (Str.ofString x) fun _=>isL cs (Str.ofString x)
@[elab_as_elim]theorem asg35_elim{P:Stmt→Prop}{cs:Scope}{x:String}{s:Stmt}(h:asg35 cs x s=true)(k:∀p1 p2 p3 q,cs.names.lookup (Str.ofString x)=some .local→P (.Assign [.Attribute (.Name (Str.ofString "self") p1) (Str.ofString x) p2] (.Name (Str.ofString x) p3) q)):P s:=by
 refine onAssign_elim h ff fun ts v q h=> ?_
 refine on1_elim h ff fun t h=> ?_
 refine onAt_elim h fun o p2 h=> ?_
 refine onNm_elim h fun p1 h=> ?_
 exact onNm_elim h fun p3 h=>k p1 p2 p3 q (beq_iff_eq.mp h)
noncomputable def body35(cs:Scope)(l:List Stmt):Bool:=isL cs (Str.ofString "self") && on2 l false fun s1 s2=>asg35 cs "symbol" s1 && asg35 cs "data" s2
@[elab_as_elim]theorem body35_elim{P:List Stmt→Prop}{cs:Scope}{l:List Stmt}(h:body35 cs l=true)(k:∀p1 p2 p3 q p1' p2' p3' q',cs.names.lookup (Str.ofString "self")=some .local→cs.names.lookup (Str.ofString "symbol")=some .local→cs.names.lookup (Str.ofString "data")=some .local→
  P [.Assign [.Attribute (.Name (Str.ofString "self") p1) (Str.ofString "symbol") p2] (.Name (Str.ofString "symbol") p3) q, .Assign [.Attribute (.Name (Str.ofString "self") p1') (Str.ofString "data") p2'] (.Name (Str.ofString "data") p3') q']):P l:=by
 refine band h fun l1 h=> ?_
 refine on2_elim h ff fun s1 s2 h=> ?_
 refine band h fun h1 h2=> ?_
 refine asg35_elim h1 fun p1 p2 p3 q l2=> ?_
 exact asg35_elim h2 fun p1' p2' p3' q' l3=>k p1 p2 p3 q p1' p2' p3' q' (beq_iff_eq.mp l1) l2 l3
noncomputable def chk35(K:Frag):Bool:=match fdOf K 35 with
 |some fd=>body35 fd.scope (bodyOf fd.body)
 |none=>false
theorem chk35_KK:∀P,chk35 (KK P)=true:=by intro P;kernel_rfl
theorem c_fn35:∀P,aU (KK P) 35 fn35=true:=by intro P;kernel_rfl
section
variable{prog:Program}{w:World}{A:Around}{E:Value→Shared→Prop}{s:Shared}{cn:Str}{cs:Scope}{L a x:Addr}{ccd u:Value}{cl:List (Str×Addr)}{h₀:Heap}{m:Str→Option Value}
theorem assign_attr{y n v:Str}{p1 p2 p3 q:Pos}{Q:Flow→Shared→Prop}(F:Fr h₀ L s.heap m)(hy:m y=some (.ref x))(hv:m v=some u)(hk:cs.kind= .function)(ly:cs.names.lookup y=some .local)(lv:cs.names.lookup v=some .local)
  (hy':(y==("__debug__":Str))=false) (hv':(v==("__debug__":Str))=false) (h:wpAny (model prog w) A (setAttr (.ref x) n u) (fun u_ s'=>Q .next s') E s):
  wpAny (model prog w) A (exec (.Assign [.Attribute (.Name y p1) n p2] (.Name v p3) q) (envX cn cs L a ccd cl)) Q E s:=by
 rw[arm_exec_Assign]
 refine wpAny_bind (wpAny_standAt (wpAny_bind (wpAny_of_eq (show swapsWithSole [.Attribute (.Name y p1) n p2] (.Name v p3) q.line (envX cn cs L a ccd cl)=pure false from swapsSole (value:= .Name v p3) rfl _ _ _) ?_)))
 rw[if_neg (by decide)]
 refine wpAny_bind (nameX_L F hv ?_ hk lv hv')
 refine wpAny_bind (wpAny_of_eq (show swappedStores [.Attribute (.Name y p1) n p2] (.Name v p3) (envX cn cs L a ccd cl)=pure none from rfl) ?_)
 show wpAny _ _ (do assign (.Attribute (.Name y p1) n p2) (envX cn cs L a ccd cl) u;pure .next) Q E s
 rw[assign_Attribute]
 refine wpAny_bind (wpAny_bind (wpAny_holding (nameX_L F hy ?_ hk ly hy')))
 refine wpAny_bind (wpAny_standAt (wpAny_bind (wpAny_holding (wpAny_mono h (fun u_ s' h'=> ?_) fun u_ u_ z=>z))))
 exact PyProof.Rows.wpAny_release' (wpAny_pure h')
end
section
variable{f:Fm}{d:Nat}{ρ:ao}{μ:MH}{s:Shared}{A:Around}{x:Addr}{R:Result→Shared→Prop}
theorem call35(ok:f.Ok d)(S:St f ρ μ s)(FF:FnFact f.K 35 fn35)(hb:body35 FF.scope FF.body=true)(EK:ExcK f.K)(hA:A.depth < recursionLimit){ox:Obj}{vs:Array Value}{u1 u2:Value}
  (hx:s.heap.get? x=some ox) (hc:ox.cls= .ref 38) (hd:ox.data= .fields vs) (hdn:ox.dict=none) (hn0:f.h₀.get? x=none)
  (hR:∀h' tk' ox',(∀b o,b≠x→s.heap.get? b=some o→h'.get? b=some o)→h'.get? x=some ox'→ox'.cls= .ref 38→ox'.data= .fields vs→R (.ok (.ret .none)) {s with heap:=h',toks:=tk'}):
  codeAny (model pw f.w) A (.call (.ref 35) ⟨[.ref x,u1,u2],[]⟩) R s:=by
 refine S.heapE fun m0 news F N l Rp kp es=> ?_
 refine q8 ok.top fun p' loose mean mg mb T=> ?_
 have X:=S.kin ok
 have bk:((fn35.params.map Str.ofString).zip [.ref x,u1,u2]).map (·.1)=fn35.params.map Str.ofString:=rfl
 have kindOf:∀y∈(fn35.params.map Str.ofString).zip [.ref x,u1,u2],FF.scope.names.lookup y.1=some .local∨FF.scope.names.lookup y.1=some .cell:=fun y hy=>by
  have hm:y.1∈fn35.params.map Str.ofString:=by rw[←bk];exact List.mem_map_of_mem hy
  refine q17 (List.mem_map.mp hm) fun z hz e=> ?_
  have:=List.all_eq_true.mp FF.kinds z hz
  rw[←e]
  exact isLoc2_of this
 refine codeAny_call_function hA (X _ _ FF.look) rfl FF.co FF.gen rfl (codeRec_of X FF.code) (FF.bind s [.ref x,u1,u2] X rfl _ _ _ _ ?_)
 refine wpAny_newFunctionEnv_cells FF.kind (fun y hy=> (kindOf y hy).imp id fun q=> ⟨q,cellsFrom_some _ _ _ (.inl q)⟩) fun env' he s' xx=> ?_
 subst he
 refine⟨(T.nolimit.keeps F.keep).keeps xx.toInCall.keep,codeAny_func ?_⟩
 refine q20 xx.done fun h₁ tk rf2 u_=> ?_
 subst rf2
 have hk₁:=xx.toInCall.keep
 have hC:=EK.cls;have hN:=EK.ns;have n1:=EK.n1;have n2:=EK.n2;have n3:=EK.n3;have n4:=EK.n4
 have hLs:x≠s.heap.objs.size:=Nat.ne_of_lt (Heap.lt_size hx)
 have hC1:h₁.get? 38=_:=hk₁ _ _ (X _ _ hC)
 have hN1:h₁.Ns 37 (nsFind (esX f.K)):=nsK (fun b o e=>hk₁ _ _ (X b o e)) hN
 have hx1:=hk₁ _ _ hx
 have hinK:∀b o,f.K.lookup b=some o→b≠x:=fun b o e q=>by
  have:=ok.kin _ _ e
  rw[q,hn0] at this;exact absurd this nn
 generalize hbd:FF.body=body at hb⊢
 refine body35_elim hb fun p1 p2 p3 qq p1' p2' p3' qq' l1 l2 l3=> ?_
 have Fi:Fr s.heap s.heap.objs.size h₁ _:=⟨xx.toInCall.ns,hk₁,Nat.le_refl _⟩
 have pnd:(((fn35.params.map Str.ofString).zip [.ref x,u1,u2]).map (·.1)).Nodup:=by rw[bk];exact FF.pnd
 refine wpAny_execs_cons (assign_attr Fi (x:=x) (u:=u1) (bindL_mem pnd (.head _) l1) (bindL_mem pnd (.tail _ (.head _)) l2) FF.kind l1 l2 (by decide) (by decide) ?_)
 refine first_store (fun b o e=>hk₁ _ _ (X b o e)) EK EK.tak hx1 hc hd hdn fun h2 tk2 e1 e2 e3=> ?_
 have Fj:Fr s.heap s.heap.objs.size h₁ _:=Fi
 refine q25 Fi.ns fun oL esL epL hoL rL=> ?_
 have F2:Fr (Heap.hide s.heap x) s.heap.objs.size h2 _:=⟨⟨oL,esL,epL,e3 _ _ (Ne.symm hLs) hoL,rL⟩,fun b o e=>by
  by_cases hbx:b=x
  ·replace hbx:=hbx.symm;subst hbx;rw[Heap.hide_self] at e;exact absurd e nn
  ·exact e3 b o hbx (hk₁ b o (Heap.of_hide e)),by rw[Heap.hide_size];exact Nat.le_refl _⟩
 have hC2:h2.get? 38=_:=e3 _ _ (hinK _ _ hC) hC1
 have hN2:h2.Ns 37 (nsFind (esX f.K)):=by
  refine q25 hN fun o es' ep' ho r=> ?_
  exact⟨o,es',ep',e3 _ _ (hinK _ _ ho) (hk₁ _ _ (X _ _ ho)),r⟩
 refine wpAny_execs_cons (assign_attr F2 (x:=x) (u:=u2) (bindL_mem pnd (.head _) l1) (bindL_mem pnd (.tail _ (.tail _ (.head _))) l3) FF.kind l1 l3 (by decide) (by decide) ?_)
 refine store_attr (ns:= ["symbol"]) PySem.F.store_Exception hC2 hN2 n2 n4 noData (hinK _ _ hC).symm ⟨_,e1,hc,(fun c q=>by rw[hd] at q;cases q), .inr ⟨h₁.objs.size,rfl,(Nat.ne_of_lt (Heap.lt_size hx1)).symm,e2⟩⟩ (fun h3 tk3 I3 g1 g2=> ?_) ?_ ?_
 ·refine q40 (g2 _ e1) fun o3 g3 g4 g5 g6 g7=> ?_
  refine wpAny_execs_nil (hR h3 tk3 o3 (fun b o hbx ho=> ?_) g3 (g4.trans hc) (g5.trans hd))
  refine g1 b o hbx (fun o₀ dx q1 q2=> ?_) (e3 b o hbx (hk₁ b o ho))
  rw[e1] at q1;obtain rfl:=Option.some.inj q1;obtain rfl:=Option.some.inj q2
  exact Nat.ne_of_lt (Heap.lt_size (hk₁ b o ho))
 ·intro y hy
  dsimp only at hy
  split at hy
  ·rename_i q;rw[q];exact .head _
  ·exact absurd rfl hy
 ·rw[sizeLine_eq];decide
end
section
variable{f:Fm}{d:Nat}{ρ:ao}{μ:MH}{s:Shared}{E:Value→Shared→Prop}
noncomputable def ExcAt(h:Heap)(e:Addr):Prop:=∃ox vs a0,h.get? e=some ox∧ox.cls= .ref 38∧ox.data= .fields vs∧vs[1]? =some .none∧vs[0]? =some a0
theorem type_call38(ok:f.Ok d)(S:St f ρ μ s)(FF:FnFact f.K 35 fn35)(hb:body35 FF.scope FF.body=true)(EK:ExcK f.K){A:Around}(hA:A.depth < recursionLimit){u1 u2:Value}{rest:List Value}(hr:rest= [u1,u2]){Q:Fin→Shared→Prop}
  (hQ:∀h' tk' e,(∀b o,s.heap.get? b=some o→h'.get? b=some o)→s.heap.get? e=none→ExcAt h' e→Q (.done (.ret (.ref e))) {s with heap:=h',toks:=tk'}):
  wpAny (model pw f.w) A (Builtin.«type.__call__» ⟨.ref 38::rest,[]⟩) Q E s:=by
 have X:=S.kin ok
 have F:=PySem.F.excBase_Exception
 have hC0:=EK.cls;have hN0:=EK.ns;have n1:=EK.n1;have n2:=EK.n2;have n3:=EK.n3;have n4:=EK.n4
 have hC:=X _ _ hC0
 have hn:s.heap.Ns 37 (nsFind (esX f.K)):=nsK X hN0
 have S1:=S.more {cls:= .type "tuple",data:= .seq rest.toArray} rfl
 have S2:=S1.more {cls:= .ref 38,data:= .fields #[.ref s.heap.objs.size, .none, .none, .none, .bool false, .none]} rfl
 have fresh:f.h₀.get? (s.heap.objs.size+1)=none:=by
  refine S.heapE fun m0 news Fr0 u_ u_ u_ u_ u_=> ?_
  cases q:f.h₀.get? (s.heap.objs.size+1) with
  |none=>rfl
  |some o=>exact absurd (Nat.lt_of_succ_lt (Heap.lt_size (Fr0.keep _ _ q))) (Nat.lt_irrefl _)
 obtain⟨h,g,dd',t,os⟩:=s
 dsimp only at *
 repeat (first |with_reducible refine wpAny_loadPart_at hC ?_ |with_reducible refine wpAny_madeBy_exc hC ?_ |wp_step)
 refine codeAny_call_builtin_code (Code.quiet_builtin _ F.quiet) (wpAny_check_new_sub F hC ?_)
 refine codeAny_exc_new_sub F hC ?_ (by rw[hr];rw[sizeLine_eq];simp)
 show wpAny _ _ _ _ _ _
 have hC₁:=Heap.get?_push_of_some {cls:= .ref 38,data:= .fields #[.ref h.objs.size, .none, .none, .none, .bool false, .none]}
  (Heap.get?_push_of_some {cls:= .type "tuple",data:= .seq rest.toArray} hC)
 have hn₁:((h.push {cls:= .type "tuple",data:= .seq rest.toArray}).push {cls:= .ref 38,data:= .fields #[.ref h.objs.size, .none, .none, .none, .bool false, .none]}).Ns 37 (nsFind (esX f.K)):=
  let⟨o,es,ep,e,r⟩:=hn;⟨o,es,ep,Heap.get?_push_of_some _ (Heap.get?_push_of_some _ e),r⟩
 have hget:((h.push {cls:= .type "tuple",data:= .seq rest.toArray}).push
   {cls:= .ref 38,data:= .fields #[.ref h.objs.size, .none, .none, .none, .bool false, .none]}).get? (h.objs.size+1)=some
   {cls:= .ref 38,data:= .fields #[.ref h.objs.size, .none, .none, .none, .bool false, .none]}:=by heap_get
 have hcC:(Value.ref 38::bmX).contains (.ref 38)=true:=rfl
 unfold isInstance
 repeat (first |with_reducible refine wpAny_loadPart_at hget ?_ |(with_reducible refine wpAny_isSubtype_exc hC₁ ?_;rw[hcC]) |wp_step)
 show wpAny _ _ (typeLookup (.ref 38) _) _ _ _
 refine wpAny_typeLookup_exc hC₁ hn₁ F.mroIs F.init.lookup ?_
 rw[n1]
 have X2:=S2.kin ok
 refine wpAny_holding (wpAny_bind ((bind_fn X2 _ EK.fn).here ?_))
 subst hr
 refine wpAny_bind (wpAny_call (call35 ok S2 FF hb EK hA hget rfl rfl rfl fresh fun h' tk' ox' g1 g2 g3 g4=> ?_))
 wp_walk
 refine hQ h' tk' _ (fun b o hbo=>g1 b o (fun q=> ?_) (Heap.get?_push_of_some _ (Heap.get?_push_of_some _ hbo))) (Heap.get?_none_of_le (Nat.le_succ _)) ⟨ox',_,_,g2,g3,g4,rfl,rfl⟩
 exact absurd (Heap.lt_size hbo) (by rw[q];exact Nat.not_lt.mpr (Nat.le_succ _))
theorem call38(ok:f.Ok d)(S:St f ρ μ s)(FF:FnFact f.K 35 fn35)(hb:body35 FF.scope FF.body=true)(EK:ExcK f.K){u1 u2:Value}{Q:Value→Shared→Prop}
  (hQ:∀h' tk' e,(∀b o,s.heap.get? b=some o→h'.get? b=some o)→s.heap.get? e=none→ExcAt h' e→Q (.ref e) {s with heap:=h',toks:=tk'}):
  wpAny (model pw f.w) f.A (call (.ref 38) [u1,u2]) Q E s:=by
 have hC0:=EK.cls;have hN0:=EK.ns;have n1:=EK.n1;have n2:=EK.n2;have n3:=EK.n3;have n4:=EK.n4
 have hC:=S.kin ok _ _ hC0
 have S':=S
 have hQ':=hQ
 obtain⟨h,g,dd',t,os⟩:=s
 skip
 have f1:=tc_lookup
 have f2:=tc_bind (.ref 38)
 have hT:(⟨h,g,dd',t,os⟩:Shared).TypeIs (.ref 38) "type":=⟨_,hC,rfl⟩
 refine wpAny_call (codeAny_of_tree ?_)
 show wpAny _ _ (callAny (.ref 38) _) _ _ _
 repeat (any_goals (first |assumption |with_reducible refine wpAny_loadPart_at hC ?_ |wp_step))
 refine⟨rfl,?_⟩
 refine codeAny_call_builtin_at (Code.quiet_builtin _ (by decide+kernel)) entry_typeCall (wpAny_check_type_call_sub hC (type_call38 ok S' FF hb EK ?_ rfl fun h' tk' e g1 g2 g3=>hQ' h' tk' e g1 g2 g3))
 have:=ok.depth
 have e:(f.A.under (.builtin "type.__call__" ⟨.ref 38:: [u1,u2],[]⟩)).depth=f.A.depth+1:=depth_under_make _ _ _
 exact Nat.lt_of_le_of_lt (Nat.le_of_eq e) (by lia)
end
noncomputable def bindK(fd:FuncData)(us:List Value):{k:Option (Array Value)→Sem (List (Str×Value)) // bindArgs fd ⟨us,[]⟩=seqItems? fd.defaults >>=k}:=⟨_,rfl⟩
theorem bp{K:Frag}{a:Addr}{ps:List String}{fd:FuncData}{us:List Value}{s:Shared}(h:fdOf K a=some fd)(e:(fdOf K a).map (fun fd=>bindArgs fd ⟨us,[]⟩)=some (pure ((ps.map Str.ofString).zip us))):BindsTo s fd ⟨us,[]⟩ ((ps.map Str.ofString).zip us):=by
 rw[h] at e
 exact BindsTo.of_eq (Option.some.inj e)
noncomputable def itemsOf(K:Frag)(T:Addr):Option (Array Value):=match K.lookup T with
 |some ⟨_,_, .seq its _,_⟩=>some its
 |_=>none
set_option tactic.hygienic true in theorem bind_dflt{K:Frag}{a T:Addr}{ps:List String}{fd:FuncData}{us:List Value}{s:Shared}{items:Array Value}(X:K.In s.heap)(h:fdOf K a=some fd)(hd:(fdOf K a).map (·.defaults)=some (.ref T))(hi:itemsOf K T=some items)
  (e:(fdOf K a).map (fun fd=> (bindK fd us).1 (some items))=some (pure ((ps.map Str.ofString).zip us))):BindsTo s fd ⟨us,[]⟩ ((ps.map Str.ofString).zip us):=by
 rw[h] at e hd
 unfold itemsOf at hi
 split at hi
 ·rename_i c d its n sl hl
  obtain rfl:=Option.some.inj hi
  exact BindsTo.of_defaults (Option.some.inj hd) (X _ _ hl) rfl (bindK fd us).2 (Option.some.inj e)
 ·exact absurd hi nn
@[elab_as_elim]theorem l1{P:List Value→Prop}{us:List Value}(h:us.length=1)(k:∀a,P [a]):P us:=by
 cases us with
 |nil=>cases h
 |cons a r=>cases r with
  |nil=>exact k a
  |cons=>cases h
@[elab_as_elim]theorem l2{P:List Value→Prop}{us:List Value}(h:us.length=2)(k:∀a b,P [a,b]):P us:=by
 cases us with
 |nil=>cases h
 |cons a r=>exact l1 (P:=fun r=>P (a::r)) (Nat.succ.inj h) (k a)
@[elab_as_elim]theorem l3{P:List Value→Prop}{us:List Value}(h:us.length=3)(k:∀a b c,P [a,b,c]):P us:=by
 cases us with
 |nil=>cases h
 |cons a r=>exact l2 (P:=fun r=>P (a::r)) (Nat.succ.inj h) (k a)
@[elab_as_elim]theorem l4{P:List Value→Prop}{us:List Value}(h:us.length=4)(k:∀a b c d,P [a,b,c,d]):P us:=by
 cases us with
 |nil=>cases h
 |cons a r=>exact l3 (P:=fun r=>P (a::r)) (Nat.succ.inj h) (k a)
@[elab_as_elim]theorem l5{P:List Value→Prop}{us:List Value}(h:us.length=5)(k:∀a b c d e,P [a,b,c,d,e]):P us:=by
 cases us with
 |nil=>cases h
 |cons a r=>exact l4 (P:=fun r=>P (a::r)) (Nat.succ.inj h) (k a)
@[elab_as_elim]theorem l6{P:List Value→Prop}{us:List Value}(h:us.length=6)(k:∀a b c d e f,P [a,b,c,d,e,f]):P us:=by
 cases us with
 |nil=>cases h
 |cons a r=>exact l5 (P:=fun r=>P (a::r)) (Nat.succ.inj h) (k a)
@[elab_as_elim]theorem l7{P:List Value→Prop}{us:List Value}(h:us.length=7)(k:∀a b c d e f g,P [a,b,c,d,e,f,g]):P us:=by
 cases us with
 |nil=>cases h
 |cons a r=>exact l6 (P:=fun r=>P (a::r)) (Nat.succ.inj h) (k a)
noncomputable def aZ(P:Params)(a:Addr)(fn:Fn):Prop:=∀(fd:FuncData),fdOf (KK P) a=some fd→∀(s:Shared) (us:List Value),(KK P).In s.heap→us.length=fn.params.length→BindsTo s fd ⟨us,[]⟩ ((fn.params.map Str.ofString).zip us)
theorem b_f_Window_init:∀P,aZ P 55 f_Window_init:=fun P fd h s us X hl=>l4 hl fun u_ u_ u_ u_=>bp h (by kernel_rfl)
theorem b_f_Window_size:∀P,aZ P 62 f_Window_size:=fun P fd h s us X hl=>l2 hl fun u_ u_=>bp h (by kernel_rfl)
theorem b_f_Window_set_size:∀P,aZ P 69 f_Window_set_size:=fun P fd h s us X hl=>l3 hl fun u_ u_ u_=>bp h (by kernel_rfl)
theorem b_f_Window_shown:∀P,aZ P 83 f_Window_shown:=fun P fd h s us X hl=>l1 hl fun u_=>bp h (by kernel_rfl)
theorem b_f_Window_show:∀P,aZ P 90 f_Window_show:=fun P fd h s us X hl=>l2 hl fun u_ u_=>bp h (by kernel_rfl)
theorem b_f_WindowTree_init:∀P,aZ P 112 f_WindowTree_init:=fun P fd h s us X hl=>l6 hl fun u_ u_ u_ u_ u_ u_=>bind_dflt (T:=105) (items:=(itemsOf (KK P) 105).getD #[]) X h (by kernel_rfl) (by kernel_rfl) (by kernel_rfl)
theorem b_f_WindowTree_fresh:∀P,aZ P 119 f_WindowTree_fresh:=fun P fd h s us X hl=>l3 hl fun u_ u_ u_=>bp h (by kernel_rfl)
theorem b_f_WindowTree_window:∀P,aZ P 126 f_WindowTree_window:=fun P fd h s us X hl=>l2 hl fun u_ u_=>bp h (by kernel_rfl)
theorem b_f_WindowTree_leaf:∀P,aZ P 133 f_WindowTree_leaf:=fun P fd h s us X hl=>l2 hl fun u_ u_=>bp h (by kernel_rfl)
theorem b_f_WindowTree_touch:∀P,aZ P 140 f_WindowTree_touch:=fun P fd h s us X hl=>l2 hl fun u_ u_=>bp h (by kernel_rfl)
theorem b_f_WindowTree_select:∀P,aZ P 147 f_WindowTree_select:=fun P fd h s us X hl=>l2 hl fun u_ u_=>bp h (by kernel_rfl)
theorem b_f_WindowTree_least_leaf:∀P,aZ P 154 f_WindowTree_least_leaf:=fun P fd h s us X hl=>l2 hl fun u_ u_=>bp h (by kernel_rfl)
theorem b_f_along:∀P,aZ P 175 f_along:=fun P fd h s us X hl=>l1 hl fun u_=>bp h (by kernel_rfl)
theorem b_f_sort_along:∀P,aZ P 182 f_sort_along:=fun P fd h s us X hl=>l1 hl fun u_=>bp h (by kernel_rfl)
theorem b_f_leaves_under:∀P,aZ P 189 f_leaves_under:=fun P fd h s us X hl=>l2 hl fun u_ u_=>bp h (by kernel_rfl)
theorem b_f_leaves:∀P,aZ P 196 f_leaves:=fun P fd h s us X hl=>l1 hl fun u_=>bp h (by kernel_rfl)
theorem b_f_windows_under:∀P,aZ P 203 f_windows_under:=fun P fd h s us X hl=>l2 hl fun u_ u_=>bp h (by kernel_rfl)
theorem b_f_replace_child:∀P,aZ P 210 f_replace_child:=fun P fd h s us X hl=>l3 hl fun u_ u_ u_=>bp h (by kernel_rfl)
theorem b_f_forget:∀P,aZ P 217 f_forget:=fun P fd h s us X hl=>l2 hl fun u_ u_=>bp h (by kernel_rfl)
theorem b_f_layout_text:∀P,aZ P 224 f_layout_text:=fun P fd h s us X hl=>l1 hl fun u_=>bp h (by kernel_rfl)
theorem b_f_least_size:∀P,aZ P 229 f_least_size:=fun P fd h s us X hl=>l3 hl fun u_ u_ u_=>bp h (by kernel_rfl)
theorem b_f_set_tree_size:∀P,aZ P 239 f_set_tree_size:=fun P fd h s us X hl=>l4 hl fun u_ u_ u_ u_=>bp h (by kernel_rfl)
theorem b_f_set_places:∀P,aZ P 246 f_set_places:=fun P fd h s us X hl=>l1 hl fun u_=>bp h (by kernel_rfl)
theorem b_f_split_parts:∀P,aZ P 253 f_split_parts:=fun P fd h s us X hl=>l4 hl fun u_ u_ u_ u_=>bp h (by kernel_rfl)
theorem b_f_combined:∀P,aZ P 260 f_combined:=fun P fd h s us X hl=>l3 hl fun u_ u_ u_=>bp h (by kernel_rfl)
theorem b_f_split:∀P,aZ P 267 f_split:=fun P fd h s us X hl=>l5 hl fun u_ u_ u_ u_ u_=>bp h (by kernel_rfl)
theorem b_f_joined:∀P,aZ P 274 f_joined:=fun P fd h s us X hl=>l2 hl fun u_ u_=>bp h (by kernel_rfl)
theorem b_f_split_below:∀P,aZ P 282 f_split_below:=fun P fd h s us X hl=>l3 hl fun u_ u_ u_=>bind_dflt (T:=275) (items:=(itemsOf (KK P) 275).getD #[]) X h (by kernel_rfl) (by kernel_rfl) (by kernel_rfl)
theorem b_f_split_above:∀P,aZ P 290 f_split_above:=fun P fd h s us X hl=>l3 hl fun u_ u_ u_=>bind_dflt (T:=283) (items:=(itemsOf (KK P) 283).getD #[]) X h (by kernel_rfl) (by kernel_rfl) (by kernel_rfl)
theorem b_f_split_right:∀P,aZ P 298 f_split_right:=fun P fd h s us X hl=>l3 hl fun u_ u_ u_=>bind_dflt (T:=291) (items:=(itemsOf (KK P) 291).getD #[]) X h (by kernel_rfl) (by kernel_rfl) (by kernel_rfl)
theorem b_f_split_left:∀P,aZ P 306 f_split_left:=fun P fd h s us X hl=>l3 hl fun u_ u_ u_=>bind_dflt (T:=299) (items:=(itemsOf (KK P) 299).getD #[]) X h (by kernel_rfl) (by kernel_rfl) (by kernel_rfl)
theorem b_f_lifted:∀P,aZ P 313 f_lifted:=fun P fd h s us X hl=>l2 hl fun u_ u_=>bp h (by kernel_rfl)
theorem b_f_most_recent:∀P,aZ P 320 f_most_recent:=fun P fd h s us X hl=>l2 hl fun u_ u_=>bp h (by kernel_rfl)
theorem b_f_delete_window:∀P,aZ P 327 cG:=fun P fd h s us X hl=>l2 hl fun u_ u_=>bp h (by kernel_rfl)
theorem b_f__law_draw:∀P,aZ P 334 f__law_draw:=fun P fd h s us X hl=>l2 hl fun u_ u_=>bp h (by kernel_rfl)
theorem b_f__law_leaves:∀P,aZ P 341 f__law_leaves:=fun P fd h s us X hl=>l1 hl fun u_=>bp h (by kernel_rfl)
theorem b_f__law_box:∀P,aZ P 348 f__law_box:=fun P fd h s us X hl=>l2 hl fun u_ u_=>bp h (by kernel_rfl)
theorem b_f__law_leaf:∀P,aZ P 355 f__law_leaf:=fun P fd h s us X hl=>l4 hl fun u_ u_ u_ u_=>bp h (by kernel_rfl)
theorem b_f__law_size:∀P,aZ P 360 f__law_size:=fun P fd h s us X hl=>l2 hl fun u_ u_=>bp h (by kernel_rfl)
theorem b_f__law_lines:∀P,aZ P 367 f__law_lines:=fun P fd h s us X hl=>l5 hl fun u_ u_ u_ u_ u_=>bp h (by kernel_rfl)
theorem b_f__law_put:∀P,aZ P 374 f__law_put:=fun P fd h s us X hl=>l3 hl fun u_ u_ u_=>bp h (by kernel_rfl)
theorem b_f__law_split:∀P,aZ P 381 b7:=fun P fd h s us X hl=>l6 hl fun u_ u_ u_ u_ u_ u_=>bp h (by kernel_rfl)
theorem b_f__law_gone:∀P,aZ P 386 cH:=fun P fd h s us X hl=>l3 hl fun u_ u_ u_=>bp h (by kernel_rfl)
theorem b_f__law_is_split:∀P,aZ P 393 dm:=fun P fd h s us X hl=>l4 hl fun u_ u_ u_ u_=>bp h (by kernel_rfl)
theorem b_f__law_other:∀P,aZ P 400 c9:=fun P fd h s us X hl=>l5 hl fun u_ u_ u_ u_ u_=>bp h (by kernel_rfl)
theorem b_fn35:∀P,aZ P 35 fn35:=fun P fd h s us X hl=>l3 hl fun u_ u_ u_=>bp h (by kernel_rfl)
noncomputable def AllL{α:Type}(Q:α→Prop):List α→Prop
 | []=>True
 |x::r=>Q x∧AllL Q r
theorem allL{α:Type}{Q:α→Prop}:∀{l:List α},AllL Q l→∀{x},x∈l→Q x
 |_,h,_, .head _=>h.1
 |_,h,_, .tail _ m=>allL h.2 m
theorem lookup_in'{α:Type}{x:Addr}{v:α}:∀{l:List (Addr×α)},l.lookup x=some v→(x,v)∈l
 | [],h=>by exact absurd h nn
 |(y,c)::r,h=>by
  rw[List.lookup_cons] at h
  split at h
  ·rename_i q;obtain rfl:=Option.some.inj h;rw[beq_iff_eq.mp q];exact .head _
  ·exact .tail _ (lookup_in' h)
theorem facts:∀P a fn,tab a=some fn→Nonempty (FnFact (KK P) a fn):=by
 intro P a fn h
 refine allL (Q:=fun p=>Nonempty (FnFact (KK P) p.1 p.2)) (l:=tabL) ?_ (lookup_in' h)
 exact⟨aY (c_f_Window_init P) (b_f_Window_init P),aY (c_f_Window_size P) (b_f_Window_size P),aY (c_f_Window_set_size P) (b_f_Window_set_size P),aY (c_f_Window_shown P) (b_f_Window_shown P),aY (c_f_Window_show P) (b_f_Window_show P),aY (c_f_WindowTree_init P) (b_f_WindowTree_init P),aY (c_f_WindowTree_fresh P) (b_f_WindowTree_fresh P),aY (c_f_WindowTree_window P) (b_f_WindowTree_window P),aY (c_f_WindowTree_leaf P) (b_f_WindowTree_leaf P),aY (c_f_WindowTree_touch P) (b_f_WindowTree_touch P),aY (c_f_WindowTree_select P) (b_f_WindowTree_select P),aY (c_f_WindowTree_least_leaf P) (b_f_WindowTree_least_leaf P),aY (c_f_along P) (b_f_along P),aY (c_f_sort_along P) (b_f_sort_along P),aY (c_f_leaves_under P) (b_f_leaves_under P),aY (c_f_leaves P) (b_f_leaves P),aY (c_f_windows_under P) (b_f_windows_under P),aY (c_f_replace_child P) (b_f_replace_child P),aY (c_f_forget P) (b_f_forget P),aY (c_f_layout_text P) (b_f_layout_text P),aY (c_f_least_size P) (b_f_least_size P),aY (c_f_set_tree_size P) (b_f_set_tree_size P),aY (c_f_set_places P) (b_f_set_places P),aY (c_f_split_parts P) (b_f_split_parts P),aY (c_f_combined P) (b_f_combined P),aY (c_f_split P) (b_f_split P),aY (c_f_joined P) (b_f_joined P),aY (c_f_split_below P) (b_f_split_below P),aY (c_f_split_above P) (b_f_split_above P),aY (c_f_split_right P) (b_f_split_right P),aY (c_f_split_left P) (b_f_split_left P),aY (c_f_lifted P) (b_f_lifted P),aY (c_f_most_recent P) (b_f_most_recent P),aY (c_f_delete_window P) (b_f_delete_window P),aY (c_f__law_draw P) (b_f__law_draw P),aY (c_f__law_leaves P) (b_f__law_leaves P),aY (c_f__law_box P) (b_f__law_box P),aY (c_f__law_leaf P) (b_f__law_leaf P),aY (c_f__law_size P) (b_f__law_size P),aY (c_f__law_lines P) (b_f__law_lines P),aY (c_f__law_put P) (b_f__law_put P),aY (c_f__law_split P) (b_f__law_split P),aY (c_f__law_gone P) (b_f__law_gone P),aY (c_f__law_is_split P) (b_f__law_is_split P),aY (c_f__law_other P) (b_f__law_other P),trivial⟩
theorem fact35:∀P,Nonempty (FnFact (KK P) 35 fn35):=fun P=>aY (c_fn35 P) (b_fn35 P)
noncomputable abbrev frs(l:List Env):List Addr:=l.filterMap (·.frame)
noncomputable def FlyX:FlyT:=fun f ρ μ ev s=> ∃news,StN f ρ μ s news∧∃e B a0,ev= .ref e∧f.h₀.StaysIn B∧(∀p∈news,p.1∉frs f.outer→B.get? p.1=some p.2)∧B.StaysIn s.heap∧B.get? e=none∧s.heap.FunFrames B (f.env::f.outer)∧(ExcAt s.heap e∨s.heap.TracedW B e (.ref 38) a0)
section
variable{f:Fm}{d:Nat}{ρ:ao}{μ:MH}{s:Shared}
theorem StN.grow{news:NL}(S:StN f ρ μ s news){h':Heap}{t:Nat}(hk:∀b o,s.heap.get? b=some o→h'.get? b=some o):StN f ρ μ {s with heap:=h',toks:=t} news:=by
 refine q35 S fun h tk m rf3 F N l R k=> ?_
 subst rf3
 exact⟨h',t,m,rfl,F.keeps hk,fun p hp=> ⟨hk _ _ (N p hp).1,(N p hp).2⟩,l,R,k⟩
theorem frs_mem{keep:NL}{outer:List Env}(h:OuterIn outer keep){b:Addr}(hb:b∈frs outer):∃o,(b,o)∈keep∧∃es ep,o.data= .dict es ep:=by
 refine q17 (List.mem_filterMap.mp hb) fun env he hf=> ?_
 refine q33 (h env he) fun u_ L o h2 h3 h4=> ?_
 have:b=L:=by have q:=hf.symm.trans h2;exact Option.some.inj q
 exact⟨o,this▸h3,h4⟩
theorem funFrames_of{h B:Heap}{keep:NL}{news:NL}(hn:∀p∈news,h.get? p.1=some p.2)(k:Kept keep news):∀{outer:List Env},OuterIn outer keep→(∀b∈frs outer,B.get? b=none)→h.FunFrames B outer
 | [],_,_=>trivial
 |env::r,ho,hB=>by
  refine q0 (ho env (.head _)) fun hk w1_=> ?_
  refine q5 w1_ fun L o w2_=> ?_
  refine q2 w2_ fun h2 h3 w3_=> ?_
  refine q5 w3_ fun es ep h4=> ?_
  refine q17 (k _ h3) fun sl hm u_=> ?_
  refine⟨by rw[hk];decide,⟨L,_,h2,hB L (List.mem_filterMap.mpr ⟨env, .head _,h2⟩),hn _ hm,fun vs q=> ?_⟩,funFrames_of hn k (fun e he=>ho e (.tail _ he)) fun b hb=>hB b ?_⟩
  ·have q':o.data= .fields vs:=q
   rw[h4] at q';cases q'
  ·refine q17 (List.mem_filterMap.mp hb) fun e he hf=> ?_
   exact List.mem_filterMap.mpr ⟨e, .tail _ he,hf⟩
theorem fly_raw(ok:f.Ok d)(S:St f ρ μ s){h':Heap}{t:Nat}{e:Addr}(hk:∀b o,s.heap.get? b=some o→h'.get? b=some o)(hn:s.heap.get? e=none)(hx:ExcAt h' e):FlyX f ρ μ (.ref e) {s with heap:=h',toks:=t}:=by
 refine q1 S.n fun news S=> ?_
 refine⟨news,S.grow hk,e,hideAll s.heap (frs (f.env::f.outer)), .none,rfl,?_,?_,?_,?_,?_, .inl hx⟩
 all_goals obtain⟨h,tk,m,rfl,F,N,l,R,k⟩:=S
 ·intro b o hb
  refine hideAll_get _ (F.keep b o hb) fun hm=> ?_
  rcases List.mem_filterMap.mp hm with⟨env,he,hf⟩
  rcases List.mem_cons.mp he with rfl |he
  ·have:f.L=b:=Option.some.inj hf
   subst this
   exact absurd (Nat.lt_of_lt_of_le (Heap.lt_size hb) F.above) (Nat.lt_irrefl _)
  ·refine q17 (frs_mem ok.outs (List.mem_filterMap.mpr ⟨env,he,hf⟩)) fun o' h1 u_=> ?_
   refine q17 (k _ h1) fun sl hm u_=> ?_
   have:=(N _ hm).2.2
   dsimp only at this
   rw[this] at hb;exact absurd hb nn
 ·intro p hp hf
  refine hideAll_get _ (N p hp).1 fun hm=> ?_
  rcases List.mem_filterMap.mp hm with⟨env,he,hf'⟩
  rcases List.mem_cons.mp he with rfl |he
  ·exact(N p hp).2.1 (Option.some.inj hf').symm
  ·exact hf (List.mem_filterMap.mpr ⟨env,he,hf'⟩)
 ·exact fun b o hb=>hk b o (of_hideAll _ hb)
 ·cases q:(hideAll h (frs (f.env::f.outer))).get? e with
  |none=>rfl
  |some o=>have:=of_hideAll _ q;rw[hn] at this;exact absurd this nn
 ·refine q42 F.ns fun oL es ep hL hLd u_=> ?_
  refine⟨?_,⟨f.L,oL,rfl,hideAll_none _ (List.mem_filterMap.mpr ⟨_, .head _,rfl⟩),hk _ _ hL,fun vs q=>by rw[hLd] at q;cases q⟩,funFrames_of (fun p hp=>hk _ _ (N p hp).1) k ok.outs fun b hb=>hideAll_none _ ?_⟩
  ·show f.cs.kind≠_
   rw[ok.kind];decide
  ·refine q17 (List.mem_filterMap.mp hb) fun e he hf=> ?_
   exact List.mem_filterMap.mpr ⟨e, .tail _ he,hf⟩
theorem raise_stmt{A:Around}{E:Value→Shared→Prop}{M:Model}{env:Env}{x:Sem Value}{Q:Flow→Shared→Prop}(EK:ExcK f.K)(hh:A.handled=none)
  (h:wpAny M A x (fun v s₁=> ∃e,v= .ref e∧f.K.In s₁.heap∧ExcAt s₁.heap e∧E (.ref e) s₁) E s):wpAny M A (raiseStmt env (some x) none) Q E s:=by
 have hC0:=EK.cls
 have hcB:(Value.ref 38::bmX).contains (.type "BaseException")=true:=by decide+kernel
 unfold raiseStmt
 refine wpAny_bind (wpAny_mono h (fun v s₁ h₁=> ?_) fun u_ u_ x=>x)
 refine q1 h₁ fun e w1_=> ?_
 refine q2 w1_ fun rf1 X w2_=> ?_
 refine q0 w2_ fun w3_ hE=> ?_
 refine q31 w3_ fun ox vs a0 he hcl hd h1 h0=> ?_
 subst rf1
 have hC:=X _ _ hC0
 obtain⟨hp,g,d,tk,os⟩:=s₁
 obtain⟨oc,od,odt,osl⟩:=ox
 dsimp only at hcl hd hC he
 subst hcl hd
 repeat (first |with_reducible refine wpAny_loadPart_at he ?_ |with_reducible refine wpAny_loadPart_at hC ?_ |(with_reducible refine wpAny_isSubtype_exc hC ?_;rw[hcB]) |wp_step)
 rw[h1]
 refine wpAny_pure ?_
 rw[if_neg (by decide)]
 exact wpAny_pure (wpAny_raiseNew_none hh hE)
theorem x_raise(f:Fm)(d:Nat)(hK:f.K=KK f.w.params)(ok:f.Ok (d+1))(e:Expr)(p:Pos)(h:isRaise f.K f.cs e=true)(ρ:ao)(μ:MH)(s:Shared)(Q:Flow→Shared→Prop)(E:Value→Shared→Prop)(S:St f ρ μ s)
  (hE:∀ev s',FlyX f ρ μ ev s'→E ev s'):wpAny (model pw f.w) f.A (exec (.Raise (some e) none p) f.env) Q E s:=by
 have EK:ExcK f.K:=hK▸excK f.w.params
 obtain⟨FF⟩:Nonempty (FnFact f.K 35 fn35):=hK▸fact35 f.w.params
 have hb:body35 FF.scope FF.body=true:=by
  have h:chk35 f.K=true:=hK▸chk35_KK f.w.params
  unfold chk35 fdOf at h
  rw[FF.look] at h
  exact h
 refine isRaise_elim h fun g a k1 p1 b k2 p2 p3 p4 h=> ?_
 refine onName_elim h ff fun y np h=> ?_
 simp only[Bool.and_eq_true] at h
 refine q7 h fun h1 h2 h3=> ?_
 show wpAny _ _ (do standAt p;raiseStmt f.env (some (do let v←eval _ f.env;standAt p;pure v)) none) Q E s
 refine wpAny_bind (wpAny_standAt (raise_stmt EK ok.handled (wpAny_bind (wpAny_mono (Q:=fun v s₁=> ∃e,v= .ref e∧f.K.In s₁.heap∧ExcAt s₁.heap e∧E (.ref e) s₁) ?_ (fun v s₁ h₁=>wpAny_bind (wpAny_standAt (wpAny_pure h₁))) fun u_ u_ x=>x))))
 refine Call_ (st_glob ok S h1 h2 h3 fun u hu=> ?_) rfl
 subst hu
 have h6:chkEs f.K f.cs (.cons (.cst (.str a)) (.cons (.list (.cons (.cst (.str b)) .nil)) .nil)) [.Constant (.str a) k1 p1, .List [.Constant (.str b) k2 p2] p3]=true:=by
  show((a==a) && (((b==b) && true) && true))=true
  rw[beq_self_eq_true,beq_self_eq_true];rfl
 have ihs:SEs KK FlyX (fun u_ u_ u_ u_ u_=>False) d (.cons (.cst (.str a)) (.cons (.list (.cons (.cst (.str b)) .nil)) .nil)):=ses_cons (se_cst _) (ses_cons (se_list (ses_cons (se_cst _) ses_nil)) ses_nil)
 refine callWith_st (K:=f.K) (plain_args f.env _ h6) ?_
 refine ihs f hK ok _ h6 _ ρ μ s (fun vs μ'=>vs.length=2∧∀b o,μ b=some o→μ' b=some o) (fun u_=>False) _ _ S ?_ (fun us vs μ2 s2 hvs S2 hh=> ⟨⟨S2.kin ok,EK.keep⟩,?_⟩) fun u_ u_ u_ u_ z=>z.elim
 ·refine⟨by show 1 < LIM;decide,fun b hb=> ⟨rfl,fun c o hc=> ?_⟩⟩
  rw[af _ _ (ne_nb hc hb)];exact hc
 ·refine q0 hh fun hl hm=> ?_
  have hul:us.length=2:=(hvs.length.trans hl)
  cases us with |nil=>cases hul |cons u1 us=>cases us with |nil=>cases hul |cons u2 us=>cases us with |cons=>cases hul |nil=>
  refine call38 ok S2 FF hb EK fun h' tk' e g1 g2 g3=> ?_
  exact⟨e,rfl,fun b o q=>g1 b o (S2.kin ok b o q),g3,hE _ _ (fly_raw ok (S2.sub hm) g1 g2 g3)⟩
theorem StN.slots(ok:f.Ok d){news:NL}(S:StN f ρ μ s news){B h':Heap}{t:Nat}(hB:f.h₀.StaysIn B)(hn:∀p∈news,p.1∉frs f.outer→B.get? p.1=some p.2)(hs:B.StaysIn h')(hu:s.heap.UpToSlots h'):
  ∃news',StN f ρ μ {s with heap:=h',toks:=t} news'∧∀p∈news',p.1∉frs f.outer→B.get? p.1=some p.2:=by
 refine q35 S fun h tk m rf3 F N l R k=> ?_
 replace rf3:=rf3.symm;subst rf3
 have frK:∀b∈frs f.outer,b∈f.rs:=fun b hb=>let⟨o,h1,_⟩:=frs_mem ok.outs hb;List.mem_map.mpr ⟨_,h1,rfl⟩
 have frD:∀p∈news,p.1∈frs f.outer→∃es ep,p.2.data= .dict es ep:=fun p hp hf=>by
  refine q1 (frs_mem ok.outs hf) fun o w1_=> ?_
  refine q0 w1_ fun h1 w2_=> ?_
  refine q5 w2_ fun es ep h2=> ?_
  refine q17 (k _ h1) fun sl hm u_=> ?_
  have q:p=(p.1,{o with slots:=sl}):=uniq R.nodup hp hm rfl
  exact⟨es,ep,by rw[q];exact h2⟩
 have at':∀p∈news,∃sl,h'.get? p.1=some {p.2 with slots:=sl}∧(p.1∉frs f.outer→sl=p.2.slots):=fun p hp=>by
  by_cases hf:p.1∈frs f.outer
  ·refine q5 (frD p hp hf) fun es ep hd=> ?_
   obtain⟨sl,hs⟩:=hu p.1 p.2 (N p hp).1 fun vs q=>by rw[hd] at q;cases q
   exact⟨sl,hs,fun q=>absurd hf q⟩
  ·exact⟨p.2.slots,hs _ _ (hn p hp hf),fun u_=>rfl⟩
 have new:∀p∈news,(h'.get? p.1).getD p.2={p.2 with slots:=((h'.get? p.1).getD p.2).slots}:=fun p hp=>by
  refine q17 (at' p hp) fun sl e u_=> ?_
  rw[e];rfl
 have same:∀p∈news,p.1∉frs f.outer→(h'.get? p.1).getD p.2=p.2:=fun p hp hf=>by
  refine q17 (at' p hp) fun sl e e2=> ?_
  rw[e,e2 hf];rfl
 have keys:(news.map fun p=> (p.1,(h'.get? p.1).getD p.2)).map (·.1)=news.map (·.1):=by rw[List.map_map];rfl
 have mem:∀p∈news,p.1∉frs f.outer→p∈news.map fun p=> (p.1,(h'.get? p.1).getD p.2):=fun p hp hf=>List.mem_map.mpr ⟨p,hp,(congrArg _ (same p hp hf))⟩
 refine⟨news.map fun p=> (p.1,(h'.get? p.1).getD p.2),⟨h',t,m,rfl,⟨hu.ns F.ns,fun b o e=>hs _ _ (hB b o e),F.above⟩,fun p hp=> ?_,l.subC fun p hp q=>mem p hp fun hf=> ?_,R.trans (by rw[keys];exact R.nodup) (by rw[keys];exact R.rsin) (fun r hr=> .inl hr) fun p hp hr u_=>mem p hp fun hf=>hr (frK _ hf),fun p hp=> ?_⟩,fun p hp hf=> ?_⟩
 ·refine q17 (List.mem_map.mp hp) fun q hq rf2=> ?_
  subst rf2
  refine q17 (at' q hq) fun sl e u_=> ?_
  refine⟨?_,(N q hq).2⟩
  show h'.get? q.1=some ((h'.get? q.1).getD q.2)
  rw[e];rfl
 ·refine q17 (frs_mem ok.outs hf) fun o h1 u_=> ?_
  exact ok.apart _ h1 q
 ·refine q17 (k p hp) fun sl hm e=> ?_
  refine⟨((h'.get? p.1).getD {p.2 with slots:=sl}).slots,List.mem_map.mpr ⟨_,hm,?_⟩,fun hf=> ?_⟩
  ·have:=new _ hm
   dsimp only at this⊢
   rw[this]
  ·by_cases hfr:p.1∈frs f.outer
   ·refine q5 (frD _ hm hfr) fun es ep hd=> ?_
    exact absurd hd (hf.dict es ep)
   ·have:=same _ hm hfr
    dsimp only at this
    rw[this];exact e hf
 ·refine q17 (List.mem_map.mp hp) fun q hq rf2=> ?_
  subst rf2
  dsimp only at hf⊢
  rw[same q hq hf];exact hn q hq hf
theorem flyLeave:FlyLeave FlyX:=⟨fun f f' d sc ok' ok I ρ ρ' μ ev s Q E back pp_ hQ=>q1 pp_ fun news w1_=>q0 w1_ fun S w2_=>q9 w2_ fun e B a0 w3_=>q43 w3_ fun he hB hn hs hen hfr hx=>by
 subst he
 have fin:∀h',B.StaysIn h'→h'.FunFrames B f'.outer→(∃a0,h'.TracedW B e (.ref 38) a0)→s.heap.UpToSlots h'→Q (.ref e) {s with heap:=h'}:=fun h' g1 g2 pp_ g4=>q1 pp_ fun a1 g3=>by
  refine q17 (S.slots ok' (t:=s.toks) hB hn g1 g4) fun news' S' hn'=> ?_
  refine hQ _ ⟨_,back _ _ _ _ S',e,B,a1,rfl,by rw[←I.h₀];exact hB,fun p hp hf=> ?_,g1,hen,by rw[←I.outer];exact g2, .inr g3⟩
  refine q0 (List.mem_filter.mp hp) fun hp hne=> ?_
  refine hn' p hp fun q=> ?_
  rw[I.outer] at q
  refine q17 (List.mem_filterMap.mp q) fun env hm hf'=> ?_
  rcases List.mem_cons.mp hm with rfl |hm
  ·have:f.L=p.1:=Option.some.inj hf'
   exact of_decide_eq_true hne this.symm
  ·exact hf (List.mem_filterMap.mpr ⟨env,hm,hf'⟩)
 rcases hx with⟨ox,vs,a1,hx,hc,hd,h1,h0⟩ |hx
 ·refine wpAny_leaving_firstW ok'.frames hfr rfl hx hs hen hd h1 h0 fun h' pp_=>q6 pp_ fun g1 g2 g3 g4=>fin h' g1 g2.2.2 ⟨_,hc▸g3⟩ g4
 ·exact wpAny_leaves_onW ok'.frames rfl ⟨hs,hen,hfr,hx⟩ fun h' pp_ g4=>q6 pp_ fun g1 u_ g2 g3=>fin h' g1 g2 ⟨_,g3⟩ g4⟩
end
section
variable{f:Fm}{d:Nat}{ρ:ao}{μ:MH}{s:Shared}{A:Around}{E:Value→Shared→Prop}{Q:Value→Shared→Prop}
set_option tactic.hygienic true in theorem glob38(ok:f.Ok d)(S:St f ρ μ s){y:Str}{p:Pos}(hg:isGlo f.cs y=true)(hd:bQ y=true)(hv:globOk f.K y (.ref 38)=true)(hQ:Q (.ref 38) s):
  wpAny (model pw f.w) A (eval (.Name y p) f.env) Q E s:=by
 refine S.heapE fun m news F N l R k e=> ?_
 refine q8 ok.top fun p' loose mean mg mb T=> ?_
 unfold bQ at hd
 simp only[Bool.and_eq_true,Bool.not_eq_true'] at hd
 exact nameX_K F ok.kin (topRead_of T) (nsRef_inv hv) hQ ok.kind (glo_lookup hg) hd.1
theorem var_any(ok:f.Ok d)(S:St f ρ μ s){x:String}{v:MV}{p:Pos}(h:ρ x=some v)(hd:bQ (Str.ofString x)=true)(hQ:∀u,VR v u→Q u s):
  wpAny (model pw f.w) A (eval (.Name (Str.ofString x) p) f.env) Q E s:=by
 refine S.heapE fun m news F N l R k e=> ?_
 refine q17 (l.1 x v h) fun u hv hl=> ?_
 unfold bQ at hd
 simp only[Bool.and_eq_true,Bool.not_eq_true'] at hd
 rcases hl with⟨h1,h2⟩ |⟨h1,c,o,h2,h3,h4⟩
 ·exact nameX_L F h2 (hQ u hv) ok.kind h1 hd.1
 ·rcases h1 with h1 |h1
  ·exact nameX_C N h2 h3 h4 (hQ u hv) ok.kind h1 hd.1
  ·exact nameX_F N h2 h3 h4 (hQ u hv) ok.kind h1 hd.1 hd.2
theorem suite_any(ok:f.Ok d)(S:St f ρ μ s){x y:String}{v w:MV}(hx:ρ x=some v)(hy:ρ y=some w)(hxd:bQ (Str.ofString x)=true)(hyd:bQ (Str.ofString y)=true){p1 p2 p3 p4 p5 p6 p7:Pos}{k1 k2:Nat}{Q:Flow→Shared→Prop}
  (hQ:∀u,VR (if isNoneV w then v else .none) u→Q (.ret u) s):
  wpAny (model pw f.w) A (execs [.Return (some (.IfExp (.Compare (.Name (Str.ofString y) p1) [.Is] [.Constant .none k1 p2] p3) (.Name (Str.ofString x) p4) (.Constant .none k2 p5) p6)) p7] f.env) Q E s:=by
 refine wpAny_execs_cons (wpAny_Return_some (IfExp_ (wpAny_isTrue_Compare1 (var_any ok S hy hyd fun u hu=>wpAny_Constant_none (PySem.is_none ?_)) rfl)))
 have e:=isNone_VR hu
 rw[e]
 refine wpAny_truthy_bool ?_
 cases hn:isNoneV w
 ·refine wpAny_Constant_none ?_
  have:=hQ .none
  rw[hn] at this
  exact this rfl
 ·refine var_any ok S hx hxd fun u hu=> ?_
  have:=hQ u
  rw[hn] at this
  exact this hu
end
theorem x_catch(f:Fm)(d:Nat)(hK:f.K=KK f.w.params)(ok:f.Ok (d+1))(body:List Stmt)(c:Expr)(x y:String)(p1 p2 p3 p4 p5 p6 p7 p8 p9:Pos)(k1 k2:Nat)(hc:isSignal f.K f.cs c=true)(hx:isLoc f.cs (Str.ofString x)=true)(hxd:bQ (Str.ofString x)=true)(hy:isLoc f.cs (Str.ofString y)=true)(hyd:bQ (Str.ofString y)=true)
  (ρ:ao) (s:Shared) (Q:Flow→Shared→Prop) (E:Value→Shared→Prop)
  (h:wpAny (model pw f.w) f.A (execs body f.env) (fun w s'=>w= .next∧Q .next s') (fun ev s'=> ∃μ v w,FlyX f ρ μ ev s'∧ρ x=some v∧ρ y=some w∧∀u s'',VR (if isNoneV w then v else .none) u→St f ρ μ s''→Q (.ret u) s'') s):
  wpAny (model pw f.w) f.A (exec (.Try body [.ExceptHandler (some c) none [.Return (some (.IfExp (.Compare (.Name (Str.ofString y) p1) [.Is] [.Constant .none k1 p2] p3) (.Name (Str.ofString x) p4) (.Constant .none k2 p5) p6)) p7] p8] [] [] p9) f.env) Q E s:=by
 have EK:ExcK f.K:=hK▸excK f.w.params
 refine wpAny_Try_except (wpAny_mono h (fun w s' pp_=>q0 pp_ fun hw h'=>by rw[hw];exact wpAny_execs_nil h') fun ev s' pp_=>q9 pp_ fun μ v w w1_=>q0 w1_ fun w2_ w3_=>q1 w2_ fun news w4_=>q0 w4_ fun S w5_=>q9 w5_ fun e B a0 w6_=>q43 w6_ fun he hB hn hs hen hfr hx'=>q2 w3_ fun e1 e2 hQ=> ?_)
 rw[he]
 have fin:∀a0 h₄,Heap.HeldW B (f.env::f.outer) e (.ref 38) a0 f.L h₄→s'.heap.UpToSlots h₄→
   wpAny (model pw f.w) f.A (setFlight (.ref e) none) (fun u_ s₃=>wpAny (model pw f.w) f.A (handleBy (.ref e) f.env [.ExceptHandler (some c) none [.Return (some (.IfExp (.Compare (.Name (Str.ofString y) p1) [.Is] [.Constant .none k1 p2] p3) (.Name (Str.ofString x) p4) (.Constant .none k2 p5) p6)) p7] p8]) Q E s₃) E {s' with heap:=h₄}:=fun a0 h₄ hheld hsm=>by
  refine wpAny_landsW hheld fun h₅ hfl hsm₅=> ?_
  refine q17 (S.slots ok (t:=s'.toks) hB hn hfl.1 (hsm.trans hsm₅)) fun n5 S5 u_=> ?_
  refine onName_elim hc ff fun yy np hc=> ?_
  simp only[Bool.and_eq_true] at hc
  refine q7 hc fun g1 g2 g3=> ?_
  have hC0:=EK.cls
  have hC:=S5.st.kin ok _ _ hC0
  refine q17 hfl.there fun ob hob hobc=> ?_
  refine wpAny_handleBy_cons (codeAny_handlers_test (wpAny_mono (glob38 (Q:=fun c s₁=>c= .ref 38∧s₁={s' with heap:=h₅,toks:=s'.toks}) ok S5.st g1 g2 g3 ⟨rfl,rfl⟩) (fun c s₁ h₁=> ?_) fun u_ u_ z=>z)) (by intro q;cases q)
  refine q0 h₁ fun rf0 rf1=> ?_
  rw[rf0]
  rw[rf1]
  refine wpAny_excMatches_sub_self hC hob hobc (by decide+kernel) (codeAny_handlers_suite ?_)
  refine lands_againW hfl fun h₆ hfl₆ hsm₆=> ?_
  refine q17 (S.slots ok (t:=s'.toks) hB hn hfl₆.1 ((hsm.trans hsm₅).trans hsm₆)) fun n6 S6 u_=> ?_
  exact suite_any ok S6.st e1 e2 hxd hyd fun u hu=>hQ u _ hu S6.st
 rcases hx' with⟨ox,vs,a1,hx,hcl,hd,h1,h0⟩ |hx
 ·unfold noteFrame
  refine wpAny_bind (wpAny_field hx hd h1 ?_)
  rw[if_neg (by decide)]
  exact wpAny_entryW ok.frames hfr rfl hx hs hen hd (Array.getElem?_eq_some_iff.mp h1).1 h0 fun h' pp_=>q6 pp_ fun k1 k2 k3 k4=>fin a1 h' ⟨k1,hen,k2,hcl▸k3⟩ k4
 ·exact wpAny_looks_onW ok.frames rfl ⟨hs,hen,hfr,hx⟩ fun h₄ hheld hsm=>fin a0 h₄ hheld hsm
theorem flyOk:FlyOk KK FlyX where
 mono:=fun f A ρ μ ev s u_ h=>h
 raise:=x_raise
 catch_:=x_catch
theorem callOk(k:Nat):CallOk KK FlyX (az tab k) (2 * k):=call_ok flyOk flyLeave facts k
theorem sssOk(k:Nat)(mss:MSs):SSs KK FlyX (az tab k) (2 * k) mss:=sss_all flyOk (callOk k) mss
end
section
open PySem PySem.W PySem.W.X PyProof.Rows
noncomputable def qq:Program:={pw with main:={pw.main with body:=pw.main.body.drop 49}}
noncomputable def looseQ:List Str:=(pw.boundNames).filter fun n=>n !=Str.ofString "law"
noncomputable abbrev hS(w:World)(os:OsState):Shared:=⟨boot_heap w.params,Array.mk [],boot_drawn,boot_toks,os⟩
noncomputable abbrev hA:Option Value:=some (.ref 6)
noncomputable def hN:Env:={scope:=pw.main.scope,locals:=mainNs,globals:=mainNs,cells:= [],code:= .ref 13,frame:=some 14}
noncomputable def hB:List Stmt:=behindTheImports pw
noncomputable abbrev hC:Code:= .body hB hN
noncomputable abbrev hP:Pos:=⟨0,0,0,0⟩
noncomputable def hX(w:World)(os:OsState):Shared:=((topGo treeTable pw w 11 hA 12 (hS w os) (topStub pw)).map (·.1)).getD (hS w os)
noncomputable def treeOf(l:List Obj):BT:=List.rec (motive:=fun _=>Nat→BT→BT) (fun _ t=>t) (fun o _ ih i t=>ih (i+1) (t.ins i o)) l 0 .nil
noncomputable def hT(w:World)(os:OsState):SharedT:=⟨treeOf (hX w os).heap.objs.toList,15,{},(hX w os).gens,(hX w os).drawn,(hX w os).toks,os⟩
noncomputable def hF(st:Stmt)(q:String):Obj:=if h:st.ctorIdx=0 then Stmt.FunctionDef.elim st h fun nm ps b _ _ _ sc _ _ _=> {cls:= .none,data:= .func {name:=nm,qualname:=Str.ofString q,params:=ps,body:= .stmts b,scope:=sc,globals:=0,closure:= [],defaults:= .none,kwdefaults:= .none}} else default
noncomputable def hV(l:List Value):Obj:={cls:= .none,data:= .fields ⟨l⟩}
noncomputable def hU(l:List Value):Obj:=kO "tuple" (.seq ⟨l⟩)
noncomputable def hE(P:Params):List DictEntry:=kE P "__name__" 165 (kS "emacs.errors" 194) <|kE P "__doc__" 166 .none <|kE P "__package__" 167 .none <|kE P "__loader__" 168 (.builtin "__main__.__loader__#opaque") <|kE P "__spec__" 169 .none <|kE P "__annotations__" 170 (.ref 6) <|kE P "__builtins__" 171 (.ref 4) <|kE P "__file__" 173 (kS "/claim/cut.py" 172) <|kE P "__cached__" 174 .none <|kE P "_wall" 193 (.ref 21) <|kE P "LispSignal" 226 (.ref 38) []
noncomputable def hL(K:Frag)(a:Addr):Obj:=(K.lookup a).getD default
noncomputable def hO(P:Params)(o:List Obj):List Obj:=o.take 2++ [{cls:= .none,data:= .dict ⟨kE P "type.__subclasses__.Exception.0" 223 (.int 38 0) <|kE P "type.__subclasses__.Exception.n" 224 (.int 1 0) []⟩ 2},kO "dict" (.dict ⟨hE P⟩ 11)]++(o.drop 4).take 8++ [hV [.int 1 0, .int 0 0, .ref 20, .int 5 0, .int 0 0, .ref 27]]++o.drop 13++
 [hU [],hV [],hU [kS "k" 190],hU [],hF (kF 0) "_wall"]++(fA 20 (kF 0) "_wall" (kS "__main__" 164) .none 187 191 []).map (·.2)++ [hU [.type "Exception"],kO "builtin_function_or_method" (.fields ⟨[.builtin "type.__prepare__", .type "type"]⟩),
 kO "dict" (.dict ⟨kE P "__module__" 203 (kS "emacs.errors" 194) <|kE P "__qualname__" 205 (kS "LispSignal" 204) <|kE P "__firstlineno__" 207 (.int 5 206) <|kE P "__init__" 216 (.ref 35) <|kE P "__static_attributes__" 219 (.ref 36) []⟩ 5),hU [],hV [.int 7 0, .int 4 0, .ref 34],
 kO "code" (.fields ⟨[kS "LispSignal" 198,kS "LispSignal" 199,kS "/claim/cut.py" 200, .int 5 0, .int 0 0, .int 0 0, .int 0 0, .int 0 0, .ref 25, .bool false, .int 181 0, .ref 26, .none, .none, .none, .none, .int 201 0, .int 5 0,kS "/claim/cut.py" 202]⟩),
 {cls:= .type "frame",slots:= #[some (.ref 27),some (.ref 3),some (.ref 24),none,some (kS "emacs.errors" 194),none,some (.ref 0)]},hU [],hV [],hU [kS "self" 211,kS "symbol" 212,kS "data" 213],hU [],hF (kM 2 0) "LispSignal.__init__",hL (KK P) 34,hL (KK P) 35,hU [kS "data" 217,kS "symbol" 218],hL (KK P) 37,hL (KK P) 38,
 kO "getset_descriptor" (.fields ⟨[kS "__weakref__" 220, .ref 38, .builtin "ExceptionGroup.__weakref__", .none]⟩),kO "super" (.fields ⟨[.ref 38, .ref 38, .ref 38]⟩),kO "builtin_function_or_method" (.fields ⟨[.builtin "object.__init_subclass__", .ref 38]⟩)]
noncomputable def hM(w:World)(os:OsState):SharedT:=⟨treeOf (hO w.params (hX w os).heap.objs.toList),42,{},(hX w os).gens,(hX w os).drawn,227,os⟩
noncomputable abbrev hG(s₀ s:Shared):Bool:=staticsOk (importedModules pw.main.body) s₀.heap s.heap && namesBound pw s.heap && gensDone s && laidKept s₀.heap s.heap
theorem h_open:∀w,(fencedOpening treeTable pw w 4814).map (fun s=> (s.heap,s.gens,s.drawn,s.toks))=some (boot_heap w.params,Array.mk [],boot_drawn,boot_toks):=boot_open (by kernel_rfl) (by decide+kernel) fun s=>by kernel_rfl
theorem h_size:∀w os,((hS w os).heap.isNs mainGlobals && (hS w os).gens.size==0,(hS w os).heap.objs.size,(hS w os).heap.nsMap mainGlobals "__annotations__")=(true,11,hA):=by intro w os;kernel_rfl
theorem h_pre:∀w os,topGo treeTable pw w 11 hA 12 (hS w os) (topStub pw)=some (hX w os,⟨denote treeTable (.body hB hN),hC,hP,[topFrame hP]⟩):=by intro w os;kernel_rfl
theorem h_abs:∀w os,(hT w os).abs=hX w os:=by intro w os;kernel_rfl
theorem h_blk:∀w s,segRun treeTable pw w 11 hA 1 1 s (blockOf hB hN hC hP [topFrame hP])=some (.next,s,hC,hP):=by intro w s;kernel_rfl
theorem h_fin:∀w s p,topRun treeTable pw w 11 hA 2 s ⟨doneF .next,hC,p,[topFrame hP]⟩=some s:=by intro w s p;kernel_rfl
noncomputable abbrev hY(w:World)(os:OsState):Shared:=⟨⟨(hO w.params (hX w os).heap.objs.toList).toArray,{}⟩,(hX w os).gens,(hX w os).drawn,227,os⟩
theorem h_run1:∀w os,(segRunT treeTable pw w 11 hA 1 269 (hT w os) (piecesOf (hB.take 3) hN hC hP [topFrame hP])).map (fun x=> (x.1,x.2.2.1,x.2.2.2,x.2.1.n,x.2.1.life,x.2.1.gens,x.2.1.drawn,x.2.1.toks,x.2.1.os,x.2.1.tree.list 42))=some (.next,hC,⟨5,0,9,24⟩,42,{},(hX w os).gens,(hX w os).drawn,227,os,hO w.params (hX w os).heap.objs.toList):=by intro w os;kernel_rfl
theorem h_lst:∀w os,(hM w os).tree.list 42=hO w.params (hX w os).heap.objs.toList:=by intro w os;kernel_rfl
theorem h_abs2(w:World)(os:OsState):(hM w os).abs=hY w os:=by
 show(⟨⟨((hM w os).tree.list 42).toArray,{}⟩,(hX w os).gens,(hX w os).drawn,227,os⟩:Shared)=_
 rw[h_lst]
theorem h_one(w:World)(os:OsState):segRun treeTable pw w 11 hA 1 269 (hX w os) (piecesOf (hB.take 3) hN hC hP [topFrame hP])=some (.next,(hM w os).abs,hC,⟨5,0,9,24⟩):=by
 obtain⟨⟨f,⟨t,n,l,g,d,k,o⟩,c,p⟩,hx,ex⟩:=Option.map_eq_some_iff.mp (h_run1 w os)
 simp only[Prod.mk.injEq] at ex
 obtain⟨rfl,rfl,rfl,rfl,rfl,rfl,rfl,rfl,rfl,e⟩:=ex
 have:=segRun_of hx
 rw[h_abs] at this
 rw[this,h_abs2]
 show some (Flow.next,(⟨⟨(t.list 42).toArray,{}⟩,_,_,_,_⟩:Shared),_)=_
 rw[e]
theorem h_run2:∀w os,(segRunT treeTable pw w 11 hA 1 2077 (hM w os) (piecesOf (hB.drop 3) hN hC ⟨5,0,9,24⟩ [topFrame hP])).map (fun x=> (x.1,x.2.2.1,hG (hS w os) x.2.1.abs,openSeen qq looseQ (importedModules pw.main.body) (fun s=>xlAt qq [] s && recOk [] s) true x.2.1.abs,hkK.obs x.2.1.abs))=some (.next,hC,true,openGood qq looseQ,hkK.val w):=by intro w os;kernel_rfl
theorem h_two{w:World}{os:OsState}{s:Shared}{p:Pos}(hx:segRun treeTable pw w 11 hA 1 2077 (hM w os).abs (piecesOf (hB.drop 3) hN hC ⟨5,0,9,24⟩ [topFrame hP])=some (.next,s,hC,p)):topRun treeTable pw w 11 hA (269+(2077+2)) (hX w os) (restOf (hB.take 3++(hB.drop 3++ [])) hN hC hP [topFrame hP])=some s:=
 piece_app (h_one w os) (piece_app (rest:= []) hx (piece_nil (h_fin w s p)))
theorem h_three:hB.take 3++(hB.drop 3++ [])=hB:=by rw[List.append_nil,List.take_append_drop]
theorem h_four{w:World}{os:OsState}{s:Shared}(r:topRun treeTable pw w 11 hA (269+(2077+2)) (hX w os) (restOf hB hN hC hP [topFrame hP])=some s):topRun treeTable pw w 11 hA (12+(1+(269+(2077+2)))) (hS w os) (topStub pw)=some s:=go_top (h_pre w os) (piece_block (h_blk w (hX w os)) r)
theorem h_top{w:World}{os:OsState}{s:Shared}(l1:hG (hS w os) s=true)(r:topRun treeTable pw w 11 hA 4814 (hS w os) (topStub pw)=some s):topFrom treeTable pw w 4814 (hS w os)=some s:=by
 obtain⟨z1,z2,z3⟩:_∧_∧_:=by simpa only[Prod.mk.injEq] using h_size w os
 unfold topFrom
 rw[z1,z2,z3]
 dsimp only
 rw[r,Option.bind_some]
 show(match hG (hS w os) s with |true=>some s |false=>none)=_
 rw[l1]
theorem h_ends{w:World}{os:OsState}{s:Shared}(e:fencedOpening treeTable pw w 4814=some (hS w os))(t:topFrom treeTable pw w 4814 (hS w os)=some s):openEnds treeTable pw w 4814=some s:=by
 unfold openEnds
 rw[e,Option.bind_some]
 exact t
theorem left:LeftO pw qq looseQ (fun s=>xlAt qq [] s && recOk [] s) hkK.obs hkK.val 4814:=fun w=>by
 obtain⟨⟨h,gs,d,k,os⟩,e,e'⟩:=Option.map_eq_some_iff.mp (h_open w)
 simp only[Prod.mk.injEq] at e'
 obtain⟨rfl,rfl,rfl,rfl⟩:=e'
 obtain⟨⟨f,s,c,p⟩,hx,ex⟩:=Option.map_eq_some_iff.mp (h_run2 w os)
 simp only[Prod.mk.injEq] at ex
 obtain⟨rfl,rfl,l1,l2,l3⟩:=ex
 have r:=topRun_mono 2453 _ _ _ _ (h_four (h_three▸h_two (segRun_of hx)))
 have t:=h_ends e (h_top l1 r)
 refine(congrArg (Option.map _) t).trans ?_
 show some (_,_)=some (_,_)
 rw[l2,l3]
end
section
open PySem PySem.W PySem.W.X PyProof.Rows PySem.Spec
noncomputable def dLaw:DefRec×List (Str×Expr):=(defOf qq (Str.ofString "law")).getD ⟨⟨Str.ofString "",⟨[],[],none,[],[],none,[]⟩,[],default,default⟩,[]⟩
theorem said1:namesResolve PySem.Challenge.rw_sq0003_01.row.prog=true:=by kernel_rfl
theorem said2:noRoadLSs {strict:= !(importedModules PySem.Challenge.rw_sq0003_01.row.prog.main.body).all cThrough.contains,foot:=none,bare:=(["vars","dir","locals"]:List Str).filter (readsOut PySem.Challenge.rw_sq0003_01.row.prog PySem.Challenge.rw_sq0003_01.row.prog.main.body)} PySem.Challenge.rw_sq0003_01.row.prog.main.body=true:=by kernel_rfl
theorem said3:looksOpen PySem.Challenge.rw_sq0003_01.row.prog=true:=by
 unfold looksOpen
 rw[said1,said2]
 kernel_rfl
theorem said4:PySem.Challenge.rw_sq0003_01.row.wellSaid=true:=by
 unfold OpenRow.wellSaid OpenRow.partSaid
 rw[said3]
 kernel_rfl
theorem said5:PySem.Challenge.rw_sq0003_01.wellSaid=true:=by
 unfold OpenLaw.wellSaid
 rw[said4]
 kernel_rfl
theorem holds_of(call:WalkO qq looseQ (XL qq []) hkK.says PySem.Challenge.rw_sq0003_01.row.toRowW dLaw.1 dLaw.2 fun f vs=>PySem.call f vs):PySem.Challenge.rw_sq0003_01.Holds:=by
 refine holds_law said5 fun said=> ?_
 refine holds_open (q:=qq) (loose:=looseQ) (Xt:=fun s=>xlAt qq [] s && recOk [] s) (XP:=XL qq []) (Yf:=hkK.obs) (Ya:=hkK.val) (YP:=hkK.says) (N:=4814) (d:=dLaw.1) (kwd:=dLaw.2) left hkK.of hkK.keeps (fun s e=>xl_of s (Bool.and_eq_true_iff.mp e).1) XL.keeps (by kernel_rfl) (by kernel_rfl) (by kernel_rfl) (fun s e=>recFacts_of (Bool.and_eq_true_iff.mp e).2) (by first |rfl |fail) (by first |assumption |decide+kernel) (by decide+kernel) ⟨rfl,rfl,rfl,rfl,rfl,by decide+kernel⟩ ?hw call
 case hw=>w_witness2
theorem first_ok{w:World}{mean:ExcName→Option Value}{mg mb:Str→Option Value}{h₀ h₁:Heap}{L fa l:Addr}{cd:Value}{vs:List Value}{ns:List Int}{Q:Flow→Shared→Prop}{E:Value→Shared→Prop}{g:Array GenState}{dr:Drawn}{tk:Nat}{os:OsState}
  (K0:Below callerA h₀ [] h₀) (KX:(KK w.params).In h₀) (T:Top qq (looseW qq looseQ) mean mg mb h₀) (hL:h₀.IsList l vs.toArray) (hI:IntsAre vs ns) (hlen:¬(63:Int) < ns.length)
  (F:Fr h₀ L h₁ (fun x=>List.lookup x [(Str.ofString "script", .ref l)])) (N:News h₀ L h₁ [])
  (hQ:∀D ys m h' tk',m (Str.ofString "deck")=some (.ref D)→IntsAre ys ((ns.take 63).map fun k=>if k < 0 then -k else k)→Fr h₀ L h' m→News h₀ L h' [(D,LCg.lst ys)]→Q .next {heap:=h',gens:=g,drawn:=dr,toks:=tk',os:=os}):
  wpAny (model pw w) (callerA.deeper (envOf dLaw.1.name dLaw.1.scope L fa cd)) (exec (dLaw.1.body.headD (.Pass default)) (envOf dLaw.1.name dLaw.1.scope L fa cd)) Q E {heap:=h₁,gens:=g,drawn:=dr,toks:=tk,os:=os}:=by
 have dummy:KK=KK∧PySem.Challenge.rw_sq0003_01.name=PySem.Challenge.rw_sq0003_01.name:=⟨rfl,rfl⟩
 revert dummy
 k_fill
 intro _
 show wpAny _ _ (exec (Stmt.Assign _ _ _) _) _ _ _
 k_steps
 rename_i ys hI8 hL8 D h' tk' F' N' o1
 exact(hQ D ys _ h' tk' (if_pos rfl) hI8 F' fun p hp=>N' p (by rcases List.mem_cons.mp hp with rfl |hp;exact .head _;cases hp))
noncomputable def lawChk(P:Params):Bool:=chkSs (KK P) dLaw.1.scope f_law (dLaw.1.body.drop 1) && (dLaw.1.scope.names.all fun n=>n.2 != .cell) && (dLaw.1.scope.names.lookup (Str.ofString "deck")==some .local) && (dLaw.1.scope.kind== .function)
theorem lawChk_ok:∀P,lawChk P=true:=by intro P;kernel_rfl
theorem seer_ok:importsNone qq=true:=by decide+kernel
noncomputable def LawPure:Prop:=∀(is:List Int) (D:Addr),is.length≤63→(∀i∈is,0≤i)→
 aA (az tab 40) f_law (upd (fun u_=>none) "deck" (some (.ref D))) (upd (fun u_=>none) D (some (.list (is.map .int)))) (fun fl u_ u_=>fl= .ret (.bool true)) (fun u_=>False)
theorem bodyLaw:dLaw.1.body=dLaw.1.body.headD (.Pass default)::dLaw.1.body.drop 1:=by kernel_rfl
theorem VRs.ofInts:∀{ys:List Value} {is:List Int},IntsAre ys is→VRs (is.map .int) ys
 |_,_, .nil=> .nil
 |_,_, .cons n t h=> .cons ⟨t,rfl⟩ (VRs.ofInts h)
theorem lookup_in{α:Type}{x:Str}{v:α}:∀{l:List (Str×α)},l.lookup x=some v→(x,v)∈l
 | [],h=>by exact absurd h nn
 |(y,c)::r,h=>by
  rw[List.lookup_cons] at h
  split at h
  ·rename_i q;obtain rfl:=Option.some.inj h;rw[beq_iff_eq.mp q];exact .head _
  ·exact .tail _ (lookup_in h)
theorem law_walk(LP:LawPure){w:World}{mean:ExcName→Option Value}{mg mb:Str→Option Value}{h₀ h₁:Heap}{L fa l:Addr}{cd:Value}{vs:List Value}{ns:List Int}{Q:Flow→Shared→Prop}{E:Value→Shared→Prop}{g:Array GenState}{dr:Drawn}{tk:Nat}{os:OsState}
  (K0:Below callerA h₀ [] h₀) (KX:(KK w.params).In h₀) (T:Top qq (looseW qq looseQ) mean mg mb h₀) (hL:h₀.IsList l vs.toArray) (hI:IntsAre vs ns) (hlen:¬(63:Int) < ns.length)
  (F:Fr h₀ L h₁ (fun x=>List.lookup x [(Str.ofString "script", .ref l)])) (N:News h₀ L h₁ [])
  (hQ:∀h' tk',(∀b o,h₀.get? b=some o→h'.get? b=some o)→Q (.ret (.bool true)) {heap:=h',gens:=g,drawn:=dr,toks:=tk',os:=os}):
  wpAny (model pw w) (callerA.deeper (envOf dLaw.1.name dLaw.1.scope L fa cd)) (execs dLaw.1.body (envOf dLaw.1.name dLaw.1.scope L fa cd)) Q E {heap:=h₁,gens:=g,drawn:=dr,toks:=tk,os:=os}:=by
 rw[bodyLaw]
 refine wpAny_execs_cons (first_ok K0 KX T hL hI hlen F N fun D ys m h' tk' hm hys F' N'=> ?_)
 have hc:=lawChk_ok w.params
 unfold lawChk at hc
 simp only[Bool.and_eq_true,beq_iff_eq] at hc
 refine q10 hc fun c1 c2 c3 c4=> ?_
 have nocell:∀x,dLaw.1.scope.names.lookup x≠some .cell:=fun x hx=>by
  have:=List.all_eq_true.mp c2 _ (lookup_in hx)
  simp at this
 let f:Fm:={w,K:=KK w.params,A:=callerA.deeper (envOf dLaw.1.name dLaw.1.scope L fa cd),h₀,outer:= [],L,a:=fa,cn:=dLaw.1.name,cs:=dLaw.1.scope,ccd:=cd,cl:= [],s₀:={heap:=h',gens:=g,drawn:=dr,toks:=tk',os:=os},keep:= []}
 have ok:f.Ok (2 * 40+1):={
  frames:=Around.frames_deeper K0.stack
  handled:=rfl
  kin:=KX
  top:=⟨_,_,_,_,_,T⟩
  kind:=c4
  mods:=let⟨mm,⟨o,es,ep,ho,_⟩,_⟩:=(T.seer seer_ok).mods;⟨o,ho⟩
  depth:=by have e:f.A.depth=callerA.depth+1:=depth_deeper _ _;rw[e];decide
  units:=by have e:f.A.units=callerA.units+3:=units_deeper _ _;rw[e];decide
  outs:=fun e he=>nomatch he
  apart:=fun p hp=>nomatch hp
  cells:=fun x hx=>absurd hx (nocell x)
  inj:=fun x y c h=>nomatch h}
 have R:Rep w [] (upd (fun u_=>none) D (some (.list (((ns.take 63).map fun k=>if k < 0 then -k else k).map .int)))) [(D,LCg.lst ys)]:=by
  have R0:Rep w [] (fun u_=>none) []:=⟨List.nodup_nil,(fun r h=>nomatch h),fun u_=>0,(fun a o h=>by exact absurd h nn),(fun a o h=>by exact absurd h nn),(fun a b o o' h=>by exact absurd h nn),fun a o h=>by exact absurd h nn⟩
  exact R0.cons (fun p hp=>nomatch hp) rfl fun dx news' h=> ⟨ys,ys.length,h,VRs.ofInts hys⟩
 have S:St f (upd (fun u_=>none) "deck" (some (.ref D))) (upd (fun u_=>none) D (some (.list (((ns.take 63).map fun k=>if k < 0 then -k else k).map .int)))) {heap:=h',gens:=g,drawn:=dr,toks:=tk',os:=os}:=by
  refine⟨h',tk',m,_,rfl,F',N',⟨fun x v e=> ?_,fun c hc=>nomatch hc⟩,R,fun p hp=>nomatch hp⟩
  unfold upd at e
  split at e
  ·rename_i q;obtain rfl:=Option.some.inj e;subst q;exact⟨.ref D,rfl, .inl ⟨c3,hm⟩⟩
  ·exact absurd e nn
 refine sssOk 40 f_law f rfl ok (dLaw.1.body.drop 1) c1 _ _ _ _ _ Q E S (LP _ D (by simp;omega) (fun i hi=> ?_)) (fun fl u ρ' μ' s' hfl S' hΦ=> ?_) fun u_ u_ u_ u_ u_ h=>h.elim
 ·refine q17 (List.mem_map.mp hi) fun j u_ rf2=> ?_
  subst rf2
  split <;> omega
 ·subst hΦ
  refine q17 hfl fun u' rf1 hu=> ?_
  subst rf1
  subst hu
  refine q34 S' fun h2 tk2 m2 n2 rf4 F2 u_=> ?_
  rw[rf4]
  exact hQ h2 tk2 F2.keep
theorem holds_pure(LP:LawPure):PySem.Challenge.rw_sq0003_01.Holds:=by
 refine holds_of ?_
 intro w s₀ s₁ mg mb G Y fa o pm cd doc dV kV ho hd hcd hD hmg hg args vals as hpre hlay hrd hwl hlo
 have KX:=kIn_of Y
 have X:=(Ground.X G).1
 have V:=(Ground.X G).2
 refine Ground.open G ?_
 intro T B D TE TW
 clear hmg
 wrow_args hpre hlay hrd hwl hlo
 refine enter_call ?_
 w_top on
 refine codeAny_mono ?_ (fun u_ u_ g=>GoodW.toG g)
 have K0:=below_caller (Top.heap T)
 w_call any ho hd hcd hD T F
 rename_i hlen _ h₁ N0
 refine law_walk LP K0 KX T (by assumption) (by assumption) hlen F N0 fun h' tk' hk=> ?_
 exact⟨.inl ⟨.bool true, .bool true,[],rfl,fun u_=>rfl, .bool true,by kernel_rfl,fun u_=> ⟨List.nodup_nil,fun a h=>nomatch h⟩⟩,hk,rfl,hg⟩
end
section
open PySem
theorem exf{α:Type}{e:Option α}{x:α}(h:e=some x)(P:α→Prop):(∃v,e=some v∧P v)=P x:=propext ⟨fun pp_=>q17 pp_ fun u_ a b=>Option.some.inj (h.symm.trans a)▸b,fun b=> ⟨x,h,b⟩⟩
@[simp ↓]theorem exs{α:Type}{x:α}(P:α→Prop):(∃v,some x=some v∧P v)=P x:=exf rfl P
@[reducible]noncomputable def Ex{α:Type}(e:Option α)(P:α→MH→Prop)(μ:MH):Prop:=∃v,e=some v∧P v μ
theorem exe{α:Type}{e:Option α}{x:α}(h:e=some x)(P:α→MH→Prop)(μ:MH):Ex e P μ=P x μ:=exf h _
@[simp]theorem Ex_s{α:Type}{x:α}(P:α→MH→Prop)(μ:MH):Ex (some x) P μ=P x μ:=exf rfl _
@[simp ↓]theorem exr{x:Addr}(P:Addr→Prop):(∃v,MV.ref x= .ref v∧P v)=P x:=propext ⟨fun pp_=>q17 pp_ fun u_ a b=>MV.ref.inj a▸b,fun b=> ⟨x,rfl,b⟩⟩
@[simp ↓]theorem exb{x:Bool}(P:Bool→Prop):(∃v,MV.bool x= .bool v∧P v)=P x:=propext ⟨fun pp_=>q17 pp_ fun u_ a b=>MV.bool.inj a▸b,fun b=> ⟨x,rfl,b⟩⟩
@[simp ↓]theorem exn{P:Prop}:(MV.none= .none∧P)=P:=propext ⟨And.right,fun h=> ⟨rfl,h⟩⟩
@[simp]theorem upd_self_s{α β:Type} [DecidableEq α](f:α→β)(a:α)(b:β):upd f a b a=b:=aj f a b
@[simp]theorem upd_str_ne{β:Type}(f:String→β){a x:String}(b:β)(h:(x=a)=False):upd f a b x=f x:=by
 unfold upd;rw[if_neg (by simpa using h)]
@[simp]theorem upd_int_ne{β:Type}(f:Int→β){a x:Int}(b:β)(h:(x=a)=False):upd f a b x=f x:=by
 unfold upd;rw[if_neg (by simpa using h)]
noncomputable abbrev Lst:=List MV→MH→Prop
noncomputable abbrev Apst:=ao→MH→Prop
noncomputable def whL(C:aB)(c:ME)(b:MSs)(Φ:FPst):Nat→ao→MH→Prop:=whK (fun ρ μ Φ=>evE C ρ c μ Φ (fun u_=>False)) (fun ρ μ Φ=>aA C b ρ μ Φ (fun u_=>False)) Φ
noncomputable def foL(C:aB)(a:Addr)(x:String)(b:MSs)(Φ:FPst):Nat→Nat→ao→MH→Prop:=foK a x (fun ρ μ Φ=>aA C b ρ μ Φ (fun u_=>False)) Φ
noncomputable def frL(C:aB)(x:String)(b:MSs)(Φ:FPst):List Int→ao→MH→Prop:=frK x (fun ρ μ Φ=>aA C b ρ μ Φ (fun u_=>False)) Φ
noncomputable def kS_seq(C:aB)(r:MSs)(Φ:FPst)(Ψ:Exc)(fl:MFl)(ρ:ao)(μ:MH):Prop:=match fl with | .next=>aA C r ρ μ Φ Ψ | .ret v=>Φ (.ret v) ρ μ
noncomputable def bf(Φ:Pst)(fl:MFl)(ρ:ao)(μ:MH):Prop:=match fl with | .next=>Φ .none μ | .ret v=>Φ v μ
noncomputable def kS_wh(C:aB)(c:ME)(b:MSs)(Φ:FPst)(k:Nat)(fl:MFl)(ρ:ao)(μ:MH):Prop:=match fl with | .next=>whL C c b Φ k ρ μ | .ret v=>Φ (.ret v) ρ μ
noncomputable def kS_fo(C:aB)(a:Addr)(x:String)(b:MSs)(Φ:FPst)(k i:Nat)(fl:MFl)(ρ:ao)(μ:MH):Prop:=match fl with | .next=>foL C a x b Φ k i ρ μ | .ret v=>Φ (.ret v) ρ μ
noncomputable def kS_fr(C:aB)(x:String)(b:MSs)(Φ:FPst)(r:List Int)(fl:MFl)(ρ:ao)(μ:MH):Prop:=match fl with | .next=>frL C x b Φ r ρ μ | .ret v=>Φ (.ret v) ρ μ
noncomputable def kA_next(Φ:FPst)(ρ:ao)(μ:MH):Prop:=Φ .next ρ μ
noncomputable def kA_asgs(C:aB)(ts:List MT)(vs:List MV)(Φ:Apst)(Ψ:Exc)(ρ:ao)(μ:MH):Prop:=asgs C ts vs ρ μ Φ Ψ
noncomputable def kF_item(o:MV)(Φ:Pst)(v:MV)(μ:MH):Prop:=Ex (itemOf μ o v) Φ μ
noncomputable def kF_bin(op:MOp)(x:MV)(Φ:Pst)(v:MV)(μ:MH):Prop:=Ex (binOf op x v) Φ μ
noncomputable def kF_cmp(op:MCmp)(x:MV)(Φ:Pst)(v:MV)(μ:MH):Prop:=∃b,cmpOf op x v=some b∧Φ (.bool b) μ
noncomputable def kF_isIn(x:MV)(Φ:Pst)(v:MV)(μ:MH):Prop:=∃k xs is,intOf x=some k∧listAt μ v=some xs∧intsOf xs=some is∧Φ (.bool (decide (k∈is))) μ
noncomputable def kF_new(a:Addr)(Φ:Pst)(v:MV)(μ:MH):Prop:=v= .none∧Φ (.ref a) μ
noncomputable def kF_ladd(x:MV)(Φ:Pst)(v:MV)(μ:MH):Prop:=∃xs ys,listAt μ x=some xs∧listAt μ v=some ys∧xs.length < LIM∧ys.length < LIM∧∀a,μ a=none→Φ (.ref a) (upd μ a (some (.list (xs++ys))))
noncomputable def kF_seti(o:MV)(w:MV)(ρ:ao)(Φ:Apst)(v:MV)(μ:MH):Prop:=∃μ',setItemM μ o v w=some μ'∧Φ ρ μ'
noncomputable def kL_call(C:aB)(v:MV)(Φ:Pst)(Ψ:Exc)(vs:List MV)(μ:MH):Prop:=∃a,v= .ref a∧C a vs μ Φ Ψ
noncomputable def kL_meth(C:aB)(f:Addr)(v:MV)(Φ:Pst)(Ψ:Exc)(vs:List MV)(μ:MH):Prop:=C f (v::vs) μ Φ Ψ
noncomputable def kL_new(C:aB)(K:Addr)(f:Addr)(Φ:Pst)(Ψ:Exc)(vs:List MV)(μ:MH):Prop:=∀a,μ a=none→C f (.ref a::vs) (upd μ a (some (.inst K (fun u_=>none) 0))) (kF_new a Φ) Ψ
noncomputable def kL_bm(n:BM)(v:MV)(Φ:Pst)(vs:List MV)(μ:MH):Prop:=bmP n v vs μ Φ
noncomputable def kL_tuple(Φ:Pst)(vs:List MV)(μ:MH):Prop:=vs.length < LIM∧∀a,μ a=none→Φ (.ref a) (upd μ a (some (.tuple vs)))
noncomputable def kL_list(Φ:Pst)(vs:List MV)(μ:MH):Prop:=vs.length < LIM∧∀a,μ a=none→Φ (.ref a) (upd μ a (some (.list vs)))
noncomputable def kL_arg(v:MV)(Φ:Lst)(vs:List MV)(μ:MH):Prop:=Φ (v::vs) μ
noncomputable def kL_multi(C:aB)(ts:List MT)(ρ:ao)(Φ:FPst)(Ψ:Exc)(vs:List MV)(μ:MH):Prop:=vs.length=ts.length∧asgs C ts vs ρ μ (kA_next Φ) Ψ
noncomputable def kL_range(C:aB)(x:String)(b:MSs)(ρ:ao)(Φ:FPst)(vs:List MV)(μ:MH):Prop:=∃is,rangeOf vs=some is∧frL C x b Φ is ρ μ
noncomputable def kE_attr(n:String)(Φ:Pst)(v:MV)(μ:MH):Prop:=Ex (attrOf μ v n) Φ μ
noncomputable def kE_item(C:aB)(ρ:ao)(i:ME)(Φ:Pst)(Ψ:Exc)(v:MV)(μ:MH):Prop:=evE C ρ i μ (kF_item v Φ) Ψ
noncomputable def kE_rev(Φ:Pst)(v:MV)(μ:MH):Prop:=∃xs,listAt μ v=some xs∧xs.length < LIM∧∀a,μ a=none→Φ (.ref a) (upd μ a (some (.list xs.reverse)))
noncomputable def kE_init(Φ:Pst)(v:MV)(μ:MH):Prop:=∃xs,listAt μ v=some xs∧xs.length < LIM∧∀a,μ a=none→Φ (.ref a) (upd μ a (some (.list xs.dropLast)))
noncomputable def kE_bin(C:aB)(ρ:ao)(op:MOp)(r:ME)(Φ:Pst)(Ψ:Exc)(v:MV)(μ:MH):Prop:=evE C ρ r μ (kF_bin op v Φ) Ψ
noncomputable def kE_neg(Φ:Pst)(v:MV)(μ:MH):Prop:=∃i,intOf v=some i∧Φ (.int (-i)) μ
noncomputable def kE_cmp(C:aB)(ρ:ao)(op:MCmp)(r:ME)(Φ:Pst)(Ψ:Exc)(v:MV)(μ:MH):Prop:=evE C ρ r μ (kF_cmp op v Φ) Ψ
noncomputable def kE_isNone(b:Bool)(Φ:Pst)(v:MV)(μ:MH):Prop:=Φ (.bool (isNoneV v==b)) μ
noncomputable def kE_isIn(C:aB)(ρ:ao)(r:ME)(Φ:Pst)(Ψ:Exc)(v:MV)(μ:MH):Prop:=evE C ρ r μ (kF_isIn v Φ) Ψ
noncomputable def kE_neNil(b:Bool)(Φ:Pst)(v:MV)(μ:MH):Prop:=∃xs,listAt μ v=some xs∧Φ (.bool (xs.isEmpty==b)) μ
noncomputable def kE_boolop(C:aB)(ρ:ao)(c:Bool)(r:ME)(Φ:Pst)(Ψ:Exc)(v:MV)(μ:MH):Prop:=∃b,v= .bool b∧if b=c then evE C ρ r μ Φ Ψ else Φ (.bool b) μ
noncomputable def kE_ite(C:aB)(ρ:ao)(t:ME)(e:ME)(Φ:Pst)(Ψ:Exc)(v:MV)(μ:MH):Prop:=∃b,v= .bool b∧if b then evE C ρ t μ Φ Ψ else evE C ρ e μ Φ Ψ
noncomputable def kE_call(C:aB)(ρ:ao)(as:MEs)(Φ:Pst)(Ψ:Exc)(v:MV)(μ:MH):Prop:=evEs C ρ as μ (kL_call C v Φ Ψ) Ψ
noncomputable def kE_meth(C:aB)(ρ:ao)(K:Addr)(f:Addr)(n:String)(as:MEs)(Φ:Pst)(Ψ:Exc)(v:MV)(μ:MH):Prop:=∃a g k,v= .ref a∧μ a=some (.inst K g k)∧g n=none∧evEs C ρ as μ (kL_meth C f v Φ Ψ) Ψ
noncomputable def kE_len(Φ:Pst)(v:MV)(μ:MH):Prop:=∃xs,listAt μ v=some xs∧xs.length < LIM∧Φ (.int xs.length) μ
noncomputable def kE_sum(Φ:Pst)(v:MV)(μ:MH):Prop:=∃xs is,listAt μ v=some xs∧xs.length < LIM∧intsOf xs=some is∧Φ (.int is.sum) μ
noncomputable def kE_strOf(Φ:Pst)(v:MV)(μ:MH):Prop:=∃i,intOf v=some i∧small i=true∧Φ (.str (itext i)) μ
noncomputable def kE_listOf(Φ:Pst)(v:MV)(μ:MH):Prop:=∃xs,listAt μ v=some xs∧xs.length < LIM∧∀a,μ a=none→Φ (.ref a) (upd μ a (some (.list xs)))
noncomputable def kE_bm(C:aB)(ρ:ao)(n:BM)(as:MEs)(Φ:Pst)(Ψ:Exc)(v:MV)(μ:MH):Prop:=bmOk n v μ=true∧evEs C ρ as μ (kL_bm n v Φ) Ψ
noncomputable def kE_ladd(C:aB)(ρ:ao)(r:ME)(Φ:Pst)(Ψ:Exc)(v:MV)(μ:MH):Prop:=evE C ρ r μ (kF_ladd v Φ) Ψ
noncomputable def kE_arg(C:aB)(ρ:ao)(r:MEs)(Φ:Lst)(Ψ:Exc)(v:MV)(μ:MH):Prop:=evEs C ρ r μ (kL_arg v Φ) Ψ
noncomputable def kE_seta(n:String)(w:MV)(ρ:ao)(Φ:Apst)(v:MV)(μ:MH):Prop:=∃μ',setAttrM μ v n w=some μ'∧Φ ρ μ'
noncomputable def kE_seti(C:aB)(ρ:ao)(i:ME)(w:MV)(Φ:Apst)(Ψ:Exc)(v:MV)(μ:MH):Prop:=evE C ρ i μ (kF_seti v w ρ Φ) Ψ
noncomputable def kE_asg(C:aB)(t:MT)(ρ:ao)(Φ:FPst)(Ψ:Exc)(v:MV)(μ:MH):Prop:=asg C ρ t v μ (kA_next Φ) Ψ
noncomputable def kE_asgC(x:String)(ρ:ao)(Φ:FPst)(v:MV)(μ:MH):Prop:=Φ .next (upd ρ x (some v)) μ
noncomputable def kE_unp(C:aB)(ts:List MT)(ρ:ao)(Φ:FPst)(Ψ:Exc)(v:MV)(μ:MH):Prop:=∃vs,seqAt μ v=some vs∧vs.length=ts.length∧asgs C ts vs ρ μ (kA_next Φ) Ψ
noncomputable def kE_expr(ρ:ao)(Φ:FPst)(v:MV)(μ:MH):Prop:=Φ .next ρ μ
noncomputable def kE_ret(ρ:ao)(Φ:FPst)(v:MV)(μ:MH):Prop:=Φ (.ret v) ρ μ
noncomputable def kE_iteS(C:aB)(a:MSs)(b:MSs)(ρ:ao)(Φ:FPst)(Ψ:Exc)(v:MV)(μ:MH):Prop:=∃x,v= .bool x∧if x then aA C a ρ μ Φ Ψ else aA C b ρ μ Φ Ψ
noncomputable def kE_forS(C:aB)(x:String)(b:MSs)(ρ:ao)(Φ:FPst)(v:MV)(μ:MH):Prop:=∃a k,v= .ref a∧foL C a x b Φ k 0 ρ μ
noncomputable def kE_whS(C:aB)(c:ME)(b:MSs)(ρ:ao)(Φ:FPst)(k:Nat)(v:MV)(μ:MH):Prop:=∃x,v= .bool x∧if x then aA C b ρ μ (kS_wh C c b Φ k) (fun u_=>False) else Φ .next ρ μ
noncomputable def kE_fstr(Φ:Pst)(v:MV)(μ:MH):Prop:=Φ v μ
@[simp ↓]theorem Ex_u{α β:Type} [DecidableEq β]{f:β→Option α}{a:β}{b:α}(P:α→MH→Prop)(μ:MH):Ex (upd f a (some b) a) P μ=P b μ:=exf (aj f a _) _
@[simp ↓]theorem Ex_v{α:Type}{f:String→Option α}{a x:String}{b:Option α}(P:α→MH→Prop)(μ:MH)(h:(x=a)=False):Ex (upd f a b x) P μ=Ex (f x) P μ:=by rw[upd_str_ne f b h]
@[simp ↓]theorem kA_next'{Φ:FPst}{ρ:ao}{μ:MH}:kA_next Φ ρ μ=(Φ .next ρ μ):=rfl
@[simp ↓]theorem kA_asgs'{C:aB}{ts:List MT}{vs:List MV}{Φ:Apst}{Ψ:Exc}{ρ:ao}{μ:MH}:kA_asgs C ts vs Φ Ψ ρ μ=(asgs C ts vs ρ μ Φ Ψ):=rfl
@[simp ↓]theorem kF_item'{o:MV}{Φ:Pst}{v:MV}{μ:MH}:kF_item o Φ v μ=(Ex (itemOf μ o v) Φ μ):=rfl
@[simp ↓]theorem kF_isIn'{x:MV}{Φ:Pst}{v:MV}{μ:MH}:kF_isIn x Φ v μ=(∃k xs is,intOf x=some k∧listAt μ v=some xs∧intsOf xs=some is∧Φ (.bool (decide (k∈is))) μ):=rfl
@[simp ↓]theorem kF_new'{a:Addr}{Φ:Pst}{v:MV}{μ:MH}:kF_new a Φ v μ=(v= .none∧Φ (.ref a) μ):=rfl
@[simp ↓]theorem kF_ladd'{x:MV}{Φ:Pst}{v:MV}{μ:MH}:kF_ladd x Φ v μ=(∃xs ys,listAt μ x=some xs∧listAt μ v=some ys∧xs.length < LIM∧ys.length < LIM∧∀a,μ a=none→Φ (.ref a) (upd μ a (some (.list (xs++ys))))):=rfl
@[simp ↓]theorem kF_seti'{o:MV}{w:MV}{ρ:ao}{Φ:Apst}{v:MV}{μ:MH}:kF_seti o w ρ Φ v μ=(∃μ',setItemM μ o v w=some μ'∧Φ ρ μ'):=rfl
@[simp ↓]theorem kL_call'{C:aB}{v:MV}{Φ:Pst}{Ψ:Exc}{vs:List MV}{μ:MH}:kL_call C v Φ Ψ vs μ=(∃a,v= .ref a∧C a vs μ Φ Ψ):=rfl
@[simp ↓]theorem kL_meth'{C:aB}{f:Addr}{v:MV}{Φ:Pst}{Ψ:Exc}{vs:List MV}{μ:MH}:kL_meth C f v Φ Ψ vs μ=(C f (v::vs) μ Φ Ψ):=rfl
@[simp ↓]theorem kL_new'{C:aB}{K:Addr}{f:Addr}{Φ:Pst}{Ψ:Exc}{vs:List MV}{μ:MH}:kL_new C K f Φ Ψ vs μ=(∀a,μ a=none→C f (.ref a::vs) (upd μ a (some (.inst K (fun u_=>none) 0))) (kF_new a Φ) Ψ):=rfl
@[simp ↓]theorem kL_bm'{n:BM}{v:MV}{Φ:Pst}{vs:List MV}{μ:MH}:kL_bm n v Φ vs μ=(bmP n v vs μ Φ):=rfl
@[simp ↓]theorem kL_tuple'{Φ:Pst}{vs:List MV}{μ:MH}:kL_tuple Φ vs μ=(vs.length < LIM∧∀a,μ a=none→Φ (.ref a) (upd μ a (some (.tuple vs)))):=rfl
@[simp ↓]theorem kL_list'{Φ:Pst}{vs:List MV}{μ:MH}:kL_list Φ vs μ=(vs.length < LIM∧∀a,μ a=none→Φ (.ref a) (upd μ a (some (.list vs)))):=rfl
@[simp ↓]theorem kL_arg'{v:MV}{Φ:Lst}{vs:List MV}{μ:MH}:kL_arg v Φ vs μ=(Φ (v::vs) μ):=rfl
@[simp ↓]theorem kL_multi'{C:aB}{ts:List MT}{ρ:ao}{Φ:FPst}{Ψ:Exc}{vs:List MV}{μ:MH}:kL_multi C ts ρ Φ Ψ vs μ=(vs.length=ts.length∧asgs C ts vs ρ μ (kA_next Φ) Ψ):=rfl
@[simp ↓]theorem kL_range'{C:aB}{x:String}{b:MSs}{ρ:ao}{Φ:FPst}{vs:List MV}{μ:MH}:kL_range C x b ρ Φ vs μ=(∃is,rangeOf vs=some is∧frL C x b Φ is ρ μ):=rfl
@[simp ↓]theorem kE_attr'{n:String}{Φ:Pst}{v:MV}{μ:MH}:kE_attr n Φ v μ=(Ex (attrOf μ v n) Φ μ):=rfl
@[simp ↓]theorem kE_item'{C:aB}{ρ:ao}{i:ME}{Φ:Pst}{Ψ:Exc}{v:MV}{μ:MH}:kE_item C ρ i Φ Ψ v μ=(evE C ρ i μ (kF_item v Φ) Ψ):=rfl
@[simp ↓]theorem kE_rev'{Φ:Pst}{v:MV}{μ:MH}:kE_rev Φ v μ=(∃xs,listAt μ v=some xs∧xs.length < LIM∧∀a,μ a=none→Φ (.ref a) (upd μ a (some (.list xs.reverse)))):=rfl
@[simp ↓]theorem kE_init'{Φ:Pst}{v:MV}{μ:MH}:kE_init Φ v μ=(∃xs,listAt μ v=some xs∧xs.length < LIM∧∀a,μ a=none→Φ (.ref a) (upd μ a (some (.list xs.dropLast)))):=rfl
@[simp ↓]theorem kE_bin'{C:aB}{ρ:ao}{op:MOp}{r:ME}{Φ:Pst}{Ψ:Exc}{v:MV}{μ:MH}:kE_bin C ρ op r Φ Ψ v μ=(evE C ρ r μ (kF_bin op v Φ) Ψ):=rfl
@[simp ↓]theorem kE_cmp'{C:aB}{ρ:ao}{op:MCmp}{r:ME}{Φ:Pst}{Ψ:Exc}{v:MV}{μ:MH}:kE_cmp C ρ op r Φ Ψ v μ=(evE C ρ r μ (kF_cmp op v Φ) Ψ):=rfl
@[simp ↓]theorem kE_isNone'{b:Bool}{Φ:Pst}{v:MV}{μ:MH}:kE_isNone b Φ v μ=(Φ (.bool (isNoneV v==b)) μ):=rfl
@[simp ↓]theorem kE_isIn'{C:aB}{ρ:ao}{r:ME}{Φ:Pst}{Ψ:Exc}{v:MV}{μ:MH}:kE_isIn C ρ r Φ Ψ v μ=(evE C ρ r μ (kF_isIn v Φ) Ψ):=rfl
@[simp ↓]theorem kE_neNil'{b:Bool}{Φ:Pst}{v:MV}{μ:MH}:kE_neNil b Φ v μ=(∃xs,listAt μ v=some xs∧Φ (.bool (xs.isEmpty==b)) μ):=rfl
@[simp ↓]theorem kE_call'{C:aB}{ρ:ao}{as:MEs}{Φ:Pst}{Ψ:Exc}{v:MV}{μ:MH}:kE_call C ρ as Φ Ψ v μ=(evEs C ρ as μ (kL_call C v Φ Ψ) Ψ):=rfl
@[simp ↓ low]theorem kE_meth'{C:aB}{ρ:ao}{K:Addr}{f:Addr}{n:String}{as:MEs}{Φ:Pst}{Ψ:Exc}{v:MV}{μ:MH}:kE_meth C ρ K f n as Φ Ψ v μ=(∃a g k,v= .ref a∧μ a=some (.inst K g k)∧g n=none∧evEs C ρ as μ (kL_meth C f v Φ Ψ) Ψ):=rfl
@[simp ↓]theorem kE_len'{Φ:Pst}{v:MV}{μ:MH}:kE_len Φ v μ=(∃xs,listAt μ v=some xs∧xs.length < LIM∧Φ (.int xs.length) μ):=rfl
@[simp ↓]theorem kE_sum'{Φ:Pst}{v:MV}{μ:MH}:kE_sum Φ v μ=(∃xs is,listAt μ v=some xs∧xs.length < LIM∧intsOf xs=some is∧Φ (.int is.sum) μ):=rfl
@[simp ↓]theorem kE_listOf'{Φ:Pst}{v:MV}{μ:MH}:kE_listOf Φ v μ=(∃xs,listAt μ v=some xs∧xs.length < LIM∧∀a,μ a=none→Φ (.ref a) (upd μ a (some (.list xs)))):=rfl
@[simp ↓]theorem kE_bm'{C:aB}{ρ:ao}{n:BM}{as:MEs}{Φ:Pst}{Ψ:Exc}{v:MV}{μ:MH}:kE_bm C ρ n as Φ Ψ v μ=(bmOk n v μ=true∧evEs C ρ as μ (kL_bm n v Φ) Ψ):=rfl
@[simp ↓]theorem kE_ladd'{C:aB}{ρ:ao}{r:ME}{Φ:Pst}{Ψ:Exc}{v:MV}{μ:MH}:kE_ladd C ρ r Φ Ψ v μ=(evE C ρ r μ (kF_ladd v Φ) Ψ):=rfl
@[simp ↓]theorem kE_arg'{C:aB}{ρ:ao}{r:MEs}{Φ:Lst}{Ψ:Exc}{v:MV}{μ:MH}:kE_arg C ρ r Φ Ψ v μ=(evEs C ρ r μ (kL_arg v Φ) Ψ):=rfl
theorem kE_seta'{n:String}{w:MV}{ρ:ao}{Φ:Apst}{v:MV}{μ:MH}:kE_seta n w ρ Φ v μ=(∃μ',setAttrM μ v n w=some μ'∧Φ ρ μ'):=rfl
@[simp ↓]theorem kE_seti'{C:aB}{ρ:ao}{i:ME}{w:MV}{Φ:Apst}{Ψ:Exc}{v:MV}{μ:MH}:kE_seti C ρ i w Φ Ψ v μ=(evE C ρ i μ (kF_seti v w ρ Φ) Ψ):=rfl
@[simp ↓]theorem kE_asg'{C:aB}{t:MT}{ρ:ao}{Φ:FPst}{Ψ:Exc}{v:MV}{μ:MH}:kE_asg C t ρ Φ Ψ v μ=(asg C ρ t v μ (kA_next Φ) Ψ):=rfl
@[simp ↓]theorem kE_asgC'{x:String}{ρ:ao}{Φ:FPst}{v:MV}{μ:MH}:kE_asgC x ρ Φ v μ=(Φ .next (upd ρ x (some v)) μ):=rfl
@[simp ↓]theorem kE_unp'{C:aB}{ts:List MT}{ρ:ao}{Φ:FPst}{Ψ:Exc}{v:MV}{μ:MH}:kE_unp C ts ρ Φ Ψ v μ=(∃vs,seqAt μ v=some vs∧vs.length=ts.length∧asgs C ts vs ρ μ (kA_next Φ) Ψ):=rfl
@[simp ↓]theorem kE_expr'{ρ:ao}{Φ:FPst}{v:MV}{μ:MH}:kE_expr ρ Φ v μ=(Φ .next ρ μ):=rfl
@[simp ↓]theorem kE_ret'{ρ:ao}{Φ:FPst}{v:MV}{μ:MH}:kE_ret ρ Φ v μ=(Φ (.ret v) ρ μ):=rfl
@[simp ↓]theorem kE_forS'{C:aB}{x:String}{b:MSs}{ρ:ao}{Φ:FPst}{a:Addr}{μ:MH}:kE_forS C x b ρ Φ (.ref a) μ=∃k,foL C a x b Φ k 0 ρ μ:=propext ⟨fun pp_=>q20 pp_ fun u_ k e h=> ⟨k,by cases e;exact h⟩,fun pp_=>q1 pp_ fun k h=> ⟨a,k,rfl,h⟩⟩
@[simp ↓]theorem kE_fstr'{Φ:Pst}{v:MV}{μ:MH}:kE_fstr Φ v μ=(Φ v μ):=rfl
@[simp ↓]theorem kS_seq_n{C:aB}{r:MSs}{Φ:FPst}{Ψ:Exc}{ρ:ao}{μ:MH}:kS_seq C r Φ Ψ .next ρ μ=(aA C r ρ μ Φ Ψ):=rfl
@[simp ↓]theorem kS_seq_r{C:aB}{r:MSs}{Φ:FPst}{Ψ:Exc}{v:MV}{ρ:ao}{μ:MH}:kS_seq C r Φ Ψ (.ret v) ρ μ=(Φ (.ret v) ρ μ):=rfl
@[simp ↓]theorem kS_ret_n{Φ:Pst}{ρ:ao}{μ:MH}:bf Φ .next ρ μ=(Φ .none μ):=rfl
@[simp ↓]theorem kS_ret_r{Φ:Pst}{v:MV}{ρ:ao}{μ:MH}:bf Φ (.ret v) ρ μ=(Φ v μ):=rfl
@[simp ↓]theorem kS_wh_n{C:aB}{c:ME}{b:MSs}{Φ:FPst}{k:Nat}{ρ:ao}{μ:MH}:kS_wh C c b Φ k .next ρ μ=(whL C c b Φ k ρ μ):=rfl
@[simp ↓]theorem kS_wh_r{C:aB}{c:ME}{b:MSs}{Φ:FPst}{k:Nat}{v:MV}{ρ:ao}{μ:MH}:kS_wh C c b Φ k (.ret v) ρ μ=(Φ (.ret v) ρ μ):=rfl
@[simp ↓]theorem kS_fo_n{C:aB}{a:Addr}{x:String}{b:MSs}{Φ:FPst}{k i:Nat}{ρ:ao}{μ:MH}:kS_fo C a x b Φ k i .next ρ μ=(foL C a x b Φ k i ρ μ):=rfl
@[simp ↓]theorem kS_fo_r{C:aB}{a:Addr}{x:String}{b:MSs}{Φ:FPst}{k i:Nat}{v:MV}{ρ:ao}{μ:MH}:kS_fo C a x b Φ k i (.ret v) ρ μ=(Φ (.ret v) ρ μ):=rfl
@[simp ↓]theorem kS_fr_n{C:aB}{x:String}{b:MSs}{Φ:FPst}{r:List Int}{ρ:ao}{μ:MH}:kS_fr C x b Φ r .next ρ μ=(frL C x b Φ r ρ μ):=rfl
@[simp ↓]theorem kS_fr_r{C:aB}{x:String}{b:MSs}{Φ:FPst}{r:List Int}{v:MV}{ρ:ao}{μ:MH}:kS_fr C x b Φ r (.ret v) ρ μ=(Φ (.ret v) ρ μ):=rfl
@[simp ↓]theorem bm_c{p:String}{ps:List String}{v:MV}{vs:List MV}:bindM (p::ps) (v::vs)=upd (bindM ps vs) p (some v):=rfl
@[simp ↓]theorem bm_n:bindM [] []=fun u_=>none:=rfl
@[simp]theorem k_add{a b:Int}{Φ:Pst}{μ:MH}:kF_bin .add (.int a) Φ (.int b) μ=Φ (.int (a+b)) μ:=exf rfl _
@[simp]theorem k_sub{a b:Int}{Φ:Pst}{μ:MH}:kF_bin .sub (.int a) Φ (.int b) μ=Φ (.int (a - b)) μ:=exf rfl _
theorem k_of{op:MOp}{x v w:MV}(h:binOf op x v=some w){Φ:Pst}{μ:MH}:kF_bin op x Φ v μ=Φ w μ:=exf h _
@[simp]theorem isE_ne{α:Type}{xs:List α}(h:xs≠[]):xs.isEmpty=false:=List.isEmpty_eq_false_iff.mpr h
@[simp]theorem isE_app{α:Type}{xs:List α}{y:α}:(xs++ [y]).isEmpty=false:=by cases xs <;> rfl
section
variable{C:aB}{ρ:ao}{μ:MH}{Φ:Pst}{Φ':FPst}{Ψ:Exc}
@[simp]theorem k_lt{a b:Int}:kF_cmp .lt (.int a) Φ (.int b) μ=Φ (.bool (decide (a < b))) μ:=exf rfl _
@[simp]theorem k_gt{a b:Int}:kF_cmp .gt (.int a) Φ (.int b) μ=Φ (.bool (decide (a > b))) μ:=exf rfl _
@[simp]theorem k_eq{a b:Int}:kF_cmp .eq (.int a) Φ (.int b) μ=Φ (.bool (decide (a=b))) μ:=exf rfl _
@[simp]theorem k_ne{a b:Int}:kF_cmp .ne (.int a) Φ (.int b) μ=Φ (.bool (!decide (a=b))) μ:=exf rfl _
@[simp]theorem k_eqs{a b:Str}:kF_cmp .eq (.str a) Φ (.str b) μ=Φ (.bool (a==b)) μ:=exf rfl _
@[simp]theorem k_nes{a b:Str}:kF_cmp .ne (.str a) Φ (.str b) μ=Φ (.bool (!(a==b))) μ:=exf rfl _
@[simp]theorem k_neg{a:Int}:kE_neg Φ (.int a) μ=Φ (.int (-a)) μ:=exf rfl _
theorem kE_str{i:Int}(h:small i=true):kE_strOf Φ (.int i) μ=Φ (.str (itext i)) μ:=(exf rfl _).trans (propext ⟨And.right,fun a=> ⟨h,a⟩⟩)
theorem k_T{P Q:Prop}:(∃b,MV.bool true= .bool b∧if b then P else Q)=P:=exb _
theorem k_F{P Q:Prop}:(∃b,MV.bool false= .bool b∧if b then P else Q)=Q:=(exb _).trans (if_neg nofun)
@[simp]theorem kE_ite_t{t e:ME}:kE_ite C ρ t e Φ Ψ (.bool true) μ=evE C ρ t μ Φ Ψ:=k_T
@[simp]theorem kE_ite_f{t e:ME}:kE_ite C ρ t e Φ Ψ (.bool false) μ=evE C ρ e μ Φ Ψ:=k_F
@[simp]theorem kE_iteS_t{a b:MSs}:kE_iteS C a b ρ Φ' Ψ (.bool true) μ=aA C a ρ μ Φ' Ψ:=k_T
@[simp]theorem kE_iteS_f{a b:MSs}:kE_iteS C a b ρ Φ' Ψ (.bool false) μ=aA C b ρ μ Φ' Ψ:=k_F
@[simp]theorem kE_whS_t{c:ME}{b:MSs}{k:Nat}:kE_whS C c b ρ Φ' k (.bool true) μ=aA C b ρ μ (kS_wh C c b Φ' k) (fun u_=>False):=k_T
@[simp]theorem kE_whS_f{c:ME}{b:MSs}{k:Nat}:kE_whS C c b ρ Φ' k (.bool false) μ=Φ' .next ρ μ:=k_F
theorem kE_ite_p{p:Prop} [Decidable p](h:p){t e:ME}:kE_ite C ρ t e Φ Ψ (.bool (decide p)) μ=evE C ρ t μ Φ Ψ:=by rw[decide_eq_true h];exact k_T
theorem kE_ite_n{p:Prop} [Decidable p](h:¬p){t e:ME}:kE_ite C ρ t e Φ Ψ (.bool (decide p)) μ=evE C ρ e μ Φ Ψ:=by rw[decide_eq_false h];exact k_F
theorem kE_iteS_p{p:Prop} [Decidable p](h:p){a b:MSs}:kE_iteS C a b ρ Φ' Ψ (.bool (decide p)) μ=aA C a ρ μ Φ' Ψ:=by rw[decide_eq_true h];exact k_T
theorem kE_iteS_n{p:Prop} [Decidable p](h:¬p){a b:MSs}:kE_iteS C a b ρ Φ' Ψ (.bool (decide p)) μ=aA C b ρ μ Φ' Ψ:=by rw[decide_eq_false h];exact k_F
theorem kE_iteS_nn{p:Prop} [Decidable p](h:¬p){a b:MSs}:kE_iteS C a b ρ Φ' Ψ (.bool (!decide p)) μ=aA C a ρ μ Φ' Ψ:=by rw[decide_eq_false h];exact k_T
@[simp]theorem kE_and_t{r:ME}:kE_boolop C ρ true r Φ Ψ (.bool true) μ=evE C ρ r μ Φ Ψ:=exb _
@[simp]theorem kE_and_f{r:ME}:kE_boolop C ρ true r Φ Ψ (.bool false) μ=Φ (.bool false) μ:=(exb _).trans (if_neg nofun)
@[simp]theorem kE_or_t{r:ME}:kE_boolop C ρ false r Φ Ψ (.bool true) μ=Φ (.bool true) μ:=(exb _).trans (if_neg nofun)
@[simp]theorem kE_or_f{r:ME}:kE_boolop C ρ false r Φ Ψ (.bool false) μ=evE C ρ r μ Φ Ψ:=exb _
end
section
variable{C:aB}{ρ:ao}{μ:MH}{Φ:Pst}{Ψ:Exc}
@[simp ↓]theorem e_var{x:String}:evE C ρ (.var x) μ Φ Ψ=Ex (ρ x) Φ μ:=rfl
@[simp ↓]theorem e_cst{v:MV}:evE C ρ (.cst v) μ Φ Ψ=Φ v μ:=rfl
@[simp ↓]theorem e_glob{x:String}{v:MV}:evE C ρ (.glob x v) μ Φ Ψ=Φ v μ:=rfl
@[simp ↓]theorem e_attr{e:ME}{n:String}:evE C ρ (.attr e n) μ Φ Ψ=evE C ρ e μ (kE_attr n Φ) Ψ:=rfl
@[simp ↓]theorem e_item{e i:ME}:evE C ρ (.item e i) μ Φ Ψ=evE C ρ e μ (kE_item C ρ i Φ Ψ) Ψ:=rfl
@[simp ↓]theorem e_rev{e:ME}:evE C ρ (.rev e) μ Φ Ψ=evE C ρ e μ (kE_rev Φ) Ψ:=rfl
@[simp ↓]theorem e_init{e:ME}:evE C ρ (.init e) μ Φ Ψ=evE C ρ e μ (kE_init Φ) Ψ:=rfl
@[simp ↓]theorem e_bin{op:MOp}{l r:ME}:evE C ρ (.bin op l r) μ Φ Ψ=evE C ρ l μ (kE_bin C ρ op r Φ Ψ) Ψ:=rfl
@[simp ↓]theorem e_neg{e:ME}:evE C ρ (.neg e) μ Φ Ψ=evE C ρ e μ (kE_neg Φ) Ψ:=rfl
@[simp ↓]theorem e_cmp{op:MCmp}{l r:ME}:evE C ρ (.cmp op l r) μ Φ Ψ=evE C ρ l μ (kE_cmp C ρ op r Φ Ψ) Ψ:=rfl
@[simp ↓]theorem e_isNone{b:Bool}{e:ME}:evE C ρ (.isNone b e) μ Φ Ψ=evE C ρ e μ (kE_isNone b Φ) Ψ:=rfl
@[simp ↓]theorem e_isIn{l r:ME}:evE C ρ (.isIn l r) μ Φ Ψ=evE C ρ l μ (kE_isIn C ρ r Φ Ψ) Ψ:=rfl
@[simp ↓]theorem e_neNil{b:Bool}{e:ME}:evE C ρ (.neNil b e) μ Φ Ψ=evE C ρ e μ (kE_neNil b Φ) Ψ:=rfl
@[simp ↓]theorem e_boolop{c:Bool}{l r:ME}:evE C ρ (.boolop c l r) μ Φ Ψ=evE C ρ l μ (kE_boolop C ρ c r Φ Ψ) Ψ:=rfl
@[simp ↓]theorem e_ite{c t e:ME}:evE C ρ (.ite c t e) μ Φ Ψ=evE C ρ c μ (kE_ite C ρ t e Φ Ψ) Ψ:=rfl
@[simp ↓]theorem e_call{f:ME}{as:MEs}:evE C ρ (.call f as) μ Φ Ψ=evE C ρ f μ (kE_call C ρ as Φ Ψ) Ψ:=rfl
@[simp ↓]theorem e_meth{K f:Addr}{e:ME}{n:String}{as:MEs}:evE C ρ (.meth K f e n as) μ Φ Ψ=evE C ρ e μ (kE_meth C ρ K f n as Φ Ψ) Ψ:=rfl
@[simp ↓]theorem e_new{K f:Addr}{x:String}{as:MEs}:evE C ρ (.new K f x as) μ Φ Ψ=evEs C ρ as μ (kL_new C K f Φ Ψ) Ψ:=rfl
@[simp ↓]theorem e_len{e:ME}:evE C ρ (.len e) μ Φ Ψ=evE C ρ e μ (kE_len Φ) Ψ:=rfl
@[simp ↓]theorem e_sum{e:ME}:evE C ρ (.sum e) μ Φ Ψ=evE C ρ e μ (kE_sum Φ) Ψ:=rfl
@[simp ↓]theorem e_strOf{e:ME}:evE C ρ (.strOf e) μ Φ Ψ=evE C ρ e μ (kE_strOf Φ) Ψ:=rfl
@[simp ↓]theorem e_listOf{e:ME}:evE C ρ (.listOf e) μ Φ Ψ=evE C ρ e μ (kE_listOf Φ) Ψ:=rfl
@[simp ↓]theorem e_bm{n:BM}{e:ME}{as:MEs}:evE C ρ (.bm n e as) μ Φ Ψ=evE C ρ e μ (kE_bm C ρ n as Φ Ψ) Ψ:=rfl
@[simp ↓]theorem e_tuple{es:MEs}:evE C ρ (.tuple es) μ Φ Ψ=evEs C ρ es μ (kL_tuple Φ) Ψ:=rfl
@[simp ↓]theorem e_list{es:MEs}:evE C ρ (.list es) μ Φ Ψ=evEs C ρ es μ (kL_list Φ) Ψ:=rfl
@[simp ↓]theorem e_dict0:evE C ρ .dict0 μ Φ Ψ=∀a,μ a=none→Φ (.ref a) (upd μ a (some (.idict (fun u_=>none) 0))):=rfl
@[simp ↓]theorem e_fstr{ps:MEs}:evE C ρ (.fstr ps) μ Φ Ψ=evFs C ρ ps (Str.ofString "") μ (fun x μ=>Φ (.str x) μ) Ψ:=rfl
@[simp ↓]theorem e_ladd{l r:ME}:evE C ρ (.ladd l r) μ Φ Ψ=evE C ρ l μ (kE_ladd C ρ r Φ Ψ) Ψ:=rfl
@[simp ↓]theorem es_nil{Φ:List MV→MH→Prop}:evEs C ρ .nil μ Φ Ψ=Φ [] μ:=rfl
@[simp ↓]theorem es_cons{e:ME}{r:MEs}{Φ:List MV→MH→Prop}:evEs C ρ (.cons e r) μ Φ Ψ=evE C ρ e μ (kE_arg C ρ r Φ Ψ) Ψ:=rfl
theorem ok_append{v:MV}:bmOk .append v μ=(listAt μ v).isSome:=by cases v <;> rfl
theorem ok_pop{v:MV}:bmOk .pop v μ=(listAt μ v).isSome:=by cases v <;> rfl
theorem ok_popAt{v:MV}:bmOk .popAt v μ=(listAt μ v).isSome:=by cases v <;> rfl
theorem ok_extend{v:MV}:bmOk .extend v μ=(listAt μ v).isSome:=by cases v <;> rfl
theorem ok_insert{v:MV}:bmOk .insert v μ=(listAt μ v).isSome:=by cases v <;> rfl
theorem ok_index{v:MV}:bmOk .index v μ=(listAt μ v).isSome:=by cases v <;> rfl
theorem ok_remove{v:MV}:bmOk .remove v μ=(listAt μ v).isSome:=by cases v <;> rfl
theorem ok_join{s:Str}:bmOk .join (.str s) μ=true:=rfl
theorem p_popAt{a:Addr}{i:Int}:bmP .popAt (.ref a) [.int i] μ Φ=∃xs j y,listAt μ (.ref a)=some xs∧xs.length < LIM∧pyIdx i xs.length=some j∧xs[j]? =some y∧Φ y (upd μ a (some (.list (xs.eraseIdx j)))):=rfl
theorem p_insert{a:Addr}{i:Int}{y:MV}:bmP .insert (.ref a) [.int i,y] μ Φ=∃xs,listAt μ (.ref a)=some xs∧xs.length < LIM∧0≤i∧i≤xs.length∧Φ .none (upd μ a (some (.list (xs.take i.toNat++y::xs.drop i.toNat)))):=rfl
theorem p_index{a:Addr}{k:Int}:bmP .index (.ref a) [.int k] μ Φ=∃xs is,listAt μ (.ref a)=some xs∧xs.length < LIM∧intsOf xs=some is∧k∈is∧Φ (.int (is.idxOf k)) μ:=rfl
theorem p_remove{a:Addr}{k:Int}:bmP .remove (.ref a) [.int k] μ Φ=∃xs is,listAt μ (.ref a)=some xs∧xs.length < LIM∧intsOf xs=some is∧k∈is∧Φ .none (upd μ a (some (.list (xs.eraseIdx (is.idxOf k))))):=rfl
theorem p_join{s:Str}{b:Addr}:bmP .join (.str s) [.ref b] μ Φ=∃xs ts,listAt μ (.ref b)=some xs∧strsOf xs=some ts∧xs.length < LIM∧sumLen ts≤1000000∧s.length≤10∧Φ (.str (PySem.Txt.join s ts)) μ:=rfl
@[simp ↓]theorem a_name{x:String}{v:MV}{Φ:ao→MH→Prop}:asg C ρ (.name x) v μ Φ Ψ=Φ (upd ρ x (some v)) μ:=rfl
@[simp ↓]theorem a_attr{e:ME}{n:String}{v:MV}{Φ:ao→MH→Prop}:asg C ρ (.attr e n) v μ Φ Ψ=evE C ρ e μ (kE_seta n v ρ Φ) Ψ:=rfl
@[simp ↓]theorem a_item{e i:ME}{v:MV}{Φ:ao→MH→Prop}:asg C ρ (.item e i) v μ Φ Ψ=evE C ρ e μ (kE_seti C ρ i v Φ Ψ) Ψ:=rfl
@[simp ↓]theorem as_nil{Φ:ao→MH→Prop}:asgs C [] [] ρ μ Φ Ψ=Φ ρ μ:=rfl
@[simp ↓]theorem as_cons{t:MT}{ts:List MT}{v:MV}{vs:List MV}{Φ:ao→MH→Prop}:asgs C (t::ts) (v::vs) ρ μ Φ Ψ=asg C ρ t v μ (kA_asgs C ts vs Φ Ψ) Ψ:=rfl
theorem st_pop{a:Addr}{xs:List MV}{y:MV}(h:μ a=some (.list (xs++ [y])))(hl:xs.length+1 < LIM)(k:∀m,m a=some (.list xs)→(∀x,x≠a→m x=μ x)→Φ y m):bmP .pop (.ref a) [] μ Φ:=
 ⟨xs++ [y],y,aE h,by simpa using hl,by simp,k _ (by simp) fun x hx=>af _ _ hx⟩
theorem st_append{a:Addr}{xs:List MV}{y:MV}(h:μ a=some (.list xs))(hl:xs.length < LIM)(k:∀m,m a=some (.list (xs++ [y]))→(∀x,x≠a→m x=μ x)→Φ .none m):bmP .append (.ref a) [y] μ Φ:=
 ⟨xs,aE h,hl,k _ (aj _ _ _) fun x hx=>af _ _ hx⟩
theorem st_extend{a b:Addr}{xs ys:List MV}(h:μ a=some (.list xs))(h':μ b=some (.list ys))(hl:xs.length < LIM)(hl':ys.length < LIM)(k:∀m,m a=some (.list (xs++ys))→(∀x,x≠a→m x=μ x)→Φ .none m):bmP .extend (.ref a) [.ref b] μ Φ:=
 ⟨xs,ys,aE h,aE h',hl,hl',k _ (aj _ _ _) fun x hx=>af _ _ hx⟩
theorem st_new{o:MO}(k:∀a m,μ a=none→m a=some o→(∀x,x≠a→m x=μ x)→Φ (.ref a) m):∀a,μ a=none→Φ (.ref a) (upd μ a (some o)):=
 fun a ha=>k a _ ha (aj _ _ _) fun x hx=>af _ _ hx
end
section
variable{C:aB}{ρ:ao}{μ:MH}{Φ:FPst}{Ψ:Exc}
@[simp ↓]theorem ev_nil:aA C .nil ρ μ Φ Ψ=Φ .next ρ μ:=rfl
@[simp ↓]theorem ev_cons{s:MS}{r:MSs}:aA C (.cons s r) ρ μ Φ Ψ=evS C s ρ μ (kS_seq C r Φ Ψ) Ψ:=rfl
@[simp ↓]theorem ev_assign{t:MT}{e:ME}:evS C (.assign t e) ρ μ Φ Ψ=evE C ρ e μ (kE_asg C t ρ Φ Ψ) Ψ:=rfl
@[simp ↓]theorem ev_assignC{x:String}{e:ME}:evS C (.assignC x e) ρ μ Φ Ψ=evE C ρ e μ (kE_asgC x ρ Φ) Ψ:=rfl
@[simp ↓]theorem ev_multi{ts:List MT}{es:MEs}:evS C (.multi ts es) ρ μ Φ Ψ=evEs C ρ es μ (kL_multi C ts ρ Φ Ψ) Ψ:=rfl
@[simp ↓]theorem ev_unpack{ts:List MT}{e:ME}:evS C (.unpack ts e) ρ μ Φ Ψ=evE C ρ e μ (kE_unp C ts ρ Φ Ψ) Ψ:=rfl
@[simp ↓]theorem ev_expr{e:ME}:evS C (.expr e) ρ μ Φ Ψ=evE C ρ e μ (kE_expr ρ Φ) Ψ:=rfl
@[simp ↓]theorem ev_ret{e:ME}:evS C (.ret e) ρ μ Φ Ψ=evE C ρ e μ (kE_ret ρ Φ) Ψ:=rfl
@[simp ↓]theorem ev_retNone:evS C .retNone ρ μ Φ Ψ=Φ (.ret .none) ρ μ:=rfl
@[simp ↓]theorem ev_raise:evS C .raise ρ μ Φ Ψ=Ψ μ:=rfl
@[simp ↓]theorem ev_ite{c:ME}{a b:MSs}:evS C (.ite c a b) ρ μ Φ Ψ=evE C ρ c μ (kE_iteS C a b ρ Φ Ψ) Ψ:=rfl
theorem whL_succ{c:ME}{b:MSs}{k:Nat}:whL C c b Φ (k+1) ρ μ=evE C ρ c μ (kE_whS C c b ρ Φ k) (fun u_=>False):=rfl
@[simp ↓]theorem ev_while{c:ME}{b:MSs}:evS C (.while c b) ρ μ Φ Ψ=∃k,whL C c b Φ k ρ μ:=rfl
theorem foL_succ{a:Addr}{x:String}{b:MSs}{k i:Nat}:foL C a x b Φ (k+1) i ρ μ=∃xs,μ a=some (.list xs)∧match xs[i]? with
  |none=>Φ .next ρ μ
  |some v=>aA C b (upd ρ x (some v)) μ (kS_fo C a x b Φ k (i+1)) (fun u_=>False):=rfl
@[simp ↓]theorem ev_for{x:String}{e:ME}{b:MSs}:evS C (.for x e b) ρ μ Φ Ψ=evE C ρ e μ (kE_forS C x b ρ Φ) Ψ:=rfl
theorem frL_nil{x:String}{b:MSs}:frL C x b Φ [] ρ μ=Φ .next ρ μ:=rfl
theorem frL_cons{x:String}{b:MSs}{i:Int}{r:List Int}:frL C x b Φ (i::r) ρ μ=aA C b (upd ρ x (some (.int i))) μ (kS_fr C x b Φ r) (fun u_=>False):=rfl
@[simp ↓]theorem ev_forRange{x:String}{es:MEs}{b:MSs}:evS C (.forRange x es b) ρ μ Φ Ψ=evEs C ρ es μ (kL_range C x b ρ Φ) Ψ:=rfl
end
section
variable{μ:MH}{Φ:Pst}{Ψ:Exc}
theorem p_dget{a:Addr}{k:Int}:bmP .dget (.ref a) [.int k, .none] μ Φ=∃w,itemOf μ (.ref a) (.int k)=some w∧(∃f n,μ a=some (.idict f n))∧Φ w μ:=rfl
@[simp ↓]theorem f_nil{C:aB}{ρ:ao}{out:Str}{Φ:Str→MH→Prop}:evFs C ρ .nil out μ Φ Ψ=Φ out μ:=rfl
@[simp ↓]theorem f_str{C:aB}{ρ:ao}{out b:Str}{r:MEs}{Φ:Str→MH→Prop}:evFs C ρ (.cons (.cst (.str b)) r) out μ Φ Ψ=evFs C ρ r (out++b) μ Φ Ψ:=rfl
@[simp ↓]theorem f_attr{C:aB}{ρ:ao}{out:Str}{e:ME}{n:String}{r:MEs}{Φ:Str→MH→Prop}:evFs C ρ (.cons (.attr e n) r) out μ Φ Ψ=evE C ρ (.attr e n) μ (fun v μ=> ∃i,intOf v=some i∧small i=true∧evFs C ρ r (out++itext i) μ Φ Ψ) Ψ:=rfl
end
theorem call_of{d:Nat}{a:Addr}{fn:Fn}(ht:tab a=some fn){vs:List MV}{μ:MH}{Φ:Pst}{Ψ:Exc}(hl:vs.length=fn.params.length)
  (h:aA (az tab d) fn.body (bindM fn.params vs) μ (bf Φ) Ψ):az tab (d+1) a vs μ Φ Ψ:=⟨fn,ht,hl,h⟩
@[simp]theorem ofStr_iff{a b:String}:(Str.ofString a=Str.ofString b)↔a=b:=⟨ofString_inj,fun e=>e▸rfl⟩
theorem along_spec{d:Nat}{s:Int}{μ:MH}{Φ:Pst}{Ψ:Exc}(h:Φ (.int (if s=2 then 0 else 1)) μ):az tab (d+1) 175 [.int s] μ Φ Ψ:=by
 refine call_of (fn:=f_along) rfl rfl ?_
 by_cases e:s=2 <;> simp_all [f_along]
theorem sort_along_spec{d:Nat}{a:Int}{μ:MH}{Φ:Pst}{Ψ:Exc}(h:Φ (.int (if a=0 then 2 else 1)) μ):az tab (d+1) 182 [.int a] μ Φ Ψ:=by
 refine call_of (fn:=f_sort_along) rfl rfl ?_
 by_cases e:a=0 <;> simp_all [f_sort_along]
noncomputable abbrev Slot:=Nat×Int
set_option genInjectivity false in structure WD where
 sort:Int
 par:Int
 lft:Int
 top:Int
 wid:Int
 hei:Int
 buf:Int
set_option genInjectivity false in structure BD where
 kind:Int
 row:Int
 col:Int
 buf:Int
 num:Int
set_option genInjectivity false in structure Z where
 loc:Slot→Addr
 last:Int
 root:Int
 sel:Int
 gn:Nat
 bn:Nat
 S:List Int
 L:List Int
 wd:Int→WD
 K:Int→List Int
 bd:Int→BD
 P:Int→List Int
 deck:List Int
noncomputable def live(z:Z)(s:Slot):Prop:=(s=(0,0)∨s=(1,0)∨s=(2,0))∨((s.1=3∨s.1=4∨s.1=5)∧s.2∈z.S)∨((s.1=6∨s.1=7)∧s.2∈z.L)
structure TreeF(z:Z)(f:String→Option MV):Prop where
 windows:f "windows"=some (.ref (z.loc (1,0)))
 last:f "last"=some (.int z.last)
 clock:∃c,f "clock"=some (.int c)
 lw:f "least_width"=some (.int 3)
 lh:f "least_height"=some (.int 2)
 root:f "root"=some (.int z.root)
 sel:f "selected"=some (.int z.sel)
 m1:f "fresh"=none
 m2:f "window"=none
 m3:f "leaf"=none
 m4:f "touch"=none
 m5:f "select"=none
 m6:f "least_leaf"=none
structure WinF(loc:Slot→Addr)(i:Int)(d:WD)(f:String→Option MV):Prop where
 number:f "number"=some (.int i)
 sort:f "sort"=some (.int d.sort)
 par:f "parent"=some (.int d.par)
 lft:f "left"=some (.int d.lft)
 top:f "top"=some (.int d.top)
 wid:f "width"=some (.int d.wid)
 hei:f "height"=some (.int d.hei)
 buf:f "buffer"=some (.int d.buf)
 start:f "start"=some (.int 1)
 point:f "point"=some (.int 1)
 hscroll:f "hscroll"=some (.int 0)
 kids:f "children"=some (.ref (loc (4,i)))
 early:f "earlier"=some (.ref (loc (5,i)))
 time:∃v,f "use_time"=some v
 m1:f "size"=none
 m2:f "set_size"=none
 m3:f "shown"=none
 m4:f "show"=none
noncomputable def bV(k:Int):Str:=if k=0 then Str.ofString "leaf" else if k=1 then Str.ofString "column" else Str.ofString "row"
structure BoxF(loc:Slot→Addr)(i:Int)(d:BD)(f:Str→Option MV):Prop where
 sort:f (Str.ofString "sort")=some (.str (bV d.kind))
 parts:f (Str.ofString "parts")=some (.ref (loc (7,i)))
 row:d.kind=0→f (Str.ofString "row")=some (.int d.row)
 col:d.kind=0→f (Str.ofString "column")=some (.int d.col)
 buf:d.kind=0→f (Str.ofString "buffer")=some (.int d.buf)
 num:d.kind=0→f (Str.ofString "number")=some (.int d.num)
structure R(μ:MH)(z:Z):Prop where
 inj:∀s t,live z s→live z t→z.loc s=z.loc t→s=t
 tree:∃f n,μ (z.loc (0,0))=some (.inst 164 f n)∧n≤7∧TreeF z f
 tab:∃g,μ (z.loc (1,0))=some (.idict g z.gn)∧∀i∈z.S,g i=some (.ref (z.loc (3,i)))
 win:∀i∈z.S,∃f,μ (z.loc (3,i))=some (.inst 93 f 16)∧WinF z.loc i (z.wd i) f
 kids:∀i∈z.S,μ (z.loc (4,i))=some (.list ((z.K i).map .int))
 early:∀i∈z.S,μ (z.loc (5,i))=some (.list [])
 box:∀i∈z.L,∃f n,μ (z.loc (6,i))=some (.sdict f n)∧n≤z.bn∧BoxF z.loc i (z.bd i) f
 parts:∀i∈z.L,μ (z.loc (7,i))=some (.list ((z.P i).map fun j=> .ref (z.loc (6,j))))
 deck:μ (z.loc (2,0))=some (.list (z.deck.map .int))
noncomputable def Nl(z:Z)(a:Addr):Prop:=∀s,live z s→z.loc s≠a
noncomputable def Off(z:Z)(μ μ':MH):Prop:=∀a,Nl z a→μ' a=μ a
noncomputable def Ext(μ μ':MH):Prop:=∀a o,μ a=some o→μ' a=some o
theorem Ext.refl(μ:MH):Ext μ μ:=fun u_ u_ h=>h
theorem Ext.trans{μ μ' μ'':MH}(h:Ext μ μ')(h':Ext μ' μ''):Ext μ μ'':=fun a o e=>h' a o (h a o e)
theorem Ext.new{μ μ':MH}(h:Ext μ μ'){a:Addr}(ha:μ' a=none)(o:Option MO):Ext μ (upd μ' a o):=fun b ob e=>by
 rw[af _ _ fun q=>by rw[q] at e;rw[h a ob e] at ha;cases ha];exact h b ob e
theorem Ext.put{μ μ':MH}(h:Ext μ μ'){a:Addr}(ha:μ a=none)(o:Option MO):Ext μ (upd μ' a o):=fun b ob e=>by
 rw[af _ _ (ne_nb e ha)];exact h b ob e
theorem Ext.none{μ μ':MH}(h:Ext μ μ'){a:Addr}(ha:μ' a= .none):μ a= .none:=by
 cases e:μ a with
 |none=>rfl
 |some o=>rw[h a o e] at ha;exact absurd ha.symm nn
section
variable{μ μ':MH}{z:Z}
theorem live0(z:Z):live z (0,0):= .inl (.inl rfl)
theorem live1(z:Z):live z (1,0):= .inl (.inr (.inl rfl))
theorem live2(z:Z):live z (2,0):= .inl (.inr (.inr rfl))
theorem live3{i:Int}(h:i∈z.S):live z (3,i):= .inr (.inl ⟨.inl rfl,h⟩)
theorem live4{i:Int}(h:i∈z.S):live z (4,i):= .inr (.inl ⟨.inr (.inl rfl),h⟩)
theorem live5{i:Int}(h:i∈z.S):live z (5,i):= .inr (.inl ⟨.inr (.inr rfl),h⟩)
theorem live6{i:Int}(h:i∈z.L):live z (6,i):= .inr (.inr ⟨.inl rfl,h⟩)
theorem live7{i:Int}(h:i∈z.L):live z (7,i):= .inr (.inr ⟨.inr rfl,h⟩)
theorem R.some_(h:R μ z){s:Slot}(hs:live z s):∃o,μ (z.loc s)=some o:=by
 rcases hs with(rfl |rfl |rfl) |⟨h1,h2⟩ |⟨h1,h2⟩
 ·refine q20 h.tree fun f n e u_=> ?_
  exact⟨_,e⟩
 ·refine q17 h.tab fun g e u_=> ?_
  exact⟨_,e⟩
 ·exact⟨_,h.deck⟩
 ·obtain⟨a,i⟩:=s
  skip
  rcases h1 with rfl |rfl |rfl
  ·refine q17 (h.win i h2) fun f e u_=> ?_
   exact⟨_,e⟩
  ·exact⟨_,h.kids i h2⟩
  ·exact⟨_,h.early i h2⟩
 ·obtain⟨a,i⟩:=s
  skip
  rcases h1 with rfl |rfl
  ·refine q20 (h.box i h2) fun f n e u_=> ?_
   exact⟨_,e⟩
  ·exact⟨_,h.parts i h2⟩
theorem R.nl(h:R μ z){a:Addr}(ha:μ a=none):Nl z a:=fun s hs q=>by
 refine q1 (h.some_ hs) fun o e=> ?_
 rw[q,ha] at e;exact absurd e nn
theorem R.same(h:R μ z)(hs:∀s,live z s→μ' (z.loc s)=μ (z.loc s)):R μ' z where
 inj:=h.inj
 tree:=by rw[hs _ (live0 z)];exact h.tree
 tab:=by rw[hs _ (live1 z)];exact h.tab
 win:=fun i hi=>by rw[hs _ (live3 hi)];exact h.win i hi
 kids:=fun i hi=> ((hs _ (live4 hi)).trans (h.kids i hi))
 early:=fun i hi=> ((hs _ (live5 hi)).trans (h.early i hi))
 box:=fun i hi=>by rw[hs _ (live6 hi)];exact h.box i hi
 parts:=fun i hi=> ((hs _ (live7 hi)).trans (h.parts i hi))
 deck:=((hs _ (live2 z)).trans h.deck)
theorem R.ext(h:R μ z)(he:Ext μ μ'):R μ' z:=h.same fun s hs=>by
 refine q1 (h.some_ hs) fun o e=> ?_
 rw[e];exact he _ _ e
theorem R.ne(h:R μ z){s t:Slot}(hs:live z s)(ht:live z t)(hn:s≠t):z.loc s≠z.loc t:=fun e=>hn (h.inj s t hs ht e)
theorem R.setW(h:R μ z){i:Int}(hi:i∈z.S){f':String→Option MV}{d':WD}(hw:WinF z.loc i d' f'):R (upd μ (z.loc (3,i)) (some (.inst 93 f' 16))) {z with wd:=upd z.wd i d'}:=by
 have ne:∀t,live z t→t≠(3,i)→upd μ (z.loc (3,i)) (some (.inst 93 f' 16)) (z.loc t)=μ (z.loc t):=fun t ht hn=>af _ _ (h.ne ht (live3 hi) hn)
 refine⟨h.inj,?_,?_,fun j hj=> ?_,fun j hj=> ?_,fun j hj=> ?_,fun j hj=> ?_,fun j hj=> ?_,?_⟩
 ·rw[ne _ (live0 z) ((ne1 (by decide)))];obtain⟨f,n,a,b,c⟩:=h.tree;exact⟨f,n,a,b,⟨c.1,c.2,c.3,c.4,c.5,c.6,c.7,c.8,c.9,c.10,c.11,c.12,c.13⟩⟩
 ·rw[ne _ (live1 z) ((ne1 (by decide)))];exact h.tab
 ·show∃f,upd μ (z.loc (3,i)) _ (z.loc (3,j))=_∧WinF z.loc j (upd z.wd i d' j) f
  by_cases e:j=i
  ·rw[e];rw[aj,aj];exact⟨_,rfl,hw⟩
  ·rw[ne _ (live3 hj) (by simpa using e),af _ _ e];exact h.win j hj
 ·exact(ne _ (live4 hj) ((ne1 (by decide)))).trans (h.kids j hj)
 ·exact(ne _ (live5 hj) ((ne1 (by decide)))).trans (h.early j hj)
 ·show∃f n,upd μ (z.loc (3,i)) _ (z.loc (6,j))=_∧_
  rw[ne _ (live6 hj) ((ne1 (by decide)))];exact h.box j hj
 ·exact(ne _ (live7 hj) ((ne1 (by decide)))).trans (h.parts j hj)
 ·exact(ne _ (live2 z) ((ne1 (by decide)))).trans h.deck
theorem off_put{s:Slot}(hs:live z s)(o:Option MO):Off z μ (upd μ (z.loc s) o):=fun a ha=>af _ _ (ha s hs).symm
theorem R.setT(h:R μ z){f':String→Option MV}{n:Nat}(hn:n≤7){l r e:Int}(hf:TreeF {z with last:=l,root:=r,sel:=e} f'):R (upd μ (z.loc (0,0)) (some (.inst 164 f' n))) {z with last:=l,root:=r,sel:=e}:=by
 have ne:∀t,live z t→t≠(0,0)→upd μ (z.loc (0,0)) (some (.inst 164 f' n)) (z.loc t)=μ (z.loc t):=fun t ht hn=>af _ _ (h.ne ht (live0 z) hn)
 refine⟨h.inj,⟨f',n,aj _ _ _,hn,hf⟩,?_,fun j hj=> ?_,fun j hj=> ?_,fun j hj=> ?_,fun j hj=> ?_,fun j hj=> ?_,?_⟩
 ·refine q17 h.tab fun g a b=> ?_
  exact⟨g,(ne _ (live1 z) ((ne1 (by decide)))).trans a,b⟩
 ·refine q17 (h.win j hj) fun f a b=> ?_
  exact⟨f,(ne _ (live3 hj) ((ne1 (by decide)))).trans a,b⟩
 ·exact(ne _ (live4 hj) ((ne1 (by decide)))).trans (h.kids j hj)
 ·exact(ne _ (live5 hj) ((ne1 (by decide)))).trans (h.early j hj)
 ·refine q20 (h.box j hj) fun f n a b=> ?_
  exact⟨f,n,(ne _ (live6 hj) ((ne1 (by decide)))).trans a,b⟩
 ·exact(ne _ (live7 hj) ((ne1 (by decide)))).trans (h.parts j hj)
 ·exact(ne _ (live2 z) ((ne1 (by decide)))).trans h.deck
theorem R.setK(h:R μ z){i:Int}(hi:i∈z.S)(l:List Int):R (upd μ (z.loc (4,i)) (some (.list (l.map .int)))) {z with K:=upd z.K i l}:=by
 have ne:∀t,live z t→t≠(4,i)→upd μ (z.loc (4,i)) (some (.list (l.map .int))) (z.loc t)=μ (z.loc t):=fun t ht hn=>af _ _ (h.ne ht (live4 hi) hn)
 refine⟨h.inj,?_,?_,fun j hj=> ?_,fun j hj=> ?_,fun j hj=> ?_,fun j hj=> ?_,fun j hj=> ?_,?_⟩
 ·refine q18 h.tree fun f n a b c=> ?_
  exact⟨f,n,(ne _ (live0 z) ((ne1 (by decide)))).trans a,b,⟨c.1,c.2,c.3,c.4,c.5,c.6,c.7,c.8,c.9,c.10,c.11,c.12,c.13⟩⟩
 ·refine q17 h.tab fun g a b=> ?_
  exact⟨g,(ne _ (live1 z) ((ne1 (by decide)))).trans a,b⟩
 ·refine q17 (h.win j hj) fun f a b=> ?_
  exact⟨f,(ne _ (live3 hj) ((ne1 (by decide)))).trans a,b⟩
 ·show upd μ (z.loc (4,i)) _ (z.loc (4,j))=some (.list ((upd z.K i l j).map .int))
  by_cases e:j=i
  ·rw[e];rw[aj,aj]
  ·rw[ne _ (live4 hj) (by simpa using e),af _ _ e];exact h.kids j hj
 ·exact(ne _ (live5 hj) ((ne1 (by decide)))).trans (h.early j hj)
 ·refine q20 (h.box j hj) fun f n a b=> ?_
  exact⟨f,n,(ne _ (live6 hj) ((ne1 (by decide)))).trans a,b⟩
 ·exact(ne _ (live7 hj) ((ne1 (by decide)))).trans (h.parts j hj)
 ·exact(ne _ (live2 z) ((ne1 (by decide)))).trans h.deck
theorem R.setP(h:R μ z){i:Int}(hi:i∈z.L)(l:List Int):R (upd μ (z.loc (7,i)) (some (.list (l.map fun j=> .ref (z.loc (6,j)))))) {z with P:=upd z.P i l}:=by
 have ne:∀t,live z t→t≠(7,i)→upd μ (z.loc (7,i)) (some (.list (l.map fun j=> .ref (z.loc (6,j))))) (z.loc t)=μ (z.loc t):=fun t ht hn=>af _ _ (h.ne ht (live7 hi) hn)
 refine⟨h.inj,?_,?_,fun j hj=> ?_,fun j hj=> ?_,fun j hj=> ?_,fun j hj=> ?_,fun j hj=> ?_,?_⟩
 ·refine q18 h.tree fun f n a b c=> ?_
  exact⟨f,n,(ne _ (live0 z) ((ne1 (by decide)))).trans a,b,⟨c.1,c.2,c.3,c.4,c.5,c.6,c.7,c.8,c.9,c.10,c.11,c.12,c.13⟩⟩
 ·refine q17 h.tab fun g a b=> ?_
  exact⟨g,(ne _ (live1 z) ((ne1 (by decide)))).trans a,b⟩
 ·refine q17 (h.win j hj) fun f a b=> ?_
  exact⟨f,(ne _ (live3 hj) ((ne1 (by decide)))).trans a,b⟩
 ·exact(ne _ (live4 hj) ((ne1 (by decide)))).trans (h.kids j hj)
 ·exact(ne _ (live5 hj) ((ne1 (by decide)))).trans (h.early j hj)
 ·refine q20 (h.box j hj) fun f n a b=> ?_
  exact⟨f,n,(ne _ (live6 hj) ((ne1 (by decide)))).trans a,b⟩
 ·show upd μ (z.loc (7,i)) _ (z.loc (7,j))=some (.list ((upd z.P i l j).map _))
  by_cases e:j=i
  ·rw[e];rw[aj,aj]
  ·rw[ne _ (live7 hj) (by simpa using e),af _ _ e];exact h.parts j hj
 ·exact(ne _ (live2 z) ((ne1 (by decide)))).trans h.deck
theorem R.setB(h:R μ z){i:Int}(hi:i∈z.L){f':Str→Option MV}{d':BD}{n bn:Nat}(hn:n≤bn)(hb:z.bn≤bn)(hw:BoxF z.loc i d' f'):R (upd μ (z.loc (6,i)) (some (.sdict f' n))) {z with bd:=upd z.bd i d',bn:=bn}:=by
 have ne:∀t,live z t→t≠(6,i)→upd μ (z.loc (6,i)) (some (.sdict f' n)) (z.loc t)=μ (z.loc t):=fun t ht hn=>af _ _ (h.ne ht (live6 hi) hn)
 refine⟨h.inj,?_,?_,fun j hj=> ?_,fun j hj=> ?_,fun j hj=> ?_,fun j hj=> ?_,fun j hj=> ?_,?_⟩
 ·refine q18 h.tree fun f n a b c=> ?_
  exact⟨f,n,(ne _ (live0 z) ((ne1 (by decide)))).trans a,b,⟨c.1,c.2,c.3,c.4,c.5,c.6,c.7,c.8,c.9,c.10,c.11,c.12,c.13⟩⟩
 ·refine q17 h.tab fun g a b=> ?_
  exact⟨g,(ne _ (live1 z) ((ne1 (by decide)))).trans a,b⟩
 ·refine q17 (h.win j hj) fun f a b=> ?_
  exact⟨f,(ne _ (live3 hj) ((ne1 (by decide)))).trans a,b⟩
 ·exact(ne _ (live4 hj) ((ne1 (by decide)))).trans (h.kids j hj)
 ·exact(ne _ (live5 hj) ((ne1 (by decide)))).trans (h.early j hj)
 ·show∃f m,upd μ (z.loc (6,i)) _ (z.loc (6,j))=some (.sdict f m)∧m≤bn∧BoxF z.loc j (upd z.bd i d' j) f
  by_cases e:j=i
  ·rw[e];rw[aj,aj];exact⟨_,_,rfl,hn,hw⟩
  ·refine q18 (h.box j hj) fun f m a b c=> ?_
   rw[ne _ (live6 hj) (by simpa using e),af _ _ e];exact⟨f,m,a,Nat.le_trans b hb,c⟩
 ·exact(ne _ (live7 hj) ((ne1 (by decide)))).trans (h.parts j hj)
 ·exact(ne _ (live2 z) ((ne1 (by decide)))).trans h.deck
theorem R.setD(h:R μ z)(l:List Int):R (upd μ (z.loc (2,0)) (some (.list (l.map .int)))) {z with deck:=l}:=by
 have ne:∀t,live z t→t≠(2,0)→upd μ (z.loc (2,0)) (some (.list (l.map .int))) (z.loc t)=μ (z.loc t):=fun t ht hn=>af _ _ (h.ne ht (live2 z) hn)
 refine⟨h.inj,?_,?_,fun j hj=> ?_,fun j hj=> ?_,fun j hj=> ?_,fun j hj=> ?_,fun j hj=> ?_,aj _ _ _⟩
 ·refine q18 h.tree fun f n a b c=> ?_
  exact⟨f,n,(ne _ (live0 z) ((ne1 (by decide)))).trans a,b,⟨c.1,c.2,c.3,c.4,c.5,c.6,c.7,c.8,c.9,c.10,c.11,c.12,c.13⟩⟩
 ·refine q17 h.tab fun g a b=> ?_
  exact⟨g,(ne _ (live1 z) ((ne1 (by decide)))).trans a,b⟩
 ·refine q17 (h.win j hj) fun f a b=> ?_
  exact⟨f,(ne _ (live3 hj) ((ne1 (by decide)))).trans a,b⟩
 ·exact(ne _ (live4 hj) ((ne1 (by decide)))).trans (h.kids j hj)
 ·exact(ne _ (live5 hj) ((ne1 (by decide)))).trans (h.early j hj)
 ·refine q20 (h.box j hj) fun f n a b=> ?_
  exact⟨f,n,(ne _ (live6 hj) ((ne1 (by decide)))).trans a,b⟩
 ·exact(ne _ (live7 hj) ((ne1 (by decide)))).trans (h.parts j hj)
end
section
variable{μ μ':MH}{z:Z}{i:Int}{Φ:Pst}{Ψ:Exc}{d:Nat}
theorem R.aT(h:R μ z){n:String}{v:MV}(hv:∀f,TreeF z f→f n=some v):attrOf μ (.ref (z.loc (0,0))) n=some v:=by
 refine q18 h.tree fun f k e u_ hf=> ?_
 exact(attr_at e).trans (hv f hf)
theorem R.aW(h:R μ z)(hi:i∈z.S){n:String}{v:MV}(hv:∀f,WinF z.loc i (z.wd i) f→f n=some v):attrOf μ (.ref (z.loc (3,i))) n=some v:=by
 refine q17 (h.win i hi) fun f e hf=> ?_
 exact(attr_at e).trans (hv f hf)
theorem R.aWindows(h:R μ z):attrOf μ (.ref (z.loc (0,0))) "windows"=some (.ref (z.loc (1,0))):=h.aT fun f hf=>hf.windows
theorem R.aLast(h:R μ z):attrOf μ (.ref (z.loc (0,0))) "last"=some (.int z.last):=h.aT fun f hf=>hf.last
theorem R.aRoot(h:R μ z):attrOf μ (.ref (z.loc (0,0))) "root"=some (.int z.root):=h.aT fun f hf=>hf.root
theorem R.aSel(h:R μ z):attrOf μ (.ref (z.loc (0,0))) "selected"=some (.int z.sel):=h.aT fun f hf=>hf.sel
theorem R.aLw(h:R μ z):attrOf μ (.ref (z.loc (0,0))) "least_width"=some (.int 3):=h.aT fun f hf=>hf.lw
theorem R.aLh(h:R μ z):attrOf μ (.ref (z.loc (0,0))) "least_height"=some (.int 2):=h.aT fun f hf=>hf.lh
theorem R.gWin(h:R μ z)(hi:i∈z.S):itemOf μ (.ref (z.loc (1,0))) (.int i)=some (.ref (z.loc (3,i))):=by
 refine q17 h.tab fun g e hg=> ?_
 exact(item_of e).trans (hg i hi)
theorem R.wNumber(h:R μ z)(hi:i∈z.S):attrOf μ (.ref (z.loc (3,i))) "number"=some (.int i):=h.aW hi fun f hf=>hf.number
theorem R.wSort(h:R μ z)(hi:i∈z.S):attrOf μ (.ref (z.loc (3,i))) "sort"=some (.int (z.wd i).sort):=h.aW hi fun f hf=>hf.sort
theorem R.wPar(h:R μ z)(hi:i∈z.S):attrOf μ (.ref (z.loc (3,i))) "parent"=some (.int (z.wd i).par):=h.aW hi fun f hf=>hf.par
theorem R.wLft(h:R μ z)(hi:i∈z.S):attrOf μ (.ref (z.loc (3,i))) "left"=some (.int (z.wd i).lft):=h.aW hi fun f hf=>hf.lft
theorem R.wTop(h:R μ z)(hi:i∈z.S):attrOf μ (.ref (z.loc (3,i))) "top"=some (.int (z.wd i).top):=h.aW hi fun f hf=>hf.top
theorem R.wWid(h:R μ z)(hi:i∈z.S):attrOf μ (.ref (z.loc (3,i))) "width"=some (.int (z.wd i).wid):=h.aW hi fun f hf=>hf.wid
theorem R.wHei(h:R μ z)(hi:i∈z.S):attrOf μ (.ref (z.loc (3,i))) "height"=some (.int (z.wd i).hei):=h.aW hi fun f hf=>hf.hei
theorem R.wBuf(h:R μ z)(hi:i∈z.S):attrOf μ (.ref (z.loc (3,i))) "buffer"=some (.int (z.wd i).buf):=h.aW hi fun f hf=>hf.buf
theorem R.wStart(h:R μ z)(hi:i∈z.S):attrOf μ (.ref (z.loc (3,i))) "start"=some (.int 1):=h.aW hi fun f hf=>hf.start
theorem R.wPoint(h:R μ z)(hi:i∈z.S):attrOf μ (.ref (z.loc (3,i))) "point"=some (.int 1):=h.aW hi fun f hf=>hf.point
theorem R.wHscroll(h:R μ z)(hi:i∈z.S):attrOf μ (.ref (z.loc (3,i))) "hscroll"=some (.int 0):=h.aW hi fun f hf=>hf.hscroll
theorem R.wKids(h:R μ z)(hi:i∈z.S):attrOf μ (.ref (z.loc (3,i))) "children"=some (.ref (z.loc (4,i))):=h.aW hi fun f hf=>hf.kids
theorem R.wEarly(h:R μ z)(hi:i∈z.S):attrOf μ (.ref (z.loc (3,i))) "earlier"=some (.ref (z.loc (5,i))):=h.aW hi fun f hf=>hf.early
theorem R.mW(h:R μ z)(hi:i∈z.S){n:String}(hn:∀f,WinF z.loc i (z.wd i) f→f n=none){X:Prop}:(∃a g k,MV.ref (z.loc (3,i))= .ref a∧μ a=some (.inst 93 g k)∧g n=none∧X)↔X:=by
 refine q17 (h.win i hi) fun f e hf=> ?_
 exact⟨fun pp_=>q27 pp_ fun u_ u_ u_ u_ u_ u_ x=>x,fun x=> ⟨_,f,16,rfl,e,hn f hf,x⟩⟩
theorem R.mT(h:R μ z){n:String}(hn:∀f,TreeF z f→f n=none){X:Prop}:(∃a g k,MV.ref (z.loc (0,0))= .ref a∧μ a=some (.inst 164 g k)∧g n=none∧X)↔X:=by
 refine q18 h.tree fun f k e u_ hf=> ?_
 exact⟨fun pp_=>q27 pp_ fun u_ u_ u_ u_ u_ u_ x=>x,fun x=> ⟨_,f,k,rfl,e,hn f hf,x⟩⟩
theorem R.mW'(h:R μ z)(hi:i∈z.S){n:String}(hn:∀f,WinF z.loc i (z.wd i) f→f n=none){X:Prop}:(∃x,(∃k,μ (z.loc (3,i))=some (.inst 93 x k))∧x n=none∧X)↔X:=by
 refine q17 (h.win i hi) fun f e hf=> ?_
 exact⟨fun pp_=>q19 pp_ fun u_ u_ u_ x=>x,fun x=> ⟨f,⟨16,e⟩,hn f hf,x⟩⟩
theorem R.mT'(h:R μ z){n:String}(hn:∀f,TreeF z f→f n=none){X:Prop}:(∃x,(∃k,μ (z.loc (0,0))=some (.inst 164 x k))∧x n=none∧X)↔X:=by
 refine q18 h.tree fun f k e u_ hf=> ?_
 exact⟨fun pp_=>q19 pp_ fun u_ u_ u_ x=>x,fun x=> ⟨f,⟨k,e⟩,hn f hf,x⟩⟩
theorem R.kW(h:R μ z)(hi:i∈z.S){n:String}(hn:∀f,WinF z.loc i (z.wd i) f→f n=none){C:aB}{ρ:ao}{g:Addr}{as:MEs}{Φ:Pst}{Ψ:Exc}:kE_meth C ρ 93 g n as Φ Ψ (.ref (z.loc (3,i))) μ=evEs C ρ as μ (kL_meth C g (.ref (z.loc (3,i))) Φ Ψ) Ψ:=propext (h.mW hi hn)
theorem R.kT(h:R μ z){n:String}(hn:∀f,TreeF z f→f n=none){C:aB}{ρ:ao}{g:Addr}{as:MEs}{Φ:Pst}{Ψ:Exc}:kE_meth C ρ 164 g n as Φ Ψ (.ref (z.loc (0,0))) μ=evEs C ρ as μ (kL_meth C g (.ref (z.loc (0,0))) Φ Ψ) Ψ:=propext (h.mT hn)
theorem R.okTab(h:R μ z):bmOk .dget (.ref (z.loc (1,0))) μ=true∧bmOk .dpop (.ref (z.loc (1,0))) μ=true:=by
 refine q17 h.tab fun g e u_=> ?_
 exact⟨dict_at e,dict_at e⟩
theorem R.isTab(h:R μ z):∃f n,μ (z.loc (1,0))=some (.idict f n):=by
 refine q17 h.tab fun g e u_=> ?_
 exact⟨_,_,e⟩
theorem R.sW(h:R μ z)(hi:i∈z.S){n:String}{v:MV}{d':WD}(hs:∀f,WinF z.loc i (z.wd i) f→∃w,f n=some w)(hF:∀f,WinF z.loc i (z.wd i) f→WinF z.loc i d' (upd f n (some v)))
  {Φ:MH→Prop} (k:∀μ',R μ' {z with wd:=upd z.wd i d'}→Off z μ μ'→Φ μ'):∃μ',setAttrM μ (.ref (z.loc (3,i))) n v=some μ'∧Φ μ':=by
 refine q17 (h.win i hi) fun f e hf=> ?_
 refine q1 (hs f hf) fun w hw=> ?_
 refine⟨_,?_,k _ (h.setW hi (hF f hf)) (off_put (live3 hi) _)⟩
 exact setAttr_at e (by decide) (cnt_s hw)
theorem WinF.up{loc:Slot→Addr}{d d':WD}{f:String→Option MV}{n:String}{v:MV}(h:WinF loc i d f)(hn:n≠"number"∧n≠"start"∧n≠"point"∧n≠"hscroll"∧n≠"children"∧n≠"earlier"∧n≠"size"∧n≠"set_size"∧n≠"shown"∧n≠"show")
  (h1:if n="sort" then v= .int d'.sort else d'.sort=d.sort) (h2:if n="parent" then v= .int d'.par else d'.par=d.par) (h3:if n="left" then v= .int d'.lft else d'.lft=d.lft) (h4:if n="top" then v= .int d'.top else d'.top=d.top)
  (h5:if n="width" then v= .int d'.wid else d'.wid=d.wid) (h6:if n="height" then v= .int d'.hei else d'.hei=d.hei) (h7:if n="buffer" then v= .int d'.buf else d'.buf=d.buf):WinF loc i d' (upd f n (some v)):=by
 refine q4 hn fun a1 a2 a3 a4 a5 w1_=> ?_
 refine q3 w1_ fun a6 a7 a8 a9 a10=> ?_
 have go:∀{x:String} {w w':Int},f x=some (.int w)→(if n=x then v= .int w' else w'=w)→upd f n (some v) x=some (.int w'):=fun{x w w'} e c=>by
  by_cases q:n=x
  ·subst q;rw[if_pos rfl] at c;rw[aj,c]
  ·rw[if_neg q] at c;rw[af _ _ (Ne.symm q),e,c]
 refine⟨?_,go h.sort h1,go h.par h2,go h.lft h3,go h.top h4,go h.wid h5,go h.hei h6,go h.buf h7,?_,?_,?_,?_,?_,?_,?_,?_,?_,?_⟩
 ·rw[af _ _ (Ne.symm a1)];exact h.number
 ·rw[af _ _ (Ne.symm a2)];exact h.start
 ·rw[af _ _ (Ne.symm a3)];exact h.point
 ·rw[af _ _ (Ne.symm a4)];exact h.hscroll
 ·rw[af _ _ (Ne.symm a5)];exact h.kids
 ·rw[af _ _ (Ne.symm a6)];exact h.early
 ·by_cases q:n="use_time"
  ·rw[q];exact⟨_,aj _ _ _⟩
  ·rw[af _ _ (Ne.symm q)];exact h.time
 ·rw[af _ _ (Ne.symm a7)];exact h.m1
 ·rw[af _ _ (Ne.symm a8)];exact h.m2
 ·rw[af _ _ (Ne.symm a9)];exact h.m3
 ·rw[af _ _ (Ne.symm a10)];exact h.m4
theorem R.sWid(h:R μ z)(hi:i∈z.S)(v:Int){Φ:MH→Prop}(k:∀μ',R μ' {z with wd:=upd z.wd i {z.wd i with wid:=v}}→Off z μ μ'→Φ μ'):∃μ',setAttrM μ (.ref (z.loc (3,i))) "width" (.int v)=some μ'∧Φ μ':=
 h.sW hi (fun f hf=> ⟨_,hf.wid⟩) (fun f hf=>hf.up ((by decide)) (by simp) (by simp) (by simp) (by simp) (by simp) (by simp) (by simp)) k
theorem R.sHei(h:R μ z)(hi:i∈z.S)(v:Int){Φ:MH→Prop}(k:∀μ',R μ' {z with wd:=upd z.wd i {z.wd i with hei:=v}}→Off z μ μ'→Φ μ'):∃μ',setAttrM μ (.ref (z.loc (3,i))) "height" (.int v)=some μ'∧Φ μ':=
 h.sW hi (fun f hf=> ⟨_,hf.hei⟩) (fun f hf=>hf.up ((by decide)) (by simp) (by simp) (by simp) (by simp) (by simp) (by simp) (by simp)) k
theorem R.sLft(h:R μ z)(hi:i∈z.S)(v:Int){Φ:MH→Prop}(k:∀μ',R μ' {z with wd:=upd z.wd i {z.wd i with lft:=v}}→Off z μ μ'→Φ μ'):∃μ',setAttrM μ (.ref (z.loc (3,i))) "left" (.int v)=some μ'∧Φ μ':=
 h.sW hi (fun f hf=> ⟨_,hf.lft⟩) (fun f hf=>hf.up ((by decide)) (by simp) (by simp) (by simp) (by simp) (by simp) (by simp) (by simp)) k
theorem R.sTop(h:R μ z)(hi:i∈z.S)(v:Int){Φ:MH→Prop}(k:∀μ',R μ' {z with wd:=upd z.wd i {z.wd i with top:=v}}→Off z μ μ'→Φ μ'):∃μ',setAttrM μ (.ref (z.loc (3,i))) "top" (.int v)=some μ'∧Φ μ':=
 h.sW hi (fun f hf=> ⟨_,hf.top⟩) (fun f hf=>hf.up ((by decide)) (by simp) (by simp) (by simp) (by simp) (by simp) (by simp) (by simp)) k
theorem R.sPar(h:R μ z)(hi:i∈z.S)(v:Int){Φ:MH→Prop}(k:∀μ',R μ' {z with wd:=upd z.wd i {z.wd i with par:=v}}→Off z μ μ'→Φ μ'):∃μ',setAttrM μ (.ref (z.loc (3,i))) "parent" (.int v)=some μ'∧Φ μ':=
 h.sW hi (fun f hf=> ⟨_,hf.par⟩) (fun f hf=>hf.up ((by decide)) (by simp) (by simp) (by simp) (by simp) (by simp) (by simp) (by simp)) k
theorem R.sBuf(h:R μ z)(hi:i∈z.S)(v:Int){Φ:MH→Prop}(k:∀μ',R μ' {z with wd:=upd z.wd i {z.wd i with buf:=v}}→Off z μ μ'→Φ μ'):∃μ',setAttrM μ (.ref (z.loc (3,i))) "buffer" (.int v)=some μ'∧Φ μ':=
 h.sW hi (fun f hf=> ⟨_,hf.buf⟩) (fun f hf=>hf.up ((by decide)) (by simp) (by simp) (by simp) (by simp) (by simp) (by simp) (by simp)) k
theorem size_spec(h:R μ z)(hi:i∈z.S){ax:Int}(hΦ:Φ (.int (if ax=0 then(z.wd i).wid else(z.wd i).hei)) μ):az tab (d+1) 62 [.ref (z.loc (3,i)), .int ax] μ Φ Ψ:=by
 refine call_of (fn:=f_Window_size) rfl rfl ?_
 by_cases e:ax=0 <;> simp_all [f_Window_size,h.wWid hi,h.wHei hi]
theorem set_size_spec(h:R μ z)(hi:i∈z.S){ax v:Int}(hΦ:∀μ',R μ' {z with wd:=upd z.wd i (if ax=0 then{z.wd i with wid:=v} else{z.wd i with hei:=v})}→Off z μ μ'→Φ .none μ'):az tab (d+1) 69 [.ref (z.loc (3,i)), .int ax, .int v] μ Φ Ψ:=by
 refine call_of (fn:=f_Window_set_size) rfl rfl ?_
 by_cases e:ax=0
 ·simp[f_Window_set_size,e]
  simp only[e,if_true] at hΦ
  exact h.sWid hi v hΦ
 ·simp[f_Window_set_size,e]
  simp only[e,if_false] at hΦ
  exact h.sHei hi v hΦ
theorem shown_spec(h:R μ z)(hi:i∈z.S)(hΦ:∀a,μ a=none→Φ (.ref a) (upd μ a (some (.tuple [.int (z.wd i).buf, .int 1, .int 1, .int 0])))):az tab (d+1) 83 [.ref (z.loc (3,i))] μ Φ Ψ:=by
 refine call_of (fn:=f_Window_shown) rfl rfl ?_
 simp[f_Window_shown,LIM,↓exe (h.wBuf hi),↓exe (h.wStart hi),↓exe (h.wPoint hi),↓exe (h.wHscroll hi)]
 exact hΦ
end
section
variable{μ μ':MH}{z:Z}{i:Int}{Φ:Pst}{Ψ:Exc}{d:Nat}
theorem upd_id{α β:Type} [DecidableEq α]{f:α→β}{a:α}{b:β}(h:f a=b):upd f a b=f:=by
 funext x;unfold upd;split
 ·rename_i e;rw[e,h]
 ·rfl
theorem R.sId(h:R μ z)(hi:i∈z.S){n:String}{v:MV}(hs:∀f,WinF z.loc i (z.wd i) f→f n=some v):setAttrM μ (.ref (z.loc (3,i))) n v=some μ:=by
 refine q17 (h.win i hi) fun f e hf=> ?_
 have:=hs f hf
 exact(setAttr_at e (by decide) (cnt_s this)).trans (congrArg some (upd_id (by rw[e,upd_id this])))
theorem show_spec(h:R μ z)(hi:i∈z.S){told:MV}{b:Int}(ht:seqAt μ told=some [.int b, .int 1, .int 1, .int 0])(hΦ:∀μ',R μ' {z with wd:=upd z.wd i {z.wd i with buf:=b}}→Off z μ μ'→Φ .none μ'):az tab (d+1) 90 [.ref (z.loc (3,i)),told] μ Φ Ψ:=by
 refine call_of (fn:=f_Window_show) rfl rfl ?_
 simp[f_Window_show,↓exf ht]
 refine h.sBuf hi b fun μ' h' o=> ?_
 try simp
 have hi':i∈({z with wd:=upd z.wd i {z.wd i with buf:=b}}:Z).S:=hi
 have e1:=h'.sId hi' (n:="start") (v:= .int 1) fun f hf=>hf.start
 have e2:=h'.sId hi' (n:="point") (v:= .int 1) fun f hf=>hf.point
 have e3:=h'.sId hi' (n:="hscroll") (v:= .int 0) fun f hf=>hf.hscroll
 skip
 simp[↓kE_seta',↓exf e1,↓exf e2,↓exf e3]
 exact hΦ _ h' o
theorem R.sT(h:R μ z){n:String}{v:MV}{l r e:Int}(hs:∀f,TreeF z f→∃w,f n=some w)(hF:∀f,TreeF z f→TreeF {z with last:=l,root:=r,sel:=e} (upd f n (some v)))
  {Φ:MH→Prop} (k:∀μ',R μ' {z with last:=l,root:=r,sel:=e}→Off z μ μ'→Φ μ'):∃μ',setAttrM μ (.ref (z.loc (0,0))) n v=some μ'∧Φ μ':=by
 refine q18 h.tree fun f m e hm hf=> ?_
 refine q1 (hs f hf) fun w hw=> ?_
 refine⟨_,?_,k _ (h.setT hm (hF f hf)) (off_put (live0 z) _)⟩
 exact setAttr_at e (by lia) (cnt_s hw)
theorem R.sRoot(h:R μ z)(v:Int){Φ:MH→Prop}(k:∀μ',R μ' {z with root:=v}→Off z μ μ'→Φ μ'):∃μ',setAttrM μ (.ref (z.loc (0,0))) "root" (.int v)=some μ'∧Φ μ':=
 h.sT (l:=z.last) (r:=v) (e:=z.sel) (fun f hf=> ⟨_,hf.root⟩) (fun f hf=> ⟨hf.1,hf.2,hf.3,hf.4,hf.5,rfl,hf.7,hf.8,hf.9,hf.10,hf.11,hf.12,hf.13⟩) k
theorem R.sSel(h:R μ z)(v:Int){Φ:MH→Prop}(k:∀μ',R μ' {z with sel:=v}→Off z μ μ'→Φ μ'):∃μ',setAttrM μ (.ref (z.loc (0,0))) "selected" (.int v)=some μ'∧Φ μ':=
 h.sT (l:=z.last) (r:=z.root) (e:=v) (fun f hf=> ⟨_,hf.sel⟩) (fun f hf=> ⟨hf.1,hf.2,hf.3,hf.4,hf.5,hf.6,rfl,hf.8,hf.9,hf.10,hf.11,hf.12,hf.13⟩) k
theorem R.sLast(h:R μ z)(v:Int){Φ:MH→Prop}(k:∀μ',R μ' {z with last:=v}→Off z μ μ'→Φ μ'):∃μ',setAttrM μ (.ref (z.loc (0,0))) "last" (.int v)=some μ'∧Φ μ':=
 h.sT (l:=v) (r:=z.root) (e:=z.sel) (fun f hf=> ⟨_,hf.last⟩) (fun f hf=> ⟨hf.1,rfl,hf.3,hf.4,hf.5,hf.6,hf.7,hf.8,hf.9,hf.10,hf.11,hf.12,hf.13⟩) k
theorem R.aClock(h:R μ z):∃c,attrOf μ (.ref (z.loc (0,0))) "clock"=some (.int c):=by
 refine q18 h.tree fun f k e u_ hf=> ?_
 refine q1 hf.clock fun c hc=> ?_
 exact⟨c,(attr_at e).trans hc⟩
theorem R.sClock(h:R μ z)(v:Int){Φ:MH→Prop}(k:∀μ',R μ' z→Off z μ μ'→attrOf μ' (.ref (z.loc (0,0))) "clock"=some (.int v)→Φ μ'):∃μ',setAttrM μ (.ref (z.loc (0,0))) "clock" (.int v)=some μ'∧Φ μ':=by
 refine q18 h.tree fun f m e hm hf=> ?_
 refine q1 hf.clock fun c hc=> ?_
 have hT:TreeF {z with last:=z.last,root:=z.root,sel:=z.sel} (upd f "clock" (some (.int v))):=⟨hf.1,hf.2,by simp,hf.4,hf.5,hf.6,hf.7,hf.8,hf.9,hf.10,hf.11,hf.12,hf.13⟩
 refine⟨_,?_,k _ (h.setT hm hT) (off_put (live0 z) _) ?_⟩
 ·exact setAttr_at e (by lia) (cnt_s hc)
 ·exact(attr_at (aj _ _ _)).trans (aj _ _ _)
theorem R.sTime(h:R μ z)(hi:i∈z.S)(v:Int){Φ:MH→Prop}(k:∀μ',R μ' z→Off z μ μ'→Φ μ'):∃μ',setAttrM μ (.ref (z.loc (3,i))) "use_time" (.int v)=some μ'∧Φ μ':=by
 refine h.sW (d':=z.wd i) hi (fun f hf=>hf.time) (fun f hf=>hf.up ((by decide)) (rfl) (rfl) (rfl) (rfl) (rfl) (rfl) (rfl)) fun μ' h' o=> ?_
 rw[upd_id rfl] at h'
 exact k μ' h' o
theorem Off.refl(z:Z)(μ:MH):Off z μ μ:=fun u_ u_=>rfl
theorem Off.trans{μ'':MH}(h:Off z μ μ')(h':Off z μ' μ''):Off z μ μ'':=fun a ha=> (h' a ha).trans (h a ha)
theorem window_spec(h:R μ z)(hi:i∈z.S)(hΦ:Φ (.ref (z.loc (3,i))) μ):az tab (d+1) 126 [.ref (z.loc (0,0)), .int i] μ Φ Ψ:=by
 refine call_of (fn:=f_WindowTree_window) rfl rfl ?_
 simp[f_WindowTree_window,h.okTab,p_dget,h.isTab,none_n,none_i,none_r,↓exe h.aWindows,↓exe (h.gWin hi)]
 exact hΦ
theorem leaf_spec(h:R μ z)(hi:i∈z.S)(hs:(z.wd i).sort=0)(hΦ:Φ (.ref (z.loc (3,i))) μ):az tab (d+2) 133 [.ref (z.loc (0,0)), .int i] μ Φ Ψ:=by
 refine call_of (fn:=f_WindowTree_leaf) rfl rfl ?_
 simp[f_WindowTree_leaf,↓h.kT fun f hf=>hf.m2]
 refine window_spec h hi ?_
 simp[hs,↓exe (h.wSort hi)]
 exact hΦ
theorem touch_spec(h:R μ z)(hi:i∈z.S)(hΦ:∀μ',R μ' z→Off z μ μ'→Φ .none μ'):az tab (d+1) 140 [.ref (z.loc (0,0)), .int i] μ Φ Ψ:=by
 refine call_of (fn:=f_WindowTree_touch) rfl rfl ?_
 refine q1 h.aClock fun c hc=> ?_
 simp[f_WindowTree_touch,↓exe hc]
 refine h.sClock _ fun μ1 h1 o1 hc1=> ?_
 simp[↓exe hc1,↓exe h1.aWindows,↓exe (h1.gWin hi)]
 exact h1.sTime hi _ fun μ2 h2 o2=>hΦ μ2 h2 (o1.trans o2)
theorem select_spec(h:R μ z)(hi:i∈z.S)(hs:(z.wd i).sort=0)(hΦ:∀μ',R μ' {z with sel:=i}→Off z μ μ'→Φ .none μ'):az tab (d+3) 147 [.ref (z.loc (0,0)), .int i] μ Φ Ψ:=by
 refine call_of (fn:=f_WindowTree_select) rfl rfl ?_
 simp[f_WindowTree_select,↓h.kT fun f hf=>hf.m3]
 refine leaf_spec h hi hs ?_
 simp[↓exe (h.wNumber hi)]
 refine h.sSel _ fun μ1 h1 o1=> ?_
 try simp
 have:=fun X=>h1.mT' (X:=X) (n:="touch") (fun f hf=>hf.m4)
 skip
 rw[this]
 exact touch_spec (z:={z with sel:=i}) (d:=d+1) h1 hi fun μ2 h2 o2=>hΦ μ2 h2 (o1.trans o2)
theorem least_leaf_spec(h:R μ z){ax:Int}(hΦ:Φ (.int (if ax=0 then 3 else 2)) μ):az tab (d+1) 154 [.ref (z.loc (0,0)), .int ax] μ Φ Ψ:=by
 refine call_of (fn:=f_WindowTree_least_leaf) rfl rfl ?_
 by_cases e:ax=0 <;> simp_all [f_WindowTree_least_leaf,h.aLw,h.aLh]
theorem R.addWin(h:R μ z){n:Int}{a b c:Addr}{f:String→Option MV}{g:Int→Option MV}{w:WD}(hn:n∉z.S)(ha:Nl z a)(hb:Nl z b)(hc:Nl z c)(hab:a≠b)(hac:a≠c)(hbc:b≠c)
  (ea:μ a=some (.inst 93 f 16)) (eb:μ b=some (.list [])) (ec:μ c=some (.list [])) (hw:WinF (upd (upd (upd z.loc (3,n) a) (4,n) b) (5,n) c) n w f) (hg:μ (z.loc (1,0))=some (.idict g z.gn)):
  R (upd μ (z.loc (1,0)) (some (.idict (upd g n (some (.ref a))) (z.gn+1)))) {z with loc:=upd (upd (upd z.loc (3,n) a) (4,n) b) (5,n) c,S:=n::z.S,wd:=upd z.wd n w,K:=upd z.K n [],gn:=z.gn+1}:=by
 have old:∀s,live z s→upd (upd (upd z.loc (3,n) a) (4,n) b) (5,n) c s=z.loc s:=fun s hs=>by
  have e3:s≠(3,n):=fun e=>by replace e:=e.symm;subst e;rcases hs with(q |q |q) |⟨_,q⟩ |⟨q |q,_⟩ <;> first |(simp at q;done) |exact hn q
  have e4:s≠(4,n):=fun e=>by subst e;rcases hs with(q |q |q) |⟨_,q⟩ |⟨q |q,_⟩ <;> first |(simp at q;done) |exact hn q
  have e5:s≠(5,n):=fun e=>by subst e;rcases hs with(q |q |q) |⟨_,q⟩ |⟨q |q,_⟩ <;> first |(simp at q;done) |exact hn q
  rw[af _ _ e5,af _ _ e4,af _ _ e3]
 have l3:upd (upd (upd z.loc (3,n) a) (4,n) b) (5,n) c (3,n)=a:=by rw[af _ _ ((ne1 (by decide))),af _ _ ((ne1 (by decide))),aj]
 have l4:upd (upd (upd z.loc (3,n) a) (4,n) b) (5,n) c (4,n)=b:=by rw[af _ _ ((ne1 (by decide))),aj]
 have l5:upd (upd (upd z.loc (3,n) a) (4,n) b) (5,n) c (5,n)=c:=aj _ _ _
 have ne:∀t,live z t→t≠(1,0)→upd μ (z.loc (1,0)) (some (.idict (upd g n (some (.ref a))) (z.gn+1))) (z.loc t)=μ (z.loc t):=fun t ht hn=>af _ _ (h.ne ht (live1 z) hn)
 have l6:∀k:Int,upd (upd (upd z.loc (3,n) a) (4,n) b) (5,n) c (6,k)=z.loc (6,k):=fun k=> ((af _ _ ((ne1 (by decide)))).trans ((af _ _ ((ne1 (by decide)))).trans ((af _ _ ((ne1 (by decide)))))))
 have nea:∀{x o},Nl z x→upd μ (z.loc (1,0)) o x=μ x:=fun hx=>af _ _ (hx _ (live1 z)).symm
 have cls:∀s,live {z with loc:=upd (upd (upd z.loc (3,n) a) (4,n) b) (5,n) c,S:=n::z.S,wd:=upd z.wd n w,K:=upd z.K n [],gn:=z.gn+1} s→live z s∨s=(3,n)∨s=(4,n)∨s=(5,n):=fun s hs=>by
  obtain⟨k,j⟩:=s
  rcases hs with q |⟨q1,q2⟩ |q
  ·exact .inl (.inl q)
  ·rcases List.mem_cons.mp q2 with q2 |q2
   ·dsimp only at q1 q2;rw[q2];rcases q1 with rfl |rfl |rfl <;> simp
   ·exact .inl (.inr (.inl ⟨q1,q2⟩))
  ·exact .inl (.inr (.inr q))
 refine q17 h.tab fun g' hg' hgS=> ?_
 rw[hg] at hg';cases hg'
 generalize upd (upd (upd z.loc (3,n) a) (4,n) b) (5,n) c=ℓ at *
 have hne:∀{j},j∈z.S→j≠n:=fun hj e=>hn (e▸hj)
 refine⟨fun s t hs ht e=> ?_,?_,?_,fun j hj=> ?_,fun j hj=> ?_,fun j hj=> ?_,fun j hj=> ?_,fun j hj=> ?_,?_⟩
 ·dsimp only at e
  rcases cls s hs with q |rfl |rfl |rfl <;> rcases cls t ht with r |rfl |rfl |rfl
  ·rw[old s q,old t r] at e;exact h.inj s t q r e
  ·rw[old s q,l3] at e;exact absurd e (ha s q)
  ·rw[old s q,l4] at e;exact absurd e (hb s q)
  ·rw[old s q,l5] at e;exact absurd e (hc s q)
  ·rw[old t r,l3] at e;exact absurd e.symm (ha t r)
  ·rfl
  ·rw[l3,l4] at e;exact absurd e hab
  ·rw[l3,l5] at e;exact absurd e hac
  ·rw[old t r,l4] at e;exact absurd e.symm (hb t r)
  ·rw[l3,l4] at e;exact absurd e.symm hab
  ·rfl
  ·rw[l4,l5] at e;exact absurd e hbc
  ·rw[old t r,l5] at e;exact absurd e.symm (hc t r)
  ·rw[l3,l5] at e;exact absurd e.symm hac
  ·rw[l4,l5] at e;exact absurd e.symm hbc
  ·rfl
 ·refine q18 h.tree fun f m x y t=> ?_
  refine⟨f,m,?_,y,⟨?_,t.2,t.3,t.4,t.5,t.6,t.7,t.8,t.9,t.10,t.11,t.12,t.13⟩⟩
  ·show upd μ _ _ (ℓ _)=_
   rw[old _ (live0 z),ne _ (live0 z) ((ne1 (by decide)))];exact x
  ·show f "windows"=some (.ref (ℓ _))
   rw[old _ (live1 z)];exact t.1
 ·refine⟨upd g n (some (.ref a)),?_,fun j hj=> ?_⟩
  ·show upd μ _ _ (ℓ _)=_
   rw[old _ (live1 z),aj]
  ·show _=some (MV.ref (ℓ _))
   rcases List.mem_cons.mp hj with rfl |hj
   ·rw[aj,l3]
   ·rw[af _ _ (hne hj),old _ (live3 hj)];exact hgS j hj
 ·show∃f,upd μ _ _ (ℓ _)=_∧WinF _ j (upd z.wd n w j) f
  rcases List.mem_cons.mp hj with rfl |hj
  ·rw[l3,nea ha,aj];exact⟨f,ea,hw⟩
  ·rw[old _ (live3 hj),ne _ (live3 hj) ((ne1 (by decide))),af _ _ (hne hj)]
   refine q17 (h.win j hj) fun f x t=> ?_
   refine⟨f,x,⟨t.1,t.2,t.3,t.4,t.5,t.6,t.7,t.8,t.9,t.10,t.11,?_,?_,t.14,t.15,t.16,t.17,t.18⟩⟩
   ·dsimp only;rw[old _ (live4 hj)];exact t.12
   ·dsimp only;rw[old _ (live5 hj)];exact t.13
 ·show upd μ _ _ (ℓ _)=some (.list ((upd z.K n [] j).map .int))
  rcases List.mem_cons.mp hj with rfl |hj
  ·rw[l4,nea hb,aj];exact eb
  ·rw[old _ (live4 hj),ne _ (live4 hj) ((ne1 (by decide))),af _ _ (hne hj)];exact h.kids j hj
 ·show upd μ _ _ (ℓ _)=some (.list [])
  rcases List.mem_cons.mp hj with rfl |hj
  ·rw[l5,nea hc];exact ec
  ·rw[old _ (live5 hj),ne _ (live5 hj) ((ne1 (by decide)))];exact h.early j hj
 ·show∃f m,upd μ _ _ (ℓ _)=_∧_
  rw[old _ (live6 hj),ne _ (live6 hj) ((ne1 (by decide)))]
  refine q18 (h.box j hj) fun f m x y t=> ?_
  refine⟨f,m,x,y,⟨t.1,?_,t.3,t.4,t.5,t.6⟩⟩
  dsimp only;rw[old _ (live7 hj)];exact t.2
 ·show upd μ _ _ (ℓ _)=some (.list ((z.P j).map fun k=> .ref (ℓ _)))
  rw[old _ (live7 hj),ne _ (live7 hj) ((ne1 (by decide)))]
  simp only[l6];exact h.parts j hj
 ·show upd μ _ _ (ℓ _)=_
  rw[old _ (live2 z),ne _ (live2 z) ((ne1 (by decide)))];exact h.deck
end
section
variable{μ μ':MH}{z:Z}{i:Int}{Φ:Pst}{Ψ:Exc}{d:Nat}
theorem newAttr{C a:Addr}{f:String→Option MV}{k:Nat}{n:String}{v:MV}(h:μ a=some (.inst C f k))(hk:k < 900)(hf:f n=none){Φ:MH→Prop}(go:∀μ',μ' a=some (.inst C (upd f n (some v)) (k+1))→(∀x,x≠a→μ' x=μ x)→Φ μ'):
  ∃μ',setAttrM μ (.ref a) n v=some μ'∧Φ μ':=⟨_,setAttr_at h hk (cnt_n hf),go _ (aj _ _ _) fun x hx=>af _ _ hx⟩
theorem init_spec{a:Addr}{num sort par:Int}(ha:μ a=some (.inst 93 (fun u_=>none) 0))
  (hΦ:∀μ' b c f,μ b=none→μ c=none→b≠c→μ' a=some (.inst 93 f 16)→μ' b=some (.list [])→μ' c=some (.list [])→(∀loc:Slot→Addr,loc (4,num)=b→loc (5,num)=c→WinF loc num ⟨sort,par,0,0,0,0,0⟩ f)→
   (∀x o,x≠a→μ x=some o→μ' x=some o)→Φ .none μ'):az tab (d+1) 55 [.ref a, .int num, .int sort, .int par] μ Φ Ψ:=by
 refine call_of (fn:=f_Window_init) rfl rfl ?_
 simp[f_Window_init]
 refine newAttr ha (by decide) rfl fun m1 h1 o1=> ?_
 try simp
 refine newAttr h1 (by decide) rfl fun m2 h2 o2=> ?_
 try simp
 refine newAttr h2 (by decide) rfl fun m3 h3 o3=> ?_
 try simp[LIM]
 intro b hb
 have hab:a≠b:=ne_nb h3 hb
 refine newAttr (μ:=upd m3 b (some (.list []))) (((af _ _ hab).trans h3)) (by decide) rfl fun m4 h4 o4=> ?_
 try simp
 refine newAttr h4 (by decide) rfl fun m5 h5 o5=> ?_
 try simp
 refine newAttr h5 (by decide) rfl fun m6 h6 o6=> ?_
 try simp
 refine newAttr h6 (by decide) rfl fun m7 h7 o7=> ?_
 try simp
 refine newAttr h7 (by decide) rfl fun m8 h8 o8=> ?_
 try simp
 refine newAttr h8 (by decide) rfl fun m9 h9 o9=> ?_
 try simp
 refine newAttr h9 (by decide) rfl fun m10 h10 o10=> ?_
 try simp
 refine newAttr h10 (by decide) rfl fun m11 h11 o11=> ?_
 try simp
 refine newAttr h11 (by decide) rfl fun m12 h12 o12=> ?_
 try simp
 refine newAttr h12 (by decide) rfl fun m13 h13 o13=> ?_
 try simp
 refine newAttr h13 (by decide) rfl fun m14 h14 o14=> ?_
 try simp[LIM]
 have A:∀x,x≠a→x≠b→m14 x=μ x:=fun x hx hxb=>by
  rw[o14 x hx,o13 x hx,o12 x hx,o11 x hx,o10 x hx,o9 x hx,o8 x hx,o7 x hx,o6 x hx,o5 x hx,o4 x hx,af _ _ hxb,o3 x hx,o2 x hx,o1 x hx]
 have Bb:m14 b=some (.list []):=by
  have hx:=hab.symm
  rw[o14 b hx,o13 b hx,o12 b hx,o11 b hx,o10 b hx,o9 b hx,o8 b hx,o7 b hx,o6 b hx,o5 b hx,o4 b hx,aj]
 have hb0:μ b=none:=by rw[←hb,o3 b hab.symm,o2 b hab.symm,o1 b hab.symm]
 intro c hc
 have hac:a≠c:=ne_nb h14 hc
 have hbc:b≠c:=ne_nb Bb hc
 refine newAttr (μ:=upd m14 c (some (.list []))) (((af _ _ hac).trans h14)) (by decide) rfl fun m15 h15 o15=> ?_
 try simp[LIM]
 intro e he
 have hae:a≠e:=ne_nb h15 he
 have Cc:m15 c=some (.list []):=by rw[o15 c hac.symm,aj]
 have Bc:m15 b=some (.list []):=((o15 b hab.symm).trans ((af _ _ hbc).trans Bb))
 have hce:c≠e:=ne_nb Cc he
 have hbe:b≠e:=ne_nb Bc he
 refine newAttr (μ:=upd m15 e (some (.list []))) (((af _ _ hae).trans h15)) (by decide) rfl fun m16 h16 o16=> ?_
 try simp
 refine hΦ m16 b c _ hb0 (((A c hac.symm hbc.symm).symm.trans hc)) hbc h16 (((o16 b hab.symm).trans ((af _ _ hbe).trans Bc))) (((o16 c hac.symm).trans ((af _ _ hce).trans Cc))) (fun loc e1 e2=> ?_) fun x o hx hxo=> ?_
 ·exact⟨rfl,rfl,rfl,rfl,rfl,rfl,rfl,rfl,rfl,rfl,rfl,by simp[e1],by simp[e2],by simp,rfl,rfl,rfl,rfl⟩
 ·have xb:x≠b:=ne_nb hxo hb0
  have xc:x≠c:=fun q=>by rw[q,←A c hac.symm hbc.symm,hc] at hxo;exact absurd hxo nn
  have xe:x≠e:=fun q=>by
   have:m15 e=μ e:=((o15 e hae.symm).trans ((af _ _ hce.symm).trans ((A e hae.symm hbe.symm))))
   rw[he] at this;rw[q,←this] at hxo;exact absurd hxo nn
  rw[o16 x hx,af _ _ xe,o15 x hx,af _ _ xc,A x hx xb];exact hxo
theorem fresh_spec(h:R μ z)(hn:z.last+1∉z.S)(hg:z.gn < 9999){sort par:Int}
  (hΦ:∀μ' a b c,R μ' {z with loc:=upd (upd (upd z.loc (3,z.last+1) a) (4,z.last+1) b) (5,z.last+1) c,last:=z.last+1,S:=(z.last+1)::z.S,wd:=upd z.wd (z.last+1) ⟨sort,par,0,0,0,0,0⟩,K:=upd z.K (z.last+1) [],gn:=z.gn+1}→
   (∀x o,Nl z x→μ x=some o→μ' x=some o)→Φ (.ref a) μ'):az tab (d+2) 119 [.ref (z.loc (0,0)), .int sort, .int par] μ Φ Ψ:=by
 refine call_of (fn:=f_WindowTree_fresh) rfl rfl ?_
 simp[f_WindowTree_fresh,↓exe h.aLast]
 refine h.sLast _ fun m1 h1 o1=> ?_
 try simp
 have aL:=h1.aLast
 have aW:=h1.aWindows
 dsimp only at aL aW
 simp[↓exe aL]
 intro a ha
 refine init_spec (aj _ _ _) fun m2 b c f hb hc hbc ea eb ec hw o2=> ?_
 try simp
 have aN:=h1.nl ha
 have hab:a≠b:=fun q=>by rw[←q,aj] at hb;exact absurd hb.symm nn
 have hac:a≠c:=fun q=>by rw[←q,aj] at hc;exact absurd hc.symm nn
 rw[af _ _ hab.symm] at hb
 rw[af _ _ hac.symm] at hc
 have h2:R m2 {z with last:=z.last+1}:=h1.same fun s hs=>by
  refine q1 (h1.some_ hs) fun o e=> ?_
  have hne:=aN s hs
  rw[e];exact o2 _ _ hne (((af _ _ hne).trans e))
 refine q17 h2.tab fun g hgt u_=> ?_
 have aL2:=h2.aLast
 have aW2:=h2.aWindows
 dsimp only at aL2 aW2 hgt
 simp[↓exe aL2,↓exe aW2,setItem_of hgt]
 refine⟨_,if_pos (by lia),?_⟩
 refine hΦ _ a b c (h2.addWin (n:=z.last+1) (g:=g) hn aN (h1.nl hb) (h1.nl hc) hab hac hbc ea eb ec (hw _ ?_ ?_) hgt) fun x o hx hxo=> ?_
 ·show upd (upd _ _ _) _ _ (4,z.last+1)=b
  rw[af _ _ ((ne1 (by decide))),aj]
 ·show upd (upd _ _ _) _ _ (5,z.last+1)=c
  rw[aj]
 ·rw[af _ _ (hx _ (live1 z)).symm]
  have:m1 x=some o:=((o1 x hx).trans hxo)
  have xa:x≠a:=ne_nb this ha
  exact o2 x o xa (((af _ _ xa).trans this))
end
section
variable{μ μ':MH}{z:Z}{i:Int}{Φ:Pst}{Ψ:Exc}{d:Nat}
theorem oldAttr{C a:Addr}{f:String→Option MV}{k:Nat}{n:String}{v w:MV}(h:μ a=some (.inst C f k))(hk:k < 900)(hf:f n=some w){Φ:MH→Prop}(go:∀μ',μ' a=some (.inst C (upd f n (some v)) k)→(∀x,x≠a→μ' x=μ x)→Φ μ'):
  ∃μ',setAttrM μ (.ref a) n v=some μ'∧Φ μ':=⟨_,setAttr_at h hk (cnt_s hf),go _ (aj _ _ _) fun x hx=>af _ _ hx⟩
noncomputable def loc0(t tb D a b c:Addr):Slot→Addr:=fun s=>if s=(0,0) then t else if s=(1,0) then tb else if s=(2,0) then D else if s=(3,1) then a else if s=(4,1) then b else c
noncomputable def z0(t tb D a b c:Addr)(w h:Int)(deck:List Int):Z:=⟨loc0 t tb D a b c,1,1,1,1,0,[1],[],fun u_=> ⟨0,0,0,0,w,h,1⟩,fun u_=> [],fun u_=> ⟨0,0,0,0,0⟩,fun u_=> [],deck⟩
theorem map_inj{α β:Type}{f:α→β}{l:List α}(nd:(l.map f).Nodup):∀x∈l,∀y∈l,f x=f y→x=y:=by
 induction l with
 |nil=>intro x hx;cases hx
 |cons a r ih=>
  rw[List.map_cons,List.nodup_cons] at nd
  intro x hx y hy e
  rcases List.mem_cons.mp hx with q |hx <;> rcases List.mem_cons.mp hy with p |hy
  ·exact q.trans p.symm
  ·exact absurd (List.mem_map.mpr ⟨y,hy,by rw[←e,q]⟩) nd.1
  ·exact absurd (List.mem_map.mpr ⟨x,hx,by rw[e,p]⟩) nd.1
  ·exact ih nd.2 x hx y hy e
noncomputable def slots0:List Slot:= [(0,0),(1,0),(2,0),(3,1),(4,1),(5,1)]
section
variable{t tb D a b c:Addr}{w h:Int}{deck:List Int}{m:MH}
theorem z0_live{s:Slot}(hs:live (z0 t tb D a b c w h deck) s):s∈slots0:=by
 obtain⟨k,j⟩:=s
 rcases hs with hs |hs |hs
 ·rcases hs with hs |hs |hs
  ·exact hs▸ .head _
  ·exact hs▸ .tail _ (.head _)
  ·exact hs▸ .tail _ (.tail _ (.head _))
 ·have e:j=1:=List.mem_singleton.mp hs.2
  rw[e]
  rcases hs.1 with e |e |e <;> dsimp only at e <;> rw[e]
  ·exact .tail _ (.tail _ (.tail _ (.head _)))
  ·exact .tail _ (.tail _ (.tail _ (.tail _ (.head _))))
  ·exact .tail _ (.tail _ (.tail _ (.tail _ (.tail _ (.head _)))))
 ·exact nomatch hs.2
theorem z0_R{f fa:String→Option MV}{g:Int→Option MV}{n1:Nat}(nd: [t,tb,D,a,b,c].Nodup)(ht:m t=some (.inst 164 f n1))(hn1:n1≤7)(hf:TreeF (z0 t tb D a b c w h deck) f)
  (htb:m tb=some (.idict g 1)) (hg:g 1=some (.ref a)) (ha:m a=some (.inst 93 fa 16)) (hw:WinF (loc0 t tb D a b c) 1 ⟨0,0,0,0,w,h,1⟩ fa) (hb:m b=some (.list [])) (hc:m c=some (.list [])) (hD:m D=some (.list (deck.map .int))):R m (z0 t tb D a b c w h deck):=by
 refine⟨fun s u hs hu e=>map_inj (f:=loc0 t tb D a b c) (l:=slots0) nd s (z0_live hs) u (z0_live hu) e,⟨_,n1,ht,hn1,hf⟩,⟨g,htb,fun j hj=> ?_⟩,fun j hj=> ?_,fun j hj=> ?_,fun j hj=> ?_,fun j hj=> (nomatch hj),fun j hj=> (nomatch hj),hD⟩
 all_goals
  have e:j=1:=List.mem_singleton.mp hj
  subst e
 ·exact hg
 ·exact⟨fa,ha,hw⟩
 ·exact hb
 ·exact hc
end
theorem tinit_spec{t D:Addr}{w h:Int}{deck:List Int}(ht:μ t=some (.inst 164 (fun u_=>none) 0))(hD:μ D=some (.list (deck.map .int)))
  (hΦ:∀μ' tb a b c,R μ' (z0 t tb D a b c w h deck)→(∀x o,x≠t→μ x=some o→μ' x=some o)→Φ .none μ'):az tab (d+3) 112 [.ref t, .int w, .int h, .int 1, .int 3, .int 2] μ Φ Ψ:=by
 refine call_of (fn:=f_WindowTree_init) rfl rfl ?_
 simp[f_WindowTree_init]
 intro tb htb
 have t_tb:t≠tb:=ne_nb ht htb
 have D_tb:D≠tb:=ne_nb hD htb
 have D_t:D≠t:=fun e=>by rw[e,ht] at hD;cases hD
 refine newAttr (μ:=upd μ tb (some (.idict (fun u_=>none) 0))) (((af _ _ t_tb).trans ht)) (by decide) rfl fun m1 h1 o1=> ?_
 try simp
 refine newAttr h1 (by decide) rfl fun m2 h2 o2=> ?_
 try simp
 refine newAttr h2 (by decide) rfl fun m3 h3 o3=> ?_
 try simp
 refine newAttr h3 (by decide) rfl fun m4 h4 o4=> ?_
 try simp
 refine newAttr h4 (by decide) rfl fun m5 h5 o5=> ?_
 try simp
 have A5:∀x,x≠t→m5 x=upd μ tb (some (.idict (fun u_=>none) 0)) x:=fun x hx=> ((o5 x hx).trans ((o4 x hx).trans ((o3 x hx).trans ((o2 x hx).trans ((o1 x hx))))))
 refine⟨_,⟨_,h5⟩,rfl,?_⟩
 refine call_of (fn:=f_WindowTree_fresh) rfl rfl ?_
 simp[f_WindowTree_fresh,attr_at h5]
 refine oldAttr (w:= .int 0) h5 (by decide) rfl fun m6 h6 o6=> ?_
 simp[h6,attr_at h6]
 intro a ha
 have t_a:t≠a:=ne_nb h6 ha
 refine init_spec (d:=d) (aj _ _ _) fun m7 b c f hb hc hbc ea eb ec hw o7=> ?_
 try simp
 have hab:a≠b:=fun q=>by rw[←q,aj] at hb;exact absurd hb.symm nn
 have hac:a≠c:=fun q=>by rw[←q,aj] at hc;exact absurd hc.symm nn
 rw[af _ _ hab.symm] at hb
 rw[af _ _ hac.symm] at hc
 have t_b:t≠b:=ne_nb h6 hb
 have t_c:t≠c:=ne_nb h6 hc
 have T6:m6 tb=some (.idict (fun u_=>none) 0):=by rw[o6 _ t_tb.symm,A5 _ t_tb.symm,aj]
 have D6:m6 D=some (.list (deck.map .int)):=((o6 _ D_t).trans ((A5 _ D_t).trans ((af _ _ D_tb).trans hD)))
 have tb_a:tb≠a:=ne_nb T6 ha
 have tb_b:tb≠b:=ne_nb T6 hb
 have tb_c:tb≠c:=ne_nb T6 hc
 have D_a:D≠a:=ne_nb D6 ha
 have D_b:D≠b:=ne_nb D6 hb
 have D_c:D≠c:=ne_nb D6 hc
 have old7:∀x o,x≠a→m6 x=some o→m7 x=some o:=fun x o hx e=>o7 x o hx (((af _ _ hx).trans e))
 have h7:=old7 _ _ t_a h6
 have T7:=old7 _ _ tb_a T6
 have D7:=old7 _ _ D_a D6
 simp[attr_at h7,h7,setItem_of T7,setItemO,onIntV]
 have hw':=hw (loc0 t tb D a b c) (rfl) (rfl)
 have k7:∀{x} o,x≠tb→m7 x=some o→upd m7 tb (some (.idict (upd (fun u_=>none) 1 (some (.ref a))) 1)) x=some o:=fun o hx e=> ((af _ _ hx).trans e)
 refine oldAttr (k7 _ tb_a.symm ea) (by decide) hw'.wid fun m8 h8 o8=> ?_
 try simp
 refine oldAttr h8 (by decide) (w:= .int 0) (by simpa using hw'.hei) fun m9 h9 o9=> ?_
 try simp
 refine oldAttr h9 (by decide) (w:= .int 0) (by simpa using hw'.buf) fun m10 h10 o10=> ?_
 try simp
 have A10:∀x,x≠a→x≠tb→m10 x=m7 x:=fun x hx hxt=> ((o10 x hx).trans ((o9 x hx).trans ((o8 x hx).trans ((af _ _ hxt)))))
 have T10:m10 tb=some (.idict (upd (fun u_=>none) 1 (some (.ref a))) 1):=by rw[o10 _ tb_a,o9 _ tb_a,o8 _ tb_a,aj]
 have t10:=(A10 t t_a t_tb).trans h7
 simp[attr_at h10,h10,hw'.number]
 refine newAttr t10 (by decide) rfl fun m11 h11 o11=> ?_
 try simp[attr_at h11]
 have h10':=(o11 _ t_a.symm).trans h10
 simp[attr_at h10',h10',hw'.number]
 refine newAttr h11 (by decide) rfl fun m12 h12 o12=> ?_
 try simp[attr_at h12]
 have h10'':=(o12 _ t_a.symm).trans h10'
 simp[attr_at h12,attr_at h10'',h12,h10'',hw'.number]
 have A12:∀x,x≠t→m12 x=m10 x:=fun x hx=> ((o12 x hx).trans ((o11 x hx)))
 have D12:m12 D=some (.list (deck.map .int)):=(A12 _ D_t).trans ((A10 _ D_a D_tb).trans D7)
 have r:R m12 (z0 t tb D a b c w h deck):=by
  refine z0_R (by simp[t_tb,D_t.symm,t_a,t_b,t_c,D_tb.symm,tb_a,tb_b,tb_c,D_a,D_b,D_c,hab,hac,hbc]) h12 (Nat.le_refl _) ⟨rfl,rfl,⟨_,rfl⟩,rfl,rfl,rfl,rfl,rfl,rfl,rfl,rfl,rfl,rfl⟩ ((A12 _ t_tb.symm).trans T10) (aj _ _ _) h10'' ?_ ((A12 _ t_b.symm).trans ((A10 _ hab.symm tb_b.symm).trans eb)) ((A12 _ t_c.symm).trans ((A10 _ hac.symm tb_c.symm).trans ec)) D12
  exact⟨hw'.number,hw'.sort,hw'.par,hw'.lft,hw'.top,rfl,rfl,rfl,hw'.start,hw'.point,hw'.hscroll,hw'.kids,hw'.early,hw'.time,hw'.m1,hw'.m2,hw'.m3,hw'.m4⟩
 refine touch_spec (d:=d+1) (i:=1) (Φ:=fun v μ=>Φ .none μ) (Ψ:=Ψ) r (List.mem_singleton.mpr rfl) fun m13 r13 o13=> ?_
 refine hΦ m13 tb a b c r13 fun x o hx e=> ?_
 by_cases xD:x=D
 ·replace xD:=xD.symm;subst xD
  have:=r13.deck
  rw[hD] at e
  obtain rfl:=Option.some.inj e
  exact this
 have x_tb:x≠tb:=ne_nb e htb
 have e6:m6 x=some o:=((o6 _ hx).trans ((A5 _ hx).trans ((af _ _ x_tb).trans e)))
 have x_a:x≠a:=ne_nb e6 ha
 have e12:m12 x=some o:=((A12 _ hx).trans ((A10 _ x_a x_tb).trans (old7 _ _ x_a e6)))
 have x_b:x≠b:=ne_nb e6 hb
 have x_c:x≠c:=ne_nb e6 hc
 refine(o13 x fun s hs q=> ?_).trans e12
 have:=List.mem_map_of_mem (f:=loc0 t tb D a b c) (z0_live hs)
 rw[show loc0 t tb D a b c s=x from q,show slots0.map (loc0 t tb D a b c)= [t,tb,D,a,b,c] from rfl] at this
 simp[hx,x_tb,x_a,x_b,x_c,xD] at this
end
inductive F where
 |nil
 |node (i:Int) (k r:F)
noncomputable def ids:F→List Int
 | .nil=> []
 | .node i k r=>i::(ids k++ids r)
noncomputable def tops:F→List Int
 | .nil=> []
 | .node i _ r=>i::tops r
noncomputable def av:F→Nat
 | .nil=>0
 | .node _ k r=>1+av k+av r
noncomputable def app:F→F→F
 | .nil,g=>g
 | .node i k r,g=> .node i k (app r g)
noncomputable def lvs:F→List Int
 | .nil=> []
 | .node i .nil r=>i::lvs r
 | .node _ (.node j k s) r=>lvs (.node j k s)++lvs r
theorem tops_app(f g:F):tops (app f g)=tops f++tops g:=by
 induction f with
 |nil=>rfl
 |node i k r _ ih=>simp[app,tops,ih]
theorem ids_app(f g:F):ids (app f g)=ids f++ids g:=by
 induction f with
 |nil=>rfl
 |node i k r _ ih=>simp[app,ids,ih]
theorem fsize_app(f g:F):av (app f g)=av f+av g:=by
 induction f with
 |nil=>simp[app,av]
 |node i k r _ ih=>simp[app,av,ih];lia
theorem lvs_node(i:Int)(k r:F):lvs (.node i k r)=(match k with | .nil=> [i] |k=>lvs k)++lvs r:=by
 cases k <;> simp[lvs]
theorem lvs_app(f g:F):lvs (app f g)=lvs f++lvs g:=by
 induction f with
 |nil=>rfl
 |node i k r _ ih=>simp[app,lvs_node,ih]
theorem tops_le(f:F):(tops f).length≤av f:=by
 induction f with
 |nil=>simp[tops]
 |node i k r _ h=>simp[av,tops];lia
theorem lvs_le(f:F):(lvs f).length≤av f:=by
 induction f with
 |nil=>simp[lvs]
 |node i k r h1 h2=>
  rw[lvs_node]
  cases k with
  |nil=>simp[av];lia
  |node=>simp[av] at *;lia
noncomputable def SrtOk(s:Int):F→Prop
 | .nil=>s=0
 | .node _ _ _=>s=1∨s=2
noncomputable def Wk(z:Z):F→Prop
 | .nil=>True
 | .node i k r=>i∈z.S∧z.K i=tops k∧SrtOk (z.wd i).sort k∧Wk z k∧Wk z r
theorem Wk_app{z:Z}{f g:F}:Wk z (app f g)↔Wk z f∧Wk z g:=by
 induction f with
 |nil=>simp[app,Wk]
 |node i k r _ ih=>simp[app,Wk,ih];constructor <;> (intro h;simp_all)
section
variable{μ μ':MH}{z:Z}{i:Int}{Φ:Pst}{Ψ:Exc}{d:Nat}
noncomputable def nw:ME:= .neNil false (.var "waiting")
noncomputable def b_lu:MSs:= .cons (.assign (.name "here") (.item (.attr (.var "tree") "windows") (.bm .pop (.var "waiting") .nil))) (.cons (.ite (.cmp .eq (.attr (.var "here") "sort") (.glob "LEAF" (.int 0))) (.cons (.expr (.bm .append (.var "found") (.cons (.attr (.var "here") "number") .nil))) .nil) (.cons (.expr (.bm .extend (.var "waiting") (.cons (.rev (.attr (.var "here") "children")) .nil))) .nil)) .nil)
theorem Ext.chg{μ μ' m:MH}(h:Ext μ μ'){a:Addr}(ha:μ a= .none)(hm:∀x,x≠a→m x=μ' x):Ext μ m:=fun b ob e=>by
 rw[hm b (ne_nb e ha)];exact h b ob e
theorem lu_loop{C:aB}{T:FPst}{z:Z}{μ0:MH}(h:R μ0 z){fa wa:Addr}(hf:μ0 fa=none)(hw:μ0 wa=none)(hfw:fa≠wa)(n:Nat):∀(G:F),av G≤n→Wk z G→∀(fnd:List Int) (ρ:ao) (μ:MH),Ext μ0 μ→
  ρ "tree"=some (.ref (z.loc (0,0)))→ρ "found"=some (.ref fa)→ρ "waiting"=some (.ref wa)→μ fa=some (.list (fnd.map .int))→μ wa=some (.list ((tops G).map .int).reverse)→fnd.length+av G < LIM→
  (∀ρ' μ',Ext μ0 μ'→ρ' "found"=some (.ref fa)→μ' fa=some (.list ((fnd++lvs G).map .int))→T .next ρ' μ')→whL C nw b_lu T (n+1) ρ μ:=by
 have last:∀(n:Nat) (fnd:List Int) (ρ:ao) (μ:MH),Ext μ0 μ→ρ "found"=some (.ref fa)→ρ "waiting"=some (.ref wa)→μ fa=some (.list (fnd.map .int))→μ wa=some (.list [])→
   (∀ρ' μ',Ext μ0 μ'→ρ' "found"=some (.ref fa)→μ' fa=some (.list ((fnd++lvs .nil).map .int))→T .next ρ' μ')→whL C nw b_lu T (n+1) ρ μ:=fun n fnd ρ μ he r2 r3 q1 q2 hT=>by
  rw[whL_succ]
  simp[nw,aE q2,↓exe r3]
  exact hT ρ μ he r2 (by simpa[lvs] using q1)
 induction n with
 |zero=>
  intro G hn hk fnd ρ μ he r1 r2 r3 q1 q2 hl hT
  cases G with
  |node=>simp[av] at hn
  |nil=>exact last _ fnd ρ μ he r2 r3 q1 (by simpa[tops] using q2) hT
 |succ n ih=>
  intro G hn hk fnd ρ μ he r1 r2 r3 q1 q2 hl hT
  cases G with
  |nil=>exact last _ fnd ρ μ he r2 r3 q1 (by simpa[tops] using q2) hT
  |node i k r=>
  rw[whL_succ]
  refine q3 hk fun hi hK hs hk hr=> ?_
  have e2:μ wa=some (.list (((tops r).map .int).reverse++ [.int i])):=by simpa[tops] using q2
  have tl:(tops r).length+1 < LIM:=by have:=tops_le r;simp only[av] at hl;lia
  have tk:(tops k).length < LIM:=by have:=tops_le k;simp only[av] at hl;lia
  have hn':av k+av r≤n:=by simp only[av] at hn;lia
  have hl':fnd.length+1+av k+av r < LIM:=by simp only[av] at hl;lia
  simp[nw,b_lu,aE e2,ok_pop,↓exe r1,↓exe r3,↓exf (aE e2),↓exe ((h.ext he).aWindows)]
  refine st_pop e2 (by simpa using tl) fun m1 w1 o1=> ?_
  try simp
  have he1:=he.chg hw o1
  have h1:=h.ext he1
  have f1:=(o1 fa hfw).trans q1
  simp[↓exe (h1.gWin hi),↓exe (h1.wSort hi)]
  cases k with
  |nil=>
   simp[show(z.wd i).sort=0 from hs,aE f1,↓exe r2,↓exe (h1.wNumber hi),ok_append]
   refine st_append f1 (by simp;lia) fun m2 f2 o2=> ?_
   try simp
   exact ih r (by lia) hr (fnd++ [i]) _ _ (he1.chg hf o2) r1 r2 r3 (by rw[f2];simp) (((o2 _ hfw.symm).trans w1)) (by simp only[av] at hl';simp;lia) fun ρ' μ' x y w=>hT ρ' μ' x y (by rw[w];simp[lvs])
  |node j k2 s2=>
   have hs':(z.wd i).sort≠0:=by rcases hs with e |e <;> lia
   simp[hs',aE w1,hK,tk,↓exe (h1.wKids hi),↓exf (aE (h1.kids i hi)),↓exe r3,ok_extend]
   refine st_new (Φ:=fun v m=>bmP .extend (.ref wa) [v] m _) fun b m2 hb b2 o2=> ?_
   try simp[hs',aE w1,aE (h1.kids i hi),hK,tk,↓exf (aE w1),↓exe (h1.wKids hi),↓exf (aE (h1.kids i hi)),↓exe r3,b_lu,ok_pop,ok_append,ok_extend,↓exe r1,↓exe r2]
   have hbw:wa≠b:=ne_nb w1 hb
   have hbf:fa≠b:=ne_nb f1 hb
   refine st_extend ((o2 _ hbw).trans w1) b2 (by simp;lia) (by simp;lia) fun m3 w3 o3=> ?_
   try simp
   exact ih (app (.node j k2 s2) r) (by rw[fsize_app];exact hn') (Wk_app.mpr ⟨hk,hr⟩) fnd _ _ ((he1.chg (he1.none hb) o2).chg hw o3) r1 r2 r3 (((o3 _ hfw).trans ((o2 _ hbf).trans f1))) (by rw[w3,tops_app];simp[tops]) (by rw[fsize_app];lia) fun ρ' μ' x y w=>hT ρ' μ' x y (by rw[w,lvs_app];simp[lvs])
theorem leaves_under_spec(h:R μ z){k:F}(hk:Wk z (.node i k .nil))(hl:av (.node i k .nil) < LIM)
  (hΦ:∀μ' a,Ext μ μ'→μ a=none→μ' a=some (.list ((lvs (.node i k .nil)).map .int))→Φ (.ref a) μ'):az tab (d+1) 189 [.ref (z.loc (0,0)), .int i] μ Φ Ψ:=by
 refine call_of (fn:=f_leaves_under) rfl rfl ?_
 simp[f_leaves_under]
 refine⟨by decide,fun fa hfa=> ⟨by decide,fun wa hwa=> ⟨av (.node i k .nil)+1,?_⟩⟩⟩
 have hfw:fa≠wa:=fun e=>by rw[←e,aj] at hwa;exact absurd hwa.symm nn
 have hw0:μ wa=none:=by rw[←hwa,af _ _ hfw.symm]
 refine lu_loop h hfa hw0 hfw _ (.node i k .nil) (Nat.le_refl _) hk [] _ _ (((Ext.refl μ).new hfa _).new hwa _) (rfl) (rfl) (rfl) (by rw[af _ _ hfw,aj];rfl) (by rw[aj];simp[tops]) (by simpa using hl) fun ρ' μ' x y w=> ?_
 simp[↓exe y]
 exact hΦ μ' fa x hfa w
theorem leaves_spec(h:R μ z){k:F}(hk:Wk z (.node z.root k .nil))(hl:av (.node z.root k .nil) < LIM)
  (hΦ:∀μ' a,Ext μ μ'→μ a=none→μ' a=some (.list ((lvs (.node z.root k .nil)).map .int))→Φ (.ref a) μ'):az tab (d+2) 196 [.ref (z.loc (0,0))] μ Φ Ψ:=by
 refine call_of (fn:=f_leaves) rfl rfl ?_
 simp[f_leaves,↓exe h.aRoot]
 exact leaves_under_spec h hk hl hΦ
end
noncomputable def told_e:ME:= .bin .add (.item (.list (.cons (.cst (.str (Str.ofString "leaf"))) (.cons (.cst (.str (Str.ofString "column"))) (.cons (.cst (.str (Str.ofString "row"))) .nil)))) (.attr (.var "here") "sort")) (.fstr (.cons (.cst (.str (Str.ofString " "))) (.cons (.attr (.var "here") "width") (.cons (.cst (.str (Str.ofString "x"))) (.cons (.attr (.var "here") "height") (.cons (.cst (.str (Str.ofString "+"))) (.cons (.attr (.var "here") "left") (.cons (.cst (.str (Str.ofString "+"))) (.cons (.attr (.var "here") "top") .nil)))))))))
noncomputable def lb_layout_text_0:MSs:=(.cons (.unpack [(.name "number"),(.name "deep")] (.bm .pop (.var "waiting") .nil)) (.cons (.assign (.name "here") (.item (.attr (.var "tree") "windows") (.var "number"))) (.cons (.assign (.name "told") told_e) (.cons (.ite (.cmp .eq (.attr (.var "here") "sort") (.glob "LEAF" (.int 0))) (.cons (.assign (.name "told") (.bin .add (.bin .add (.var "told") (.fstr (.cons (.cst (.str (Str.ofString " "))) (.cons (.attr (.var "here") "buffer") .nil)))) (.ite (.cmp .eq (.var "number") (.attr (.var "tree") "selected")) (.cst (.str (Str.ofString "*"))) (.cst (.str (Str.ofString "")))))) .nil) .nil) (.cons (.expr (.bm .append (.var "lines") (.cons (.bin .add (.bin .mul (.cst (.str (Str.ofString "."))) (.var "deep")) (.var "told")) .nil))) (.cons (.for "child" (.rev (.attr (.var "here") "children")) (.cons (.expr (.bm .append (.var "waiting") (.cons (.tuple (.cons (.var "child") (.cons (.bin .add (.var "deep") (.cst (.int 1))) .nil))) .nil))) .nil)) .nil))))))
noncomputable def lb_layout_text_1:MSs:=(.cons (.expr (.bm .append (.var "waiting") (.cons (.tuple (.cons (.var "child") (.cons (.bin .add (.var "deep") (.cst (.int 1))) .nil))) .nil))) .nil)
noncomputable def lb_set_tree_size_0:MSs:=(.cons (.unpack [(.name "own"),(.name "much")] (.bm .pop (.var "waiting") .nil)) (.cons (.assign (.name "here") (.item (.attr (.var "tree") "windows") (.var "own"))) (.cons (.ite (.cmp .ne (.attr (.var "here") "sort") (.glob "LEAF" (.int 0))) (.cons (.ite (.cmp .eq (.call (.glob "along" (.ref 175)) (.cons (.attr (.var "here") "sort") .nil)) (.var "axis")) (.cons .dead .nil) (.cons (.for "child" (.attr (.var "here") "children") (.cons (.expr (.bm .append (.var "waiting") (.cons (.tuple (.cons (.var "child") (.cons (.var "much") .nil))) .nil))) .nil)) .nil)) .nil) .nil) (.cons (.expr (.meth 93 69 (.var "here") "set_size" (.cons (.var "axis") (.cons (.var "much") .nil)))) .nil))))
noncomputable def lb_set_tree_size_2:MSs:=(.cons (.expr (.bm .append (.var "waiting") (.cons (.tuple (.cons (.var "child") (.cons (.var "much") .nil))) .nil))) .nil)
noncomputable def lb_set_places_0:MSs:=(.cons (.unpack [(.name "number"),(.name "left"),(.name "top")] (.bm .pop (.var "waiting") .nil)) (.cons (.assign (.name "here") (.item (.attr (.var "tree") "windows") (.var "number"))) (.cons (.multi [(.attr (.var "here") "left"),(.attr (.var "here") "top")] (.cons (.var "left") (.cons (.var "top") .nil))) (.cons (.for "child" (.attr (.var "here") "children") (.cons (.expr (.bm .append (.var "waiting") (.cons (.tuple (.cons (.var "child") (.cons (.var "left") (.cons (.var "top") .nil)))) .nil))) (.cons (.ite (.cmp .eq (.call (.glob "along" (.ref 175)) (.cons (.attr (.var "here") "sort") .nil)) (.glob "WIDTH" (.int 0))) (.cons (.assign (.name "left") (.bin .add (.var "left") (.attr (.item (.attr (.var "tree") "windows") (.var "child")) "width"))) .nil) (.cons (.assign (.name "top") (.bin .add (.var "top") (.attr (.item (.attr (.var "tree") "windows") (.var "child")) "height"))) .nil)) .nil))) .nil))))
noncomputable def lb_set_places_1:MSs:=(.cons (.expr (.bm .append (.var "waiting") (.cons (.tuple (.cons (.var "child") (.cons (.var "left") (.cons (.var "top") .nil)))) .nil))) (.cons (.ite (.cmp .eq (.call (.glob "along" (.ref 175)) (.cons (.attr (.var "here") "sort") .nil)) (.glob "WIDTH" (.int 0))) (.cons (.assign (.name "left") (.bin .add (.var "left") (.attr (.item (.attr (.var "tree") "windows") (.var "child")) "width"))) .nil) (.cons (.assign (.name "top") (.bin .add (.var "top") (.attr (.item (.attr (.var "tree") "windows") (.var "child")) "height"))) .nil)) .nil))
noncomputable def lb_joined_0:MSs:=(.cons (.assign (.name "own") (.item (.attr (.var "tree") "windows") (.var "child"))) (.cons (.ite (.cmp .eq (.attr (.var "own") "sort") (.attr (.var "here") "sort")) (.cons (.expr (.bm .extend (.var "found") (.cons (.attr (.var "own") "children") .nil))) (.cons (.expr (.bm .dpop (.attr (.var "tree") "windows") (.cons (.var "child") .nil))) .nil)) (.cons (.expr (.bm .append (.var "found") (.cons (.var "child") .nil))) .nil)) .nil))
noncomputable def lb_joined_1:MSs:=(.cons (.assign (.attr (.item (.attr (.var "tree") "windows") (.var "child")) "parent") (.var "number")) .nil)
noncomputable def lb__law_leaves_0:MSs:=(.cons (.unpack [(.name "own"),(.name "way")] (.bm .pop (.var "waiting") .nil)) (.cons (.ite (.cmp .eq (.item (.var "own") (.cst (.str (Str.ofString "sort")))) (.cst (.str (Str.ofString "leaf")))) (.cons (.expr (.bm .append (.var "found") (.cons (.tuple (.cons (.var "own") (.cons (.var "way") .nil))) .nil))) .nil) .nil) (.cons (.forRange "nth" (.cons (.bin .sub (.len (.item (.var "own") (.cst (.str (Str.ofString "parts"))))) (.cst (.int 1))) (.cons (.neg (.cst (.int 1))) (.cons (.neg (.cst (.int 1))) .nil))) (.cons (.expr (.bm .append (.var "waiting") (.cons (.tuple (.cons (.item (.item (.var "own") (.cst (.str (Str.ofString "parts")))) (.var "nth")) (.cons (.ladd (.var "way") (.list (.cons (.tuple (.cons (.var "own") (.cons (.var "nth") .nil))) .nil))) .nil))) .nil))) .nil)) .nil)))
noncomputable def lb__law_leaves_1:MSs:=(.cons (.expr (.bm .append (.var "waiting") (.cons (.tuple (.cons (.item (.item (.var "own") (.cst (.str (Str.ofString "parts")))) (.var "nth")) (.cons (.ladd (.var "way") (.list (.cons (.tuple (.cons (.var "own") (.cons (.var "nth") .nil))) .nil))) .nil))) .nil))) .nil)
noncomputable def lb__law_lines_0:MSs:=(.cons (.expr (.bm .extend (.var "found") (.cons (.call (.glob "_law_lines" (.ref 367)) (.cons (.var "part") (.cons (.var "left") (.cons (.var "top") (.cons (.bin .add (.var "deep") (.cst (.int 1))) (.cons (.var "starred") .nil)))))) .nil))) (.cons (.ite (.cmp .eq (.item (.var "own") (.cst (.str (Str.ofString "sort")))) (.cst (.str (Str.ofString "row")))) (.cons (.assign (.name "left") (.bin .add (.var "left") (.call (.glob "_law_size" (.ref 360)) (.cons (.var "part") (.cons (.cst (.str (Str.ofString "row"))) .nil))))) .nil) (.cons (.assign (.name "top") (.bin .add (.var "top") (.call (.glob "_law_size" (.ref 360)) (.cons (.var "part") (.cons (.cst (.str (Str.ofString "column"))) .nil))))) .nil)) .nil))
section
variable{μ μ':MH}{z:Z}{i:Int}{Φ:Pst}{Ψ:Exc}{d:Nat}
theorem windows_under_leaf(h:R μ z)(hi:i∈z.S)(hK:z.K i= [])
  (hΦ:∀μ' a,Ext μ μ'→μ a=none→μ' a=some (.list [.int i])→Φ (.ref a) μ'):az tab (d+1) 203 [.ref (z.loc (0,0)), .int i] μ Φ Ψ:=by
 refine call_of (fn:=f_windows_under) rfl rfl ?_
 simp[f_windows_under]
 refine⟨by decide,fun fa hfa=> ⟨by decide,fun wa hwa=> ⟨2,?_⟩⟩⟩
 have hfw:fa≠wa:=fun e=>by rw[←e,aj] at hwa;exact absurd hwa.symm nn
 have hw0:μ wa=none:=by rw[←hwa,af _ _ hfw.symm]
 have he:=(((Ext.refl μ).new hfa (some (.list []))).new hwa (some (.list [.int i])))
 generalize hm:upd (upd μ fa (some (.list []))) wa (some (.list [.int i]))=m at *
 have q1:m fa=some (.list []):=by rw[←hm,af _ _ hfw,aj]
 have q2:m wa=some (.list ([]++ [.int i])):=by rw[←hm,aj];rfl
 rw[whL_succ]
 simp[aE q2,ok_pop,↓exf (aE q2),↓exe ((h.ext he).aWindows)]
 refine st_pop q2 (by decide) fun m1 w1 o1=> ?_
 try simp
 have he1:=he.chg hw0 o1
 have h1:=h.ext he1
 have f1:=(o1 fa hfw).trans q1
 simp[aE f1,↓exe (h1.gWin hi),↓exe (h1.wNumber hi),ok_append]
 refine st_append f1 (by decide) fun m2 f2 o2=> ?_
 try simp[ok_extend]
 have he2:=he1.chg hfa o2
 have h2:=h.ext he2
 have w2:=(o2 wa hfw.symm).trans w1
 simp[aE w2,hK,↓exe (h2.wKids hi),↓exf (aE (h2.kids i hi))]
 refine⟨by decide,st_new (Φ:=fun v m=>bmP .extend (.ref wa) [v] m _) fun b m3 hb b3 o3=> ?_⟩
 have hbw:wa≠b:=ne_nb w2 hb
 have hbf:fa≠b:=ne_nb f2 hb
 refine st_extend ((o3 _ hbw).trans w2) b3 (by decide) (by decide) fun m4 w4 o4=> ?_
 try simp
 rw[whL_succ]
 simp[↓exf (aE w4)]
 exact hΦ m4 fa ((he2.chg (he2.none hb) o3).chg hw0 o4) hfa (by rw[o4 _ hfw,o3 _ hbf,f2];rfl)
theorem R.popW(h:R μ z)(hi:i∈z.S){g:Int→Option MV}(hg:μ (z.loc (1,0))=some (.idict g z.gn)):R (upd μ (z.loc (1,0)) (some (.idict (upd g i none) z.gn))) {z with S:=z.S.filter fun j=>decide (j≠i)}:=by
 have sub:∀s,live {z with S:=z.S.filter fun j=>decide (j≠i)} s→live z s:=fun s hs=>by
  rcases hs with q |⟨q1,q2⟩ |q
  ·exact .inl q
  ·exact .inr (.inl ⟨q1,(List.mem_filter.mp q2).1⟩)
  ·exact .inr (.inr q)
 have ne:∀t,live z t→t≠(1,0)→upd μ (z.loc (1,0)) (some (.idict (upd g i none) z.gn)) (z.loc t)=μ (z.loc t):=fun t ht hn=>af _ _ (h.ne ht (live1 z) hn)
 have hS:∀j∈z.S.filter fun j=>decide (j≠i),j∈z.S∧j≠i:=fun j hj=> ⟨(List.mem_filter.mp hj).1,by simpa using(List.mem_filter.mp hj).2⟩
 refine q17 h.tab fun g' hg' hgS=> ?_
 rw[hg] at hg';cases hg'
 refine⟨fun s t hs ht=>h.inj s t (sub s hs) (sub t ht),?_,⟨upd g i none,aj _ _ _,fun j hj=> ?_⟩,fun j hj=> ?_,fun j hj=> ?_,fun j hj=> ?_,fun j hj=> ?_,fun j hj=> ?_,?_⟩
 ·refine q18 h.tree fun f n a b c=> ?_
  exact⟨f,n,(ne _ (live0 z) ((ne1 (by decide)))).trans a,b,⟨c.1,c.2,c.3,c.4,c.5,c.6,c.7,c.8,c.9,c.10,c.11,c.12,c.13⟩⟩
 ·rw[af _ _ (hS j hj).2];exact hgS j (hS j hj).1
 ·refine q17 (h.win j (hS j hj).1) fun f a b=> ?_
  exact⟨f,(ne _ (live3 (hS j hj).1) ((ne1 (by decide)))).trans a,b⟩
 ·exact(ne _ (live4 (hS j hj).1) ((ne1 (by decide)))).trans (h.kids j (hS j hj).1)
 ·exact(ne _ (live5 (hS j hj).1) ((ne1 (by decide)))).trans (h.early j (hS j hj).1)
 ·refine q20 (h.box j hj) fun f n a b=> ?_
  exact⟨f,n,(ne _ (live6 hj) ((ne1 (by decide)))).trans a,b⟩
 ·exact(ne _ (live7 hj) ((ne1 (by decide)))).trans (h.parts j hj)
 ·exact(ne _ (live2 z) ((ne1 (by decide)))).trans h.deck
theorem R.dpop(h:R μ z)(hi:i∈z.S)(hg:z.gn < 10000)(k:∀v m,R m {z with S:=z.S.filter fun j=>decide (j≠i)}→(∀x,x≠z.loc (1,0)→m x=μ x)→Φ v m):bmP .dpop (.ref (z.loc (1,0))) [.int i] μ Φ:=by
 refine q17 h.tab fun g e hgS=> ?_
 exact⟨g,z.gn,_,e,hg,hgS i hi,k _ _ (h.popW hi e) fun x hx=>af _ _ hx⟩
theorem forget_leaf(h:R μ z)(hi:i∈z.S)(hK:z.K i= [])(hg:z.gn < 10000)(hΦ:∀m,R m {z with S:=z.S.filter fun j=>decide (j≠i)}→Φ .none m):az tab (d+2) 217 [.ref (z.loc (0,0)), .int i] μ Φ Ψ:=by
 refine call_of (fn:=f_forget) rfl rfl ?_
 simp[f_forget]
 refine windows_under_leaf h hi hK fun m a he ha hl=> ⟨a,2,rfl,?_⟩
 rw[foL_succ]
 have h1:=h.ext he
 refine⟨_,hl,?_⟩
 simp[h1.okTab,↓exe h1.aWindows]
 refine h1.dpop hi hg fun v m2 h2 o2=> ?_
 try simp
 rw[foL_succ]
 exact⟨_,(o2 a (h.nl ha _ (live1 z)).symm).trans hl,hΦ m2 h2⟩
theorem least_size_leaf(h:R μ z)(hi:i∈z.S)(hK:z.K i= [])(hs:(z.wd i).sort=0){ax:Int}(hΦ:∀m,Ext μ m→Φ (.int (if ax=0 then 3 else 2)) m):az tab (d+2) 229 [.ref (z.loc (0,0)), .int i, .int ax] μ Φ Ψ:=by
 refine call_of (fn:=f_least_size) rfl rfl ?_
 simp[f_least_size]
 intro fa hfa
 have he0:=(Ext.refl μ).new hfa (some (.idict (fun u_=>none) 0))
 generalize hm:upd μ fa (some (.idict (fun u_=>none) 0))=m0 at *
 have q0:m0 fa=some (.idict (fun u_=>none) 0):=by rw[←hm,aj]
 refine windows_under_leaf (h.ext he0) hi hK fun m a he ha hl=> ?_
 simp[↓exf (aE hl)]
 refine⟨by decide,fun b hb=> ⟨2,?_⟩⟩
 generalize hm1:upd m b (some (.list [.int i]))=m1
 have b1:m1 b=some (.list [.int i]):=by rw[←hm1,aj]
 have o1:∀x,x≠b→m1 x=m x:=fun x hx=>by rw[←hm1,af _ _ hx]
 have he1:=(he0.trans he).chg ((he0.trans he).none hb) o1
 have h1:=h.ext he1
 have q1:m1 fa=some (.idict (fun u_=>none) 0):=(o1 fa (ne_nb (he _ _ q0) hb)).trans (he _ _ q0)
 rw[foL_succ]
 refine⟨_,b1,?_⟩
 simp[hs,↓exe h1.aWindows,↓exe (h1.gWin hi),↓exe (h1.wSort hi),↓h1.kT fun f hf=>hf.m6]
 refine least_leaf_spec h1 ?_
 simp[setItem_of q1,setItemO,onIntV]
 rw[foL_succ]
 refine⟨[.int i],((af _ _ fun e=>by rw[e,q1] at b1;cases b1).trans b1),?_⟩
 have it:itemOf (upd m1 fa (some (.idict (upd (fun _=>none) i (some (.int (if ax=0 then 3 else 2)))) 1))) (.ref fa) (.int i)=some (.int (if ax=0 then 3 else 2)):=(item_of (aj _ _ _)).trans (aj (fun _=>none) i (some (MV.int (if ax=0 then 3 else 2))))
 simp[↓exe it]
 exact hΦ _ (he1.put hfa _)
theorem replace_root(h:R μ z){o n:Int}(ho:o∈z.S)(hn:n∈z.S)(hp:(z.wd o).par=0)(hΦ:∀m,R m {z with wd:=upd z.wd n {z.wd n with par:=0},root:=n}→Φ .none m):az tab (d+1) 210 [.ref (z.loc (0,0)), .int o, .int n] μ Φ Ψ:=by
 refine call_of (fn:=f_replace_child) rfl rfl ?_
 simp[f_replace_child,hp,↓exe h.aWindows,↓exe (h.gWin ho),↓exe (h.wPar ho),↓exe (h.gWin hn)]
 refine h.sPar hn _ fun m1 h1 o1=> ?_
 simp
 exact h1.sRoot n fun m2 h2 o2=>hΦ m2 h2
theorem intsOf_map(l:List Int):intsOf (l.map .int)=some l:=by
 unfold intsOf
 induction l with
 |nil=>rfl
 |cons a r ih=>simp[int_of,ih]
theorem replace_kid(h:R μ z){o n p:Int}(ho:o∈z.S)(hn:n∈z.S)(hpS:p∈z.S)(hp:(z.wd o).par=p)(hp0:p≠0)(hm:o∈z.K p)(hl:(z.K p).length < LIM)
  (hΦ:∀m,R m {z with wd:=upd z.wd n {z.wd n with par:=p},K:=upd z.K p ((z.K p).set ((z.K p).idxOf o) n)}→Φ .none m):az tab (d+1) 210 [.ref (z.loc (0,0)), .int o, .int n] μ Φ Ψ:=by
 refine call_of (fn:=f_replace_child) rfl rfl ?_
 simp[f_replace_child,hp,↓exe h.aWindows,↓exe (h.gWin ho),↓exe (h.wPar ho),↓exe (h.gWin hn)]
 refine h.sPar hn _ fun m1 h1 o1=> ?_
 try simp
 have aW:=h1.aWindows;have gP:=h1.gWin hpS;have kP:=h1.wKids hpS;have lP:=aE (h1.kids p hpS)
 skip
 simp[hp0,lP,ok_index,↓exe aW,↓exe gP,↓exe kP]
 refine⟨_,z.K p,lP,by simpa using hl,intsOf_map _,hm,?_⟩
 have kk:=h1.kids p hpS
 skip
 have lt:(z.K p).idxOf o < (z.K p).length:=List.idxOf_lt_length_iff.mpr hm
 simp[setItem_of kk,setItemO,onIntV]
 refine⟨_,⟨⟨lt,hl⟩,rfl⟩,?_⟩
 have:=h1.setK hpS ((z.K p).set ((z.K p).idxOf o) n)
 rw[List.map_set] at this
 exact hΦ _ this
end
inductive L2(Q:Addr→Prop)(μ:MH):List Addr→List (List MV)→Prop
 |nil:L2 Q μ [] []
 |cons {a:Addr} {t:List MV} {as:List Addr} {ts:List (List MV)}:Q a→μ a=some (.tuple t)→L2 Q μ as ts→L2 Q μ (a::as) (t::ts)
theorem L2.chg{Q:Addr→Prop}{μ m:MH}(hq:∀x t,Q x→μ x=some (.tuple t)→m x=μ x):∀{as:List Addr} {ts:List (List MV)},L2 Q μ as ts→L2 Q m as ts
 |_,_, .nil=> .nil
 |_,_, .cons h e r=> .cons h ((hq _ _ h e).trans e) (r.chg hq)
theorem L2.len{Q:Addr→Prop}{μ:MH}:∀{as:List Addr} {ts:List (List MV)},L2 Q μ as ts→as.length=ts.length
 |_,_, .nil=>rfl
 |_,_, .cons _ _ r=>by simp[r.len]
noncomputable def Stk(Q:Addr→Prop)(μ:MH)(wa:Addr)(ts:List (List MV)):Prop:=∃as,μ wa=some (.list (as.map .ref).reverse)∧L2 Q μ as ts
section
variable{Q:Addr→Prop}{μ μ':MH}{wa:Addr}{t:List MV}{ts:List (List MV)}{Φ:Pst}
theorem Stk.empty(h:μ wa=some (.list [])):Stk Q μ wa []:=⟨[],h, .nil⟩
theorem Stk.nil_list(h:Stk Q μ wa []):μ wa=some (.list []):=by
 refine q17 h fun as h1 h2=> ?_
 cases h2;exact h1
theorem Stk.ne_list(h:Stk Q μ wa (t::ts)):∃xs,μ wa=some (.list xs)∧xs≠[]:=by
 refine q17 h fun as h1 h2=> ?_
 cases h2;exact⟨_,h1,by simp⟩
theorem Stk.chg(h:Stk Q μ wa ts){m:MH}(hw:m wa=μ wa)(hq:∀x t,Q x→μ x=some (.tuple t)→m x=μ x):Stk Q m wa ts:=by
 refine q17 h fun as h1 h2=> ?_
 exact⟨as,hw.trans h1,h2.chg hq⟩
theorem Stk.some_(h:Stk Q μ wa ts):∃xs,μ wa=some (.list xs):=by
 refine q17 h fun as h1 h2=> ?_
 exact⟨_,h1⟩
theorem Stk.else(h:Stk Q μ wa ts){m:MH}{b:Addr}(hb:∀t,μ b≠some (.tuple t))(hw:b≠wa)(o:∀x,x≠b→m x=μ x):Stk Q m wa ts:=
 h.chg (o _ hw.symm) fun x t u_ e=>o x fun q=>hb t (by rw[←q];exact e)
set_option tactic.hygienic true in theorem Stk.pop(h:Stk Q μ wa (t::ts))(hl:ts.length+1 < LIM)(k:∀a m,(∀x,x≠wa→m x=μ x)→m a=some (.tuple t)→Stk Q m wa ts→Φ (.ref a) m):bmP .pop (.ref wa) [] μ Φ:=by
 refine q17 h fun as h1 h2=> ?_
 cases h2 with
 |cons q e r=>
  rename_i a as
  refine st_pop (xs:=(as.map .ref).reverse) (y:= .ref a) (by rw[h1];simp) (by rw[List.length_reverse,List.length_map,r.len];exact hl) fun m w o=> ?_
  have ne:∀{x t},μ x=some (.tuple t)→x≠wa:=fun e q=>by rw[q,h1] at e;cases e
  exact k a m o ((o _ (ne e)).trans e) ⟨as,w,r.chg fun x t _ e=>o x (ne e)⟩
theorem Stk.push(h:Stk Q μ wa ts){b:Addr}(hb:Q b)(e:μ b=some (.tuple t))(hl:ts.length < LIM)(k:∀m,(∀x,x≠wa→m x=μ x)→Stk Q m wa (t::ts)→Φ .none m):bmP .append (.ref wa) [.ref b] μ Φ:=by
 refine q17 h fun as h1 h2=> ?_
 have ne:∀{x t},μ x=some (.tuple t)→x≠wa:=fun e q=>by rw[q,h1] at e;cases e
 refine st_append h1 (by rw[List.length_reverse,List.length_map,h2.len];exact hl) fun m w o=> ?_
 exact k m o ⟨b::as,by rw[w];simp, .cons hb ((o _ (ne e)).trans e) (h2.chg fun x t u_ e=>o x (ne e))⟩
end
noncomputable def aK(ax v:Int)(d:WD):WD:=if ax=0 then{d with wid:=v} else{d with hei:=v}
theorem setAx_idem(ax v:Int)(d:WD):aK ax v (aK ax v d)=aK ax v d:=by unfold aK;split <;> rfl
theorem tuple_ref{μ:MH}{a:Addr}{xs:List MV}(h:μ a=some (.tuple xs)):seqAt μ (.ref a)=some xs:=bo h
section
variable{μ μ':MH}{z:Z}{i:Int}{Φ:Pst}{Ψ:Exc}{d:Nat}
theorem Off.stk(h:R μ z){m:MH}(o:Off z μ m){wa:Addr}(hw:Nl z wa){ts:List (List MV)}(S:Stk (Nl z) μ wa ts):Stk (Nl z) m wa ts:=S.chg (o _ hw) fun x t q u_=>o x q
theorem sts_loop{T:FPst}{wa:Addr}{ax v:Int}:∀(P:List Int) (z:Z) (ρ:ao) (μ:MH),R μ z→Nl z wa→Stk (Nl z) μ wa (P.map fun p=> [.int p, .int v])→P.length < LIM→(∀p∈P,p∈z.S∧(z.wd p).sort=0)→
  ρ "tree"=some (.ref (z.loc (0,0)))→ρ "waiting"=some (.ref wa)→ρ "axis"=some (.int ax)→
  (∀ρ' m,R m {z with wd:=fun j=>if j∈P then aK ax v (z.wd j) else z.wd j}→T .next ρ' m)→whL (az tab (d+1)) nw lb_set_tree_size_0 T (P.length+1) ρ μ:=by
 intro P
 induction P with
 |nil=>
  intro z ρ μ h hw S hl hP r1 r2 r3 hT
  rw[whL_succ]
  simp[nw,↓exe r2,↓exf (aE S.nil_list)]
  exact hT ρ μ h
 |cons p P ih=>
  intro z ρ μ h hw S hl hP r1 r2 r3 hT
  rw[List.length_cons,whL_succ]
  refine q17 S.ne_list fun xs x1 x2=> ?_
  refine q0 (hP p (.head _)) fun hp hs=> ?_
  simp[nw,lb_set_tree_size_0,aE x1,x2,ok_pop,↓exe r2,↓exf (aE x1)]
  refine S.pop (by simpa using hl) fun a m o ea S1=> ?_
  try simp
  have h1:R m z:=h.same fun s hs=>o _ (hw s hs)
  simp[hs,↓exf (tuple_ref ea),↓exe r1,↓exe h1.aWindows,↓exe (h1.gWin hp),↓exe (h1.wSort hp),↓exe r3,↓h1.kW hp fun f hf=>hf.m2]
  refine set_size_spec h1 hp fun m2 h2 o2=> ?_
  try simp
  have hset:(if ax=0 then{z.wd p with wid:=v} else{z.wd p with hei:=v})=aK ax v (z.wd p):=rfl
  rw[hset] at h2
  refine ih {z with wd:=upd z.wd p (aK ax v (z.wd p))} _ m2 h2 hw (S1.chg (o2 _ hw) fun x t q u_=>o2 x q) (by simp at hl;lia) (fun q hq=> ?_) r1 r2 r3 fun ρ' m' h'=>hT ρ' m' ?_
  ·refine⟨(hP q (.tail _ hq)).1,?_⟩
   show(upd z.wd p _ q).sort=0
   unfold upd
   split
   ·rename_i e;unfold aK;split <;> exact hs
   ·exact(hP q (.tail _ hq)).2
  ·have e:(fun j=>if j∈P then aK ax v (upd z.wd p (aK ax v (z.wd p)) j) else upd z.wd p (aK ax v (z.wd p)) j)=fun j=>if j∈p::P then aK ax v (z.wd j) else z.wd j:=by
    funext j
    by_cases e:j=p
    ·rw[e];simp[setAx_idem]
    ·simp[af _ _ e,e]
   dsimp only at h'
   rw[e] at h'
   exact h'
theorem sts_leaf(h:R μ z)(hi:i∈z.S)(hs:(z.wd i).sort=0){ax v:Int}(hΦ:∀m,R m {z with wd:=upd z.wd i (aK ax v (z.wd i))}→Φ .none m):az tab (d+2) 239 [.ref (z.loc (0,0)), .int i, .int ax, .int v] μ Φ Ψ:=by
 refine call_of (fn:=f_set_tree_size) rfl rfl ?_
 simp[f_set_tree_size]
 refine⟨by decide,fun ta hta=> ⟨by decide,fun wa hwa=> ⟨2,?_⟩⟩⟩
 have e1:=(Ext.refl μ).new hta (some (.tuple [.int i, .int v]))
 have n1:=(h.ext e1).nl hwa
 have hne:ta≠wa:=fun e=>by rw[←e,aj] at hwa;exact absurd hwa.symm nn
 have e2:=e1.new hwa (some (.list [.ref ta]))
 generalize hm:upd (upd μ ta (some (.tuple [.int i, .int v]))) wa (some (.list [.ref ta]))=m at *
 refine sts_loop (d:=d) (ax:=ax) (v:=v) [i] z _ m (h.ext e2) n1 ⟨[ta],by rw[←hm,aj];rfl, .cons (h.nl hta) (by rw[←hm,af _ _ hne,aj]) .nil⟩ (by simp[LIM]) (fun p hp=>by simp at hp;replace hp:=hp.symm;subst hp;exact⟨hi,hs⟩) (rfl) (rfl) (rfl) fun ρ' m' h'=>hΦ m' ?_
 try simp[f_set_tree_size]
 have:(fun j=>if j∈[i] then aK ax v (z.wd j) else z.wd j)=upd z.wd i (aK ax v (z.wd i)):=by
  funext j
  by_cases e:j=i
  ·rw[e];simp
  ·simp[e,af _ _ e]
 rw[this] at h';exact h'
theorem sts_push{T:FPst}{C:aB}(h0:i∈z.S){wa:Addr}{v:Int}:∀(rest dn:List Int) (ρ:ao) (μ:MH),R μ z→Nl z wa→z.K i=dn++rest→(z.K i).length < LIM→Stk (Nl z) μ wa (dn.reverse.map fun p=> [.int p, .int v])→
  ρ "waiting"=some (.ref wa)→ρ "much"=some (.int v)→(∀ρ' m,R m z→(∀x,x≠"child"→ρ' x=ρ x)→Stk (Nl z) m wa ((dn++rest).reverse.map fun p=> [.int p, .int v])→T .next ρ' m)→
  foL C (z.loc (4,i)) "child" lb_set_tree_size_2 T (rest.length+1) dn.length ρ μ:=by
 intro rest
 induction rest with
 |nil=>
  intro dn ρ μ h hw hK hl S r1 r2 hT
  rw[List.length_nil,foL_succ]
  refine⟨_,h.kids i h0,?_⟩
  rw[hK];simp
  exact hT ρ μ h (fun u_ u_=>rfl) (by simpa using S)
 |cons c rest ih=>
  intro dn ρ μ h hw hK hl S r1 r2 hT
  rw[List.length_cons,foL_succ]
  refine⟨_,h.kids i h0,?_⟩
  rw[hK]
  refine q1 S.some_ fun xs x1=> ?_
  simp[lb_set_tree_size_2,ok_append,aE x1,↓exe r1,↓exe r2]
  refine⟨by decide,fun b hb=> ?_⟩
  generalize hm1:upd μ b (some (.tuple [.int c, .int v]))=m1
  have b1:m1 b=some (.tuple [.int c, .int v]):=by rw[←hm1,aj]
  have o1:∀x,x≠b→m1 x=μ x:=fun x hx=>by rw[←hm1,af _ _ hx]
  have hbw:b≠wa:=(ne_nb x1 hb).symm
  have S1:Stk (Nl z) m1 wa (dn.reverse.map fun p=> [.int p, .int v]):=S.else (fun t e=>by rw[hb] at e;exact absurd e nn) hbw o1
  have h1:R m1 z:=h.ext ((Ext.refl μ).chg hb o1)
  refine S1.push (h.nl hb) b1 (by rw[hK] at hl;simp at hl⊢;lia) fun m2 o2 S2=> ?_
  try simp
  have h2:R m2 z:=h1.same fun s hs=>o2 _ (hw s hs)
  have:=ih (dn++ [c]) (upd ρ "child" (some (.int c))) m2 h2 hw (by rw[hK];simp) hl (by simpa using S2) r1 r2 fun ρ' m h' hρ S'=>hT ρ' m h' (fun x hx=> ((hρ x hx).trans ((af _ _ hx)))) (by simpa using S')
  have e:(dn++ [c]).length=dn.length+1:=by simp
  rw[e] at this;exact this
theorem sts_box(h:R μ z)(hi:i∈z.S){ks:List Int}(hK:z.K i=ks)(hks:∀p∈ks,p∈z.S∧(z.wd p).sort=0)(hs0:(z.wd i).sort≠0){ax v:Int}(hax:(if(z.wd i).sort=2 then(0:Int) else 1)≠ax)(hl:ks.length < 9000)
  (hΦ:∀m,R m {z with wd:=fun j=>if j=i∨j∈ks then aK ax v (z.wd j) else z.wd j}→Φ .none m):az tab (d+2) 239 [.ref (z.loc (0,0)), .int i, .int ax, .int v] μ Φ Ψ:=by
 refine call_of (fn:=f_set_tree_size) rfl rfl ?_
 simp[f_set_tree_size]
 refine⟨by decide,fun ta hta=> ⟨by decide,fun wa hwa=> ⟨ks.length+1+1,?_⟩⟩⟩
 have e1:=(Ext.refl μ).new hta (some (.tuple [.int i, .int v]))
 have hw:=(h.ext e1).nl hwa
 have hne:ta≠wa:=fun e=>by rw[←e,aj] at hwa;exact absurd hwa.symm nn
 have e2:=e1.new hwa (some (.list [.ref ta]))
 generalize hm:upd (upd μ ta (some (.tuple [.int i, .int v]))) wa (some (.list [.ref ta]))=m at *
 have h0:=h.ext e2
 have S0:Stk (Nl z) m wa [[.int i, .int v]]:=⟨[ta],by rw[←hm,aj];rfl, .cons (h.nl hta) (by rw[←hm,af _ _ hne,aj]) .nil⟩
 rw[whL_succ]
 refine q17 S0.ne_list fun xs x1 x2=> ?_
 have hkl:(z.K i).length < LIM:=by rw[hK];unfold LIM;lia
 simp[aE x1,x2,ok_pop,↓exf (aE x1)]
 refine S0.pop (by decide) fun a m1 o ea S1=> ?_
 try simp
 have h1:R m1 z:=h0.same fun s hs=>o _ (hw s hs)
 simp[hs0,↓exf (tuple_ref ea),↓exe h1.aWindows,↓exe (h1.gWin hi),↓exe (h1.wSort hi)]
 refine along_spec ?_
 simp[hax,↓exe (h1.wKids hi)]
 refine⟨ks.length+1,?_⟩
 refine sts_push (v:=v) hi ks [] _ m1 h1 hw (by rw[hK];rfl) hkl S1 (rfl) (rfl) fun ρ' m2 h2 hρ S2=> ?_
 simp[hρ,↓h2.kW hi fun f hf=>hf.m2]
 refine set_size_spec h2 hi fun m3 h3 o3=> ?_
 try simp
 have hset:(if ax=0 then{z.wd i with wid:=v} else{z.wd i with hei:=v})=aK ax v (z.wd i):=rfl
 rw[hset] at h3
 have hr:ks.reverse.length=ks.length:=List.length_reverse
 rw[←hr]
 refine sts_loop (d:=d) (ax:=ax) (v:=v) ks.reverse {z with wd:=upd z.wd i (aK ax v (z.wd i))} _ m3 h3 hw ((Off.stk h2 o3 hw S2)) (by rw[hr];unfold LIM;lia) (fun p hp=> ?_) ?_ ?_ ?_ fun ρ3 m' h'=>hΦ m' ?_
 try simp
 ·refine q0 (hks p (List.mem_reverse.mp hp)) fun q1 q2=> ?_
  refine⟨q1,?_⟩
  show(upd z.wd i _ p).sort=0
  unfold upd
  split
  ·rename_i e;replace e:=e.symm;subst e;exact absurd q2 hs0
  ·exact q2
 ·simp[hρ]
 ·simp[hρ]
 ·simp[hρ]
 ·have e:(fun j=>if j∈ks.reverse then aK ax v (upd z.wd i (aK ax v (z.wd i)) j) else upd z.wd i (aK ax v (z.wd i)) j)=fun j=>if j=i∨j∈ks then aK ax v (z.wd j) else z.wd j:=by
   funext j
   by_cases e:j=i
   ·rw[e];simp[setAx_idem]
   ·simp[af _ _ e,e]
  dsimp only at h'
  rw[e] at h'
  exact h'
end
noncomputable def Pl(wd:Int→WD):Int→Int→Int→F→Prop
 |_,_,_, .nil=>True
 |s,l,t, .node i k r=> (wd i).lft=l∧(wd i).top=t∧Pl wd (wd i).sort l t k∧Pl wd s (l+if s=2 then(wd i).wid else 0) (t+if s=2 then 0 else(wd i).hei) r
noncomputable abbrev En:=Int×F×Int×Int
noncomputable def ents(wd:Int→WD):Int→Int→Int→F→List En
 |_,_,_, .nil=> []
 |s,l,t, .node i k r=> (i,k,l,t)::ents wd s (l+if s=2 then(wd i).wid else 0) (t+if s=2 then 0 else(wd i).hei) r
noncomputable def eTup(e:En):List MV:= [.int e.1, .int e.2.2.1, .int e.2.2.2]
noncomputable def eIds(P:List En):List Int:=P.flatMap fun e=>e.1::ids e.2.1
noncomputable def eSz(P:List En):Nat:=(P.map fun e=>1+av e.2.1).sum
noncomputable def ePl(wd:Int→WD)(e:En):Prop:=(wd e.1).lft=e.2.2.1∧(wd e.1).top=e.2.2.2∧Pl wd (wd e.1).sort e.2.2.1 e.2.2.2 e.2.1
theorem eIds_ents(wd:Int→WD)(s l t:Int)(k:F):eIds (ents wd s l t k)=ids k:=by
 induction k generalizing l t with
 |nil=>rfl
 |node i k r _ ih=>simp only[ents,eIds,List.flatMap_cons,ids,List.cons_append];exact congrArg _ (congrArg _ (ih _ _))
theorem eSz_ents(wd:Int→WD)(s l t:Int)(k:F):eSz (ents wd s l t k)=av k:=by
 induction k generalizing l t with
 |nil=>rfl
 |node i k r _ ih=>
  have:=ih (l+if s=2 then(wd i).wid else 0) (t+if s=2 then 0 else(wd i).hei)
  simp only[ents,eSz,List.map_cons,List.sum_cons,av] at this⊢
  lia
theorem eSz_app(P P':List En):eSz (P.reverse++P')=eSz P+eSz P':=by
 unfold eSz
 rw[List.map_append,List.sum_append,List.map_reverse,List.sum_reverse]
theorem eSz_len(P:List En):P.length≤eSz P:=by
 induction P with
 |nil=>simp
 |cons e P ih=>simp only[eSz,List.map_cons,List.sum_cons,List.length_cons] at *;lia
theorem eIds_app(P P':List En):(eIds (P.reverse++P')).Perm (eIds P++eIds P'):=by
 unfold eIds
 rw[List.flatMap_append]
 exact((List.reverse_perm P).flatMap_right _).append_right _
theorem Pl_of_ents{wd wd':Int→WD}(h:∀j,(wd' j).wid=(wd j).wid∧(wd' j).hei=(wd j).hei){s l t:Int}{k:F}(he:∀e∈ents wd s l t k,ePl wd' e):Pl wd' s l t k:=by
 induction k generalizing l t with
 |nil=>trivial
 |node i k r _ ih=>
  refine q2 (he _ (.head _)) fun a b c=> ?_
  refine⟨a,b,c,?_⟩
  rw[(h i).1,(h i).2]
  exact ih fun e hm=>he e (.tail _ hm)
noncomputable def only(wd wd':Int→WD):Prop:=∀j,wd' j={wd j with lft:=(wd' j).lft,top:=(wd' j).top}
section
variable{μ μ':MH}{z:Z}{i:Int}{Φ:Pst}{Ψ:Exc}{d:Nat}
theorem Wk_wd{z:Z}{wd':Int→WD}(h:∀j,(wd' j).sort=(z.wd j).sort){f:F}:Wk {z with wd:=wd'} f↔Wk z f:=by
 induction f with
 |nil=>exact Iff.rfl
 |node i k r h1 h2=>simp only[Wk,h1,h2,h i]
theorem Wk_ents{z:Z}(wd:Int→WD){s l t:Int}{k:F}(h:Wk z k):∀e∈ents wd s l t k,Wk z (.node e.1 e.2.1 .nil):=by
 induction k generalizing l t with
 |nil=>intro e he;cases he
 |node i k r _ ih=>
  refine q3 h fun a b c e1 e2=> ?_
  intro e he
  rcases List.mem_cons.mp he with rfl |he
  ·exact⟨a,b,c,e1,trivial⟩
  ·exact ih e2 e he
theorem sp_push{T:FPst}{wa:Addr}(hi:i∈z.S){P:List En}:∀(r:F) (dn:List Int) (l t:Int) (ρ:ao) (μ:MH),R μ z→Nl z wa→z.K i=dn++tops r→Wk z r→P.length+dn.length+(tops r).length < LIM→∀(P1:List En),P1.length=dn.length+P.length→Stk (Nl z) μ wa (P1.map eTup)→
  ρ "tree"=some (.ref (z.loc (0,0)))→ρ "waiting"=some (.ref wa)→ρ "here"=some (.ref (z.loc (3,i)))→ρ "left"=some (.int l)→ρ "top"=some (.int t)→
  (∀ρ' m,R m z→ρ' "tree"=some (.ref (z.loc (0,0)))→ρ' "waiting"=some (.ref wa)→Stk (Nl z) m wa (((ents z.wd (z.wd i).sort l t r).reverse++P1).map eTup)→T .next ρ' m)→
  foL (az tab (d+1)) (z.loc (4,i)) "child" lb_set_places_1 T ((tops r).length+1) dn.length ρ μ:=by
 intro r
 induction r with
 |nil=>
  intro dn l t ρ μ h hw hK hk hl P1 hP1 S r1 r2 r3 r4 r5 hT
  rw[tops,List.length_nil,foL_succ]
  refine⟨_,h.kids i hi,?_⟩
  rw[hK];simp[tops]
  exact hT ρ μ h r1 r2 (by simpa[ents] using S)
 |node c k r _ ih=>
  intro dn l t ρ μ h hw hK hk hl P1 hP1 S r1 r2 r3 r4 r5 hT
  refine q3 hk fun hc hKc hs hk1 hk2=> ?_
  rw[tops,List.length_cons,foL_succ]
  refine⟨_,h.kids i hi,?_⟩
  rw[hK]
  refine q1 S.some_ fun xs x1=> ?_
  simp[tops,lb_set_places_1,ok_append,aE x1,↓exe r2,↓exe r4,↓exe r5]
  refine⟨by decide,fun b hb=> ?_⟩
  generalize hm1:upd μ b (some (.tuple [.int c, .int l, .int t]))=m1
  have b1:m1 b=some (.tuple (eTup (c,k,l,t))):=by rw[←hm1,aj];rfl
  have o1:∀x,x≠b→m1 x=μ x:=fun x hx=>by rw[←hm1,af _ _ hx]
  have hbw:b≠wa:=(ne_nb x1 hb).symm
  have S1:=S.else (fun t e=>by rw[hb] at e;exact absurd e nn) hbw o1
  have h1:R m1 z:=h.ext ((Ext.refl μ).chg hb o1)
  refine S1.push (h.nl hb) b1 (by simp[tops] at hl⊢;lia) fun m2 o2 S2=> ?_
  try simp[↓exe r3]
  have h2:R m2 z:=h1.same fun s hs=>o2 _ (hw s hs)
  simp[↓exe (h2.wSort hi)]
  refine along_spec ?_
  try simp
  have go:∀ρ' l' t',l'=l+(if(z.wd i).sort=2 then(z.wd c).wid else 0)→t'=t+(if(z.wd i).sort=2 then 0 else(z.wd c).hei)→ρ' "tree"=some (.ref (z.loc (0,0)))→ρ' "waiting"=some (.ref wa)→ρ' "here"=some (.ref (z.loc (3,i)))→ρ' "left"=some (.int l')→ρ' "top"=some (.int t')→
    foL (az tab (d+1)) (z.loc (4,i)) "child" lb_set_places_1 T ((tops r).length+1) (dn.length+1) ρ' m2:=fun ρ' l' t' el et q1 q2 q3 q4 q5=>by
   have e:(dn++ [c]).length=dn.length+1:=by simp
   rw[←e]
   refine ih (dn++ [c]) l' t' ρ' m2 h2 hw (by rw[hK];simp[tops]) hk2 (by simp[tops] at hl⊢;lia) ((c,k,l,t)::P1) (by simp;lia) S2 q1 q2 q3 q4 q5 fun ρ'' m hh u1 u2 uS=>hT ρ'' m hh u1 u2 ?_
   rw[el,et] at uS
   simpa[ents] using uS
  by_cases e:(z.wd i).sort=2
  ·simp[e,↓exe h2.aWindows,↓exe (h2.gWin hc),↓exe (h2.wWid hc),↓exe r1,↓exe r4]
   exact go _ (l+(z.wd c).wid) t (by simp[e]) (by simp[e]) r1 r2 r3 rfl r5
  ·simp[e,↓exe h2.aWindows,↓exe (h2.gWin hc),↓exe (h2.wHei hc),↓exe r1,↓exe r5]
   exact go _ l (t+(z.wd c).hei) (by simp[e]) (by simp[e]) r1 r2 r3 r4 rfl
theorem sp_loop{T:FPst}{wa:Addr}(n:Nat):∀(P:List En) (z:Z) (ρ:ao) (μ:MH),eSz P≤n→R μ z→Nl z wa→Stk (Nl z) μ wa (P.map eTup)→(∀e∈P,Wk z (.node e.1 e.2.1 .nil))→(eIds P).Nodup→eSz P < LIM→
  ρ "tree"=some (.ref (z.loc (0,0)))→ρ "waiting"=some (.ref wa)→
  (∀ρ' m wd',R m {z with wd:=wd'}→only z.wd wd'→(∀j,j∉eIds P→wd' j=z.wd j)→(∀e∈P,ePl wd' e)→T .next ρ' m)→whL (az tab (d+1)) nw lb_set_places_0 T (n+1) ρ μ:=by
 induction n with
 |zero=>
  intro P z ρ μ hn h hw S hk nd hl r1 r2 hT
  cases P with
  |cons e P=>simp[eSz] at hn
  |nil=>
   rw[whL_succ]
   simp[nw,↓exe r2,↓exf (aE S.nil_list)]
   exact hT ρ μ z.wd h (fun u_=>rfl) (fun u_ u_=>rfl) fun e he=>nomatch he
 |succ n ih=>
  intro P z ρ μ hn h hw S hk nd hl r1 r2 hT
  cases P with
  |nil=>
   rw[whL_succ]
   simp[nw,↓exe r2,↓exf (aE S.nil_list)]
   exact hT ρ μ z.wd h (fun u_=>rfl) (fun u_ u_=>rfl) fun e he=>nomatch he
  |cons e P=>
  obtain⟨i,k,l,t⟩:=e
  rw[whL_succ]
  refine q17 S.ne_list fun xs x1 x2=> ?_
  refine q3 (hk _ (.head _)) fun hi hK hs hk1 u_=> ?_
  have hln:=eSz_len ((i,k,l,t)::P)
  have esz:eSz ((i,k,l,t)::P)=1+av k+eSz P:=by simp[eSz]
  simp[nw,lb_set_places_0,aE x1,x2,ok_pop,↓exe r2,↓exf (aE x1)]
  refine S.pop (by simp at hln⊢;lia) fun a m o ea S1=> ?_
  try simp
  have h1:R m z:=h.same fun s hs=>o _ (hw s hs)
  simp[eTup,↓exf (tuple_ref ea),↓exe r1,↓exe h1.aWindows,↓exe (h1.gWin hi)]
  refine h1.sLft hi l fun m2 h2 o2=> ?_
  try simp
  refine R.sTop (z:={z with wd:=upd z.wd i {z.wd i with lft:=l}}) h2 hi t fun m3 h3 o3=> ?_
  try simp
  have o23:Off z m m3:=o2.trans o3
  simp only[aj] at h3
  have e3:upd (upd z.wd i {z.wd i with lft:=l}) i {z.wd i with lft:=l,top:=t}=upd z.wd i {z.wd i with lft:=l,top:=t}:=by
   funext j
   by_cases q:j=i
   ·rw[q];simp
   ·simp[af _ _ q]
  rw[e3] at h3
  have S3:=Off.stk h1 o23 hw S1
  have hsort:∀j,(upd z.wd i {z.wd i with lft:=l,top:=t} j).sort=(z.wd j).sort:=fun j=>by
   by_cases q:j=i
   ·rw[q];simp
   ·simp[af _ _ q]
  have hk1':=(Wk_wd (z:=z) (f:=k) hsort).mpr hk1
  have hlp:=eSz_len P
  have kk:=h3.wKids hi
  dsimp only at kk
  simp[↓exe kk]
  refine⟨(tops k).length+1,?_⟩
  have tk:=tops_le k
  refine sp_push (d:=d) (z:={z with wd:=upd z.wd i {z.wd i with lft:=l,top:=t}}) (P:=P) hi k [] l t _ m3 h3 hw hK hk1' (by simp at hln⊢;lia) P (by simp) S3 r1 r2 rfl rfl rfl fun ρ' m4 h4 q1 q2 S4=> ?_
  try simp
  have es:(upd z.wd i {z.wd i with lft:=l,top:=t} i).sort=(z.wd i).sort:=by simp
  dsimp only at S4
  rw[es] at S4
  generalize hwd:upd z.wd i {z.wd i with lft:=l,top:=t}=wd1 at *
  have wdi:wd1 i={z.wd i with lft:=l,top:=t}:=by rw[←hwd,aj]
  have wdj:∀j,j≠i→wd1 j=z.wd j:=fun j hj=>by rw[←hwd,af _ _ hj]
  have sz1:eSz ((ents wd1 (z.wd i).sort l t k).reverse++P)=av k+eSz P:=by rw[eSz_app,eSz_ents]
  have pm:=eIds_app (ents wd1 (z.wd i).sort l t k) P
  rw[eIds_ents] at pm
  have nd0:(i::(ids k++eIds P)).Nodup:=by simpa[eIds] using nd
  rw[List.nodup_cons] at nd0
  have hw1:∀{f},Wk z f→Wk {z with wd:=wd1} f:=fun hf=> (Wk_wd (z:=z) hsort).mpr hf
  refine ih ((ents wd1 (z.wd i).sort l t k).reverse++P) {z with wd:=wd1} ρ' m4 (by lia) h4 hw S4 (fun e he=> ?_) (pm.nodup_iff.mpr nd0.2) (by lia) q1 q2 fun ρ'' m' wd' h' on off pl=>hT ρ'' m' wd' h' (fun j=> ?_) (fun j hj=> ?_) fun e he=> ?_
  ·rcases List.mem_append.mp he with he |he
   ·exact Wk_ents _ (hw1 hk1) e (List.mem_reverse.mp he)
   ·exact hw1 (hk e (.tail _ he))
  ·have:=on j
   dsimp only at this
   by_cases q:j=i
   ·replace q:=q.symm;subst q;rw[wdi] at this;exact this
   ·rw[wdj j q] at this;exact this
  ·have hj':j≠i∧j∉ids k++eIds P:=by simpa[eIds] using hj
   rw[off j fun q=>hj'.2 (pm.mem_iff.mp q)];exact wdj j hj'.1
  ·rcases List.mem_cons.mp he with rfl |he
   ·have wi:wd' i=wd1 i:=off i fun q=>nd0.1 (pm.mem_iff.mp q)
    refine⟨by rw[wi,wdi],by rw[wi,wdi],?_⟩
    rw[wi,wdi]
    exact Pl_of_ents (wd:=wd1) (fun j=>by have:=on j;exact⟨(congrArg WD.wid this:),(congrArg WD.hei this:)⟩) fun e he=>pl e (List.mem_append_left _ (List.mem_reverse.mpr he))
   ·exact pl e (List.mem_append_right _ he)
theorem set_places_spec(h:R μ z){k:F}(hk:Wk z (.node z.root k .nil))(nd:(z.root::ids k).Nodup)(hl:av k+1 < LIM)
  (hΦ:∀m wd',R m {z with wd:=wd'}→only z.wd wd'→(∀j,j∉z.root::ids k→wd' j=z.wd j)→(wd' z.root).lft=0→(wd' z.root).top=0→Pl wd' (wd' z.root).sort 0 0 k→Φ .none m):az tab (d+2) 246 [.ref (z.loc (0,0))] μ Φ Ψ:=by
 refine call_of (fn:=f_set_places) rfl rfl ?_
 simp[f_set_places,↓exe h.aRoot]
 refine⟨by decide,fun ta hta=> ⟨by decide,fun wa hwa=> ⟨eSz [(z.root,k,0,0)]+1,?_⟩⟩⟩
 have e1:=(Ext.refl μ).new hta (some (.tuple [.int z.root, .int 0, .int 0]))
 have hw:=(h.ext e1).nl hwa
 have hne:ta≠wa:=fun e=>by rw[←e,aj] at hwa;exact absurd hwa.symm nn
 have e2:=e1.new hwa (some (.list [.ref ta]))
 generalize hm:upd (upd μ ta (some (.tuple [.int z.root, .int 0, .int 0]))) wa (some (.list [.ref ta]))=m at *
 refine sp_loop (d:=d) _ [(z.root,k,0,0)] z _ m (Nat.le_refl _) (h.ext e2) hw ⟨[ta],by rw[←hm,aj];rfl, .cons (h.nl hta) (by rw[←hm,af _ _ hne,aj];rfl) .nil⟩ (fun e he=>by simp at he;subst he;exact hk) (by simpa[eIds] using nd) (by simp[eSz];lia) (rfl) (rfl) fun ρ' m' wd' h' on off pl=> ?_
 try simp
 refine q2 (pl _ (.head _)) fun a b c=> ?_
 exact hΦ m' wd' h' on (fun j hj=>off j (by simpa[eIds] using hj)) a b c
end
end
section
open PySem PyProof.Rows
noncomputable abbrev dot:Str:=Str.ofString "."
noncomputable def lineStr(dp s w h l t:Int)(tail:Str):Str:=Txt.mul dot dp++(bV s++(Str.ofString " "++(itext w++(Str.ofString "x"++(itext h++(Str.ofString "+"++(itext l++(Str.ofString "+"++(itext t++tail)))))))))
noncomputable def tailStr(s b:Int)(star:Bool):Str:=if s=0 then Str.ofString " "++(itext b++(if star then Str.ofString "*" else Str.ofString "")) else Str.ofString ""
noncomputable def lns(wd:Int→WD)(sel:Int):Int→F→List Str
 |_, .nil=> []
 |dp, .node i k r=>lineStr dp (wd i).sort (wd i).wid (wd i).hei (wd i).lft (wd i).top (tailStr (wd i).sort (wd i).buf (decide (i=sel)))::(lns wd sel (dp+1) k++lns wd sel dp r)
noncomputable def Sml(d:WD):Prop:=small d.wid=true∧small d.hei=true∧small d.lft=true∧small d.top=true∧small d.buf=true
theorem kind_len(k:Int):(bV k).length≤6:=by
 unfold bV;split
 ·decide
 ·split <;> decide
theorem one_len:(Str.ofString " ").length=1∧(Str.ofString "x").length=1∧(Str.ofString "+").length=1∧(Str.ofString "*").length=1∧(Str.ofString "").length=0∧(Str.ofString "\n").length=1∧(Str.ofString ".").length=1:=by decide
theorem mul_len{n:Int}(h:n≤1000):(Txt.mul dot n).length≤1000:=by
 have:=len_mul_leN (x:=dot) (L:=1) (N:=1000) (n:=n) (by decide) (by exact_mod_cast h)
 lia
theorem emp(a:Str):Str.ofString ""++a=a:=Str.empty_append a
theorem emp'(a:Str):a++Str.ofString ""=a:=Str.append_empty a
theorem b_adds{a b:Str}(h:a.length+b.length≤1000000):binOf .add (.str a) (.str b)=some (.str (a++b)):=if_pos h
theorem kadd{a b:Str}{m n:Nat}{Φ:Pst}{μ:MH}(ha:a.length≤m)(hb:b.length≤n)(h:m+n≤1000000)(k:∀s,s=a++b→s.length≤m+n→Φ (.str s) μ):kF_bin .add (.str a) Φ (.str b) μ:=by
 rw[k_of (b_adds (by lia))]
 exact k _ rfl (by rw[Str.length_append];lia)
theorem b_mul{n:Int}(h:0≤n)(h':n≤1000):binOf .mul (.str dot) (.int n)=some (.str (Txt.mul dot n)):=by
 have:(dot.length=1):=by decide
 exact if_pos ⟨h,h',this⟩
theorem line_len{dp s w h l t b:Int}{star:Bool}(hd:dp≤1000)(h1:small w=true)(h2:small h=true)(h3:small l=true)(h4:small t=true)(h5:small b=true):(lineStr dp s w h l t (tailStr s b star)).length≤1100:=by
 have a1:=mul_len hd
 have a2:=itext_len h1;have a3:=itext_len h2;have a4:=itext_len h3;have a5:=itext_len h4;have a6:=itext_len h5
 have a7:=kind_len s
 refine q4 one_len fun b1 b2 b3 b4 b5 u_=> ?_
 unfold lineStr tailStr
 split
 ·cases star <;> simp only[Str.length_append,b1,b2,b3,b4,b5,if_true,Bool.false_eq_true,if_false] <;> lia
 ·simp only[Str.length_append,b1,b2,b3,b5];lia
section
variable{μ μ':MH}{z:Z}{i:Int}{Φ:Pst}{Ψ:Exc}{d:Nat}
theorem push_loop{C:aB}{T:FPst}{Q:Addr→Prop}{la wa:Addr}{es:MEs}{f:Int→List MV}{I:ao→Prop}(hI:∀ρ c,I ρ→I (upd ρ "child" (some (.int c))))(hw:∀ρ,I ρ→ρ "waiting"=some (.ref wa))
  (he:∀ρ c μ Φ,I ρ→Φ (f c) μ→evEs C (upd ρ "child" (some (.int c))) es μ Φ (fun u_=>False)) (hf:∀c,(f c).length < LIM) (hne:la≠wa) {μ0:MH} (hQ:∀b m,Ext μ0 m→m b=none→Q b) (hwa:μ0 wa=none):∀(rest dn:List Int) (ts:List (List MV)) (ρ:ao) (μ:MH),Ext μ0 μ→I ρ→μ la=some (.list ((dn++rest).map .int))→ts.length+rest.length < LIM→Stk Q μ wa ts→
  (∀ρ' m,I ρ'→Ext μ0 m→(∀x o,x≠wa→μ x=some o→m x=some o)→Stk Q m wa (rest.reverse.map f++ts)→T .next ρ' m)→
  foL C la "child" (.cons (.expr (.bm .append (.var "waiting") (.cons (.tuple es) .nil))) .nil) T (rest.length+1) dn.length ρ μ:=by
 intro rest
 induction rest with
 |nil=>
  intro dn ts ρ μ e0 i0 hl hlen S hT
  rw[List.length_nil,foL_succ]
  refine⟨_,hl,?_⟩
  simp
  exact hT ρ μ i0 e0 (fun x o u_ e=>e) S
 |cons c rest ih=>
  intro dn ts ρ μ e0 i0 hl hlen S hT
  rw[List.length_cons,foL_succ]
  refine⟨_,hl,?_⟩
  refine q1 S.some_ fun xs x1=> ?_
  simp[ok_append,aE x1,↓exe (hw ρ i0)]
  refine he ρ c μ _ i0 ⟨hf c,fun b hb=> ?_⟩
  generalize hm1:upd μ b (some (.tuple (f c)))=m1
  have b1:m1 b=some (.tuple (f c)):=by rw[←hm1,aj]
  have o1:∀x,x≠b→m1 x=μ x:=fun x hx=>by rw[←hm1,af _ _ hx]
  have hbw:b≠wa:=(ne_nb x1 hb).symm
  have hbl:la≠b:=ne_nb hl hb
  have S1:=S.else (fun t e=>by rw[hb] at e;exact absurd e nn) hbw o1
  have e1:=e0.chg (e0.none hb) o1
  refine S1.push (hQ b μ e0 hb) b1 (by simp at hlen;lia) fun m2 o2 S2=> ?_
  try simp
  have e:=ih (dn++ [c]) (f c::ts) (upd ρ "child" (some (.int c))) m2 (e1.chg hwa o2) (hI ρ c i0) (by rw[o2 _ hne,o1 _ hbl,hl];simp) (by simp at hlen⊢;lia) S2 fun ρ' m q1 q2 q3 q4=>hT ρ' m q1 q2 (fun x o hx ho=>q3 x o hx (((o2 x hx).trans ((o1 x (ne_nb ho hb)).trans ho)))) (by simpa using q4)
  have el:(dn++ [c]).length=dn.length+1:=by simp
  rw[el] at e;exact e
noncomputable abbrev Ln:=Int×F×Int
noncomputable def lTup(e:Ln):List MV:= [.int e.1, .int e.2.2]
noncomputable def lOf(wd:Int→WD)(sel:Int)(e:Ln):List Str:=lns wd sel e.2.2 (.node e.1 e.2.1 .nil)
noncomputable def lSz(P:List Ln):Nat:=(P.map fun e=>1+av e.2.1).sum
noncomputable def lEnts(dp:Int):F→List Ln
 | .nil=> []
 | .node i k r=> (i,k,dp)::lEnts dp r
theorem lEnts_tup(dp:Int)(k:F):(lEnts dp k).map lTup=(tops k).map fun c=> [.int c, .int dp]:=by
 induction k with
 |nil=>rfl
 |node i k r _ ih=>simp[lEnts,tops,ih,lTup]
theorem lEnts_ln(wd:Int→WD)(sel dp:Int)(k:F):(lEnts dp k).flatMap (lOf wd sel)=lns wd sel dp k:=by
 induction k with
 |nil=>rfl
 |node i k r _ ih=>simp[lEnts,lns,ih,lOf]
theorem lEnts_sz(dp:Int)(k:F):lSz (lEnts dp k)=av k:=by
 induction k with
 |nil=>rfl
 |node i k r _ ih=>simp only[lEnts,lSz,List.map_cons,List.sum_cons,av] at *;lia
theorem lSz_len(P:List Ln):P.length≤lSz P:=by
 induction P with
 |nil=>simp
 |cons e P ih=>simp only[lSz,List.map_cons,List.sum_cons,List.length_cons] at *;lia
theorem lEnts_wk{z:Z}{dp:Int}{k:F}(h:Wk z k):∀e∈lEnts dp k,Wk z (.node e.1 e.2.1 .nil):=by
 induction k with
 |nil=>intro e he;cases he
 |node i k r _ ih=>
  refine q3 h fun a b c e1 e2=> ?_
  intro e he
  rcases List.mem_cons.mp he with rfl |he
  ·exact⟨a,b,c,e1,trivial⟩
  ·exact ih e2 e he
theorem lEnts_dp{dp:Int}{k:F}:∀e∈lEnts dp k,e.2.2=dp∧av e.2.1 < av k+0∧∀j∈e.1::ids e.2.1,j∈ids k:=by
 induction k with
 |nil=>intro e he;cases he
 |node i k r _ ih=>
  intro e he
  rcases List.mem_cons.mp he with rfl |he
  ·refine⟨rfl,by simp only[av];lia,fun j hj=> ?_⟩
   simp only[ids,List.mem_cons,List.mem_append] at hj⊢
   rcases hj with q |q
   ·exact .inl q
   ·exact .inr (.inl q)
  ·refine q2 (ih e he) fun a b c=> ?_
   refine⟨a,by simp only[av];lia,fun j hj=> ?_⟩
   simp only[ids,List.mem_cons,List.mem_append]
   exact .inr (.inr (c j hj))
noncomputable def kinds3:List MV:= [.str (Str.ofString "leaf"), .str (Str.ofString "column"), .str (Str.ofString "row")]
theorem kind_item{μ:MH}{a:Addr}(h:μ a=some (.list kinds3)){s:Int}(hs:s=0∨s=1∨s=2):itemOf μ (.ref a) (.int s)=some (.str (bV s)):=by
 rcases hs with rfl |rfl |rfl
 ·exact item_list (n:=0) h rfl (by decide)
 ·exact item_list (n:=1) h rfl (by decide)
 ·exact item_list (n:=2) h rfl (by decide)
noncomputable def pieces(d:WD):Str:=Str.ofString ""++Str.ofString " "++itext d.wid++Str.ofString "x"++itext d.hei++Str.ofString "+"++itext d.lft++Str.ofString "+"++itext d.top
theorem pieces_len{d:WD}(h:Sml d):(pieces d).length≤50:=by
 refine q3 h fun s1 s2 s3 s4 s5=> ?_
 have a2:=itext_len s1;have a3:=itext_len s2;have a4:=itext_len s3;have a5:=itext_len s4
 refine q4 one_len fun c1 c2 c3 c4 c5 u_=> ?_
 unfold pieces
 simp only[Str.length_append,c1,c2,c3,c5];lia
theorem told_eval{C:aB}{ρ:ao}{m:MH}(h:R m z)(hi:i∈z.S)(r:ρ "here"=some (.ref (z.loc (3,i))))(srt:(z.wd i).sort=0∨(z.wd i).sort=1∨(z.wd i).sort=2)(sm:Sml (z.wd i))
  (k:∀b m2,m b=none→(∀x,x≠b→m2 x=m x)→Φ (.str (bV (z.wd i).sort++pieces (z.wd i))) m2):
  evE C ρ told_e m Φ Ψ:=by
 rw[told_e,e_bin,e_item,e_list]
 simp
 refine⟨by decide,fun b hb=> ?_⟩
 generalize hm2:upd m b (some (MO.list [MV.str (Str.ofString "leaf"),MV.str (Str.ofString "column"),MV.str (Str.ofString "row")]))=m2
 have b2:m2 b=some (.list kinds3):=by rw[←hm2,aj];rfl
 have o2:∀x,x≠b→m2 x=m x:=fun x hx=>by rw[←hm2,af _ _ hx]
 have h2:=h.ext ((Ext.refl m).chg hb o2)
 refine q3 (id sm) fun s1 s2 s3 s4 s5=> ?_
 have lp:=pieces_len sm
 have lk:=kind_len (z.wd i).sort
 simp[int_of,s1,s2,s3,s4,↓exe r,↓exe (h2.wSort hi),↓exe (kind_item b2 srt),↓exe (h2.wWid hi),↓exe (h2.wHei hi),↓exe (h2.wLft hi),↓exe (h2.wTop hi)]
 rw[k_of (b_adds ?_)];exact k b m2 hb o2
 show(bV (z.wd i).sort).length+(pieces (z.wd i)).length≤_
 lia
theorem line_eq{dp:Int}{i sel:Int}{d:WD}{told:Str}(h:told=if d.sort=0 then bV d.sort++pieces d++(Str.ofString ""++Str.ofString " "++itext d.buf)++(if i=sel then Str.ofString "*" else Str.ofString "") else bV d.sort++pieces d):
  lineStr dp d.sort d.wid d.hei d.lft d.top (tailStr d.sort d.buf (decide (i=sel)))=Txt.mul dot dp++told:=by
 subst h
 unfold lineStr tailStr pieces
 by_cases e:d.sort=0
 ·simp only[e,if_true,emp,Str.append_assoc,decide_eq_true_eq]
 ·simp only[e,if_false,emp,emp',Str.append_assoc]
theorem lt_loop{T:FPst}{C:aB}{z:Z}{μ0:MH}(h:R μ0 z){la wa:Addr}(hla:μ0 la=none)(hwa:μ0 wa=none)(hlw:la≠wa)(n:Nat):∀(P:List Ln) (dn:List Str) (ρ:ao) (μ:MH),lSz P≤n→Ext μ0 μ→μ la=some (.list (dn.map .str))→Stk (fun a=>μ0 a=none) μ wa (P.map lTup)→
  (∀e∈P,Wk z (.node e.1 e.2.1 .nil))→(∀e∈P,0≤e.2.2∧e.2.2+av e.2.1≤900∧∀j∈e.1::ids e.2.1,Sml (z.wd j))→dn.length+lSz P < LIM→
  ρ "tree"=some (.ref (z.loc (0,0)))→ρ "waiting"=some (.ref wa)→ρ "lines"=some (.ref la)→
  (∀ρ' m,Ext μ0 m→ρ' "lines"=some (.ref la)→m la=some (.list ((dn++P.flatMap (lOf z.wd z.sel)).map .str))→T .next ρ' m)→whL C nw lb_layout_text_0 T (n+1) ρ μ:=by
 induction n with
 |zero=>
  intro P dn ρ μ hn he q S hk hbd hl r1 r2 r3 hT
  cases P with
  |cons e P=>simp[lSz] at hn
  |nil=>
   rw[whL_succ]
   simp[nw,↓exe r2,↓exf (aE S.nil_list)]
   exact hT ρ μ he r3 (by simpa using q)
 |succ n ih=>
  intro P dn ρ μ hn he q S hk hbd hl r1 r2 r3 hT
  cases P with
  |nil=>
   rw[whL_succ]
   simp[nw,↓exe r2,↓exf (aE S.nil_list)]
   exact hT ρ μ he r3 (by simpa using q)
  |cons e P=>
  obtain⟨i,k,dp⟩:=e
  rw[whL_succ]
  refine q17 S.ne_list fun xs x1 x2=> ?_
  refine q3 (hk _ (.head _)) fun hi hK hs hk1 u_=> ?_
  refine q2 (hbd _ (.head _)) fun d1 d2 d3=> ?_
  dsimp only at d1 d2 d3 hi hK hs hk1
  refine q3 (d3 i (.head _)) fun s1 s2 s3 s4 s5=> ?_
  have hln:=lSz_len ((i,k,dp)::P)
  have lsz:lSz ((i,k,dp)::P)=1+av k+lSz P:=by simp[lSz]
  have hlp:=lSz_len P
  have srt:(z.wd i).sort=0∨(z.wd i).sort=1∨(z.wd i).sort=2:=by cases k <;> simp[SrtOk] at hs <;> lia
  simp[nw,lb_layout_text_0,aE x1,x2,ok_pop,Option.isSome_some,↓exe r2,↓exf (aE x1)]
  refine S.pop (by simp at hln⊢;lia) fun a m1 o1 ea S1=> ?_
  try simp
  have he1:=he.chg hwa o1
  have h1:=h.ext he1
  have q1:=(o1 _ hlw).trans q
  simp[lTup,List.length_cons,List.length_nil,↓exf (tuple_ref ea)]
  simp[↓exe r1]
  simp[↓exe h1.aWindows,↓exe (h1.gWin hi)]
  refine told_eval h1 hi rfl srt ⟨s1,s2,s3,s4,s5⟩ fun b m2 hb o2=> ?_
  have he2:=he1.chg (he1.none hb) o2
  have hbl:la≠b:=ne_nb q1 hb
  have q2:m2 la=some (.list (dn.map .str)):=(o2 _ hbl).trans q1
  have x1':∃xs,m1 wa=some (.list xs):=S1.some_
  have hbw:b≠wa:=fun e=>by obtain⟨xs,e'⟩:=x1';rw[e,e'] at hb;exact absurd hb.symm nn
  have S2:=S1.else (fun t e=>by rw[hb] at e;exact absurd e nn) hbw o2
  have h2:=h.ext he2
  have lp:=pieces_len (d:=z.wd i) ⟨s1,s2,s3,s4,s5⟩
  have lk:=kind_len (z.wd i).sort
  have a1:=mul_len (n:=dp) (by lia)
  refine q4 one_len fun c1 c2 c3 c4 c5 u_=> ?_
  have fin:∀(ρ':ao) (told:Str),told.length≤1000→lineStr dp (z.wd i).sort (z.wd i).wid (z.wd i).hei (z.wd i).lft (z.wd i).top (tailStr (z.wd i).sort (z.wd i).buf (decide (i=z.sel)))=Txt.mul dot dp++told→ρ' "lines"=some (.ref la)→ρ' "deep"=some (.int dp)→ρ' "told"=some (.str told)→ρ' "here"=some (.ref (z.loc (3,i)))→ρ' "waiting"=some (.ref wa)→ρ' "tree"=some (.ref (z.loc (0,0)))→
    aA C (.cons (.expr (.bm .append (.var "lines") (.cons (.bin .add (.bin .mul (.cst (.str (Str.ofString "."))) (.var "deep")) (.var "told")) .nil))) (.cons (.for "child" (.rev (.attr (.var "here") "children")) lb_layout_text_1) .nil)) ρ' m2 (kS_wh C nw lb_layout_text_0 T (n+1)) (fun u_=>False):=fun ρ' told lt el p1 p2 p3 p4 p5 p6=>by
   simp[ok_append,aE q2,↓k_of (b_mul d1 (by lia:dp≤1000)),↓exe p1,↓exe p2,↓exe p3]
   rw[k_of (b_adds (by have:=c1;lia))]
   simp
   refine st_append q2 (by simp;lia) fun m3 f3 o3=> ?_
   try simp[↓exe p4]
   have he3:=he2.chg hla o3
   have h3:=h.ext he3
   have S3:=S2.else (b:=la) (fun t e=>by rw[q2] at e;cases e) hlw o3
   have tk:=tops_le k
   simp[hK,↓exe (h3.wKids hi),↓exf (aE (h3.kids i hi))]
   refine⟨by lia,fun ca hca=> ⟨(tops k).length+1,?_⟩⟩
   have he4:=he3.new hca (some (.list ((tops k).map .int).reverse))
   generalize hm4:upd m3 ca (some (.list ((tops k).map .int).reverse))=m4 at *
   have c4':m4 ca=some (.list (((([]:List Int)++(tops k).reverse)).map .int)):=by rw[←hm4,aj];simp
   have hcl:la≠ca:=ne_nb f3 hca
   have f4:m4 la=_:=(by rw[←hm4,af _ _ hcl]:m4 la=m3 la).trans f3
   obtain⟨xs3,x3⟩:=S3.some_
   have hcw:ca≠wa:=(ne_nb x3 hca).symm
   have S4:=S3.else (m:=m4) (fun t e=>by rw[hca] at e;exact absurd e nn) hcw fun x hx=>by rw[←hm4,af _ _ hx]
   have lenr:((tops k).reverse).length=(tops k).length:=by simp
   rw[←lenr]
   refine push_loop (C:=C) (Q:=fun a=>μ0 a=none) (μ0:=μ0) (f:=fun c=> [.int c, .int (dp+1)]) (I:=fun ρ=>ρ "waiting"=some (.ref wa)∧ρ "deep"=some (.int dp)∧ρ "lines"=some (.ref la)∧ρ "tree"=some (.ref (z.loc (0,0)))) (fun ρ c pp_=>q6 pp_ fun a b c' d'=> ⟨by simpa using a,by simpa using b,by simpa using c',by simpa using d'⟩) (fun ρ hh=>hh.1)
    (fun ρ c μ Φ hh hΦ=>by simp[↓exe hh.2.1];exact hΦ) (fun c=>by simp[LIM]) hcw (fun b m e hb=>e.none hb) hwa (tops k).reverse [] (P.map lTup) ρ' m4 he4 ⟨p5,p2,p1,p6⟩ c4' (by simp;lia) S4 fun ρ4 m5 pp_ he5 o5 S5=>q6 pp_ fun u1 u2 u3 u4=> ?_
   have S5':Stk (fun a=>μ0 a=none) m5 wa ((lEnts (dp+1) k++P).map lTup):=by rw[List.map_append,lEnts_tup];simpa using S5
   refine ih (lEnts (dp+1) k++P) (dn++ [Txt.mul dot dp++told]) ρ4 m5 ?_ he5 (by rw[o5 la _ hlw f4];simp) S5' (fun e he=> ?_) (fun e he=> ?_) ?_ u4 u1 u3 fun ρ5 m6 v1 v2 v3=>hT ρ5 m6 v1 v2 ?_
   ·simp only[lSz,List.map_append,List.sum_append] at *;have:=lEnts_sz (dp+1) k;simp only[lSz] at this;lia
   ·rcases List.mem_append.mp he with he |he
    ·exact lEnts_wk hk1 e he
    ·exact hk e (.tail _ he)
   ·rcases List.mem_append.mp he with he |he
    ·obtain⟨w1,w2,w3⟩:=lEnts_dp e he
     exact⟨by rw[w1];lia,by rw[w1];lia,fun j hj=>d3 j (.tail _ (w3 j hj))⟩
    ·exact hbd e (.tail _ he)
   ·simp only[lSz,List.map_append,List.sum_append,List.length_append,List.length_singleton] at *;have:=lEnts_sz (dp+1) k;simp only[lSz] at this;lia
   ·rw[v3,List.flatMap_append,lEnts_ln]
    simp[lOf,lns,el]
  have ld:Txt.mul dot dp=Txt.mul dot dp:=rfl
  simp
  simp[↓exe (h2.wSort hi)]
  by_cases e:(z.wd i).sort=0
  ·rw[kE_iteS_p e]
   have a6:=itext_len s5
   simp[int_of,s5,↓exe (h2.wBuf hi)]
   rw[k_of (b_adds (by simp only[Str.length_append,c1,c5];lia))]
   simp[↓exe r1,↓exe h2.aSel]
   by_cases es:i=z.sel
   ·rw[kE_ite_p es,e_cst,k_of (b_adds (by simp only[Str.length_append,c1,c4,c5];lia))]
    refine fin _ (bV (z.wd i).sort++pieces (z.wd i)++(Str.ofString ""++Str.ofString " "++itext (z.wd i).buf)++Str.ofString "*") (by simp only[Str.length_append,c1,c4,c5];lia) (line_eq (i:=i) (sel:=z.sel) (by rw[if_pos e,if_pos es])) r3 rfl rfl rfl r2 r1
   ·rw[kE_ite_n es,e_cst,k_of (b_adds (by simp only[Str.length_append,c1,c5];lia))]
    refine fin _ (bV (z.wd i).sort++pieces (z.wd i)++(Str.ofString ""++Str.ofString " "++itext (z.wd i).buf)++Str.ofString "") (by simp only[Str.length_append,c1,c5];lia) (line_eq (i:=i) (sel:=z.sel) (by rw[if_pos e,if_neg es])) r3 rfl rfl rfl r2 r1
  ·rw[kE_iteS_n e]
   refine fin _ (bV (z.wd i).sort++pieces (z.wd i)) (by simp only[Str.length_append];lia) (line_eq (i:=i) (sel:=z.sel) (by simp[e])) r3 rfl rfl rfl r2 r1
theorem strsOf_map(l:List Str):strsOf (l.map .str)=some l:=by
 unfold strsOf
 induction l with
 |nil=>rfl
 |cons a r ih=>simp[str_of,ih]
theorem lns_len(wd:Int→WD)(sel dp:Int)(k:F):(lns wd sel dp k).length=av k:=by
 induction k generalizing dp with
 |nil=>rfl
 |node i k r h1 h2=>simp[lns,av,h1,h2];lia
theorem lns_le{wd:Int→WD}{sel dp:Int}{k:F}(h:∀j∈ids k,Sml (wd j))(hd:dp+av k≤1000):∀x∈lns wd sel dp k,x.length≤1100:=by
 induction k generalizing dp with
 |nil=>intro x hx;cases hx
 |node i k r h1 h2=>
  intro x hx
  simp only[ids,List.mem_cons,List.mem_append,av] at h hd
  simp only[lns,List.mem_cons,List.mem_append] at hx
  rcases hx with rfl |hx |hx
  ·refine q3 (h i (.inl rfl)) fun s1 s2 s3 s4 s5=> ?_
   exact line_len (by lia) s1 s2 s3 s4 s5
  ·exact h1 (fun j hj=>h j (.inr (.inl hj))) (by push_cast at hd;lia) x hx
  ·exact h2 (fun j hj=>h j (.inr (.inr hj))) (by push_cast at hd;lia) x hx
theorem sum_le{l:List Str}{n:Nat}(h:∀x∈l,x.length≤n):sumLen l≤n * l.length:=by
 unfold sumLen
 induction l with
 |nil=>simp
 |cons a r ih=>
  have:=ih fun x hx=>h x (.tail _ hx)
  have:=h a (.head _)
  simp only[List.map_cons,List.sum_cons,List.length_cons,Nat.mul_add,Nat.mul_one];lia
theorem join_le{l:List Str}(h:∀x∈l,x.length≤1100)(hl:l.length≤100):(Txt.join (Str.ofString "\n") l).length≤900000∧sumLen l≤200000:=by
 have h1:=sum_le h
 have h2:(Txt.join (Str.ofString "\n") l).length≤4 *((sumLen l+l.length)+1):=len_join_le (by unfold Weighs sumLen;lia) (by decide)
 have:1100 * l.length≤110000:=by lia
 constructor <;> lia
theorem layout_spec(h:R μ z){k:F}(hk:Wk z (.node z.root k .nil))(hs:∀j∈z.root::ids k,Sml (z.wd j))(hl:av k < 90)
  (hΦ:∀m,Ext μ m→Φ (.str (Txt.join (Str.ofString "\n") (lns z.wd z.sel 0 (.node z.root k .nil))++Str.ofString "\n")) m):az tab (d+1) 224 [.ref (z.loc (0,0))] μ Φ Ψ:=by
 refine call_of (fn:=f_layout_text) rfl rfl ?_
 simp[f_layout_text]
 refine⟨by decide,fun la hla=> ?_⟩
 have e1:=(Ext.refl μ).new hla (some (.list []))
 generalize hm1:upd μ la (some (.list []))=m1 at *
 have l1:m1 la=some (.list []):=by rw[←hm1,aj]
 simp[↓exe ((h.ext e1).aRoot)]
 refine⟨by decide,fun ta hta=> ⟨by decide,fun wa hwa=> ⟨lSz [(z.root,k,0)]+1,?_⟩⟩⟩
 have e2:=e1.new hta (some (.tuple [.int z.root, .int 0]))
 have hne:ta≠wa:=fun e=>by rw[←e,aj] at hwa;exact absurd hwa.symm nn
 have htl:la≠ta:=ne_nb l1 hta
 have hwl:la≠wa:=ne_nb ((af _ _ htl).trans l1) hwa
 have e3:=e2.new hwa (some (.list [.ref ta]))
 have hw0:=e2.none hwa
 generalize hm:upd (upd m1 ta (some (.tuple [.int z.root, .int 0]))) wa (some (.list [.ref ta]))=m at *
 refine lt_loop h hla hw0 hwl _ [(z.root,k,0)] [] _ m (Nat.le_refl _) e3 (by rw[←hm,af _ _ hwl,af _ _ htl];exact l1) ⟨[ta],by rw[←hm,aj];rfl, .cons (e1.none hta) (by rw[←hm,af _ _ hne,aj];rfl) .nil⟩ (fun e he=>by simp at he;subst he;exact hk) (fun e he=>by simp at he;subst he;exact⟨Int.le_refl 0,by simp;lia,hs⟩) (by simp[lSz,LIM];lia) rfl rfl rfl fun ρ' m' he p1 p2=> ?_
 try simp
 have p2':m' la=some (.list ((lns z.wd z.sel 0 (.node z.root k .nil)).map .str)):=by rw[p2];simp[lOf]
 have ll:=lns_len z.wd z.sel 0 (.node z.root k .nil)
 have lj:=join_le (lns_le (wd:=z.wd) (sel:=z.sel) (dp:=0) (k:= .node z.root k .nil) (by simpa[ids] using hs) (by simp only[av];push_cast;lia)) (by rw[ll];simp only[av];lia)
 simp[ok_join,↓exe p1]
 refine⟨_,_,aE p2',strsOf_map _,by rw[List.length_map,ll];simp only[av,LIM];lia,by lia,by decide,_,b_adds (by have:=one_len;lia),hΦ m' he⟩
end
end
section
open PySem
section
variable{μ μ':MH}{z:Z}{i:Int}{Φ:Pst}{Ψ:Exc}{d:Nat}
theorem R.moveK(h:R μ z)(hi:i∈z.S){fa:Addr}{l:List Int}(hfa:Nl z fa)(hl:μ fa=some (.list (l.map .int))){Φ:MH→Prop}(k:∀m,R m {z with loc:=upd z.loc (4,i) fa,K:=upd z.K i l}→Φ m):∃μ',setAttrM μ (.ref (z.loc (3,i))) "children" (.ref fa)=some μ'∧Φ μ':=by
 refine q17 (h.win i hi) fun f e hf=> ?_
 refine⟨_,setAttr_at e (by decide) (cnt_s hf.kids),k _ ?_⟩
 have old:∀s,s≠(4,i)→upd z.loc (4,i) fa s=z.loc s:=fun s hs=>af _ _ hs
 have l4:upd z.loc (4,i) fa (4,i)=fa:=aj _ _ _
 have ne:∀t,live z t→t≠(3,i)→upd μ (z.loc (3,i)) (some (.inst 93 (upd f "children" (some (.ref fa))) 16)) (z.loc t)=μ (z.loc t):=fun t ht hn=>af _ _ (h.ne ht (live3 hi) hn)
 have nf:upd μ (z.loc (3,i)) (some (.inst 93 (upd f "children" (some (.ref fa))) 16)) fa=μ fa:=af _ _ (hfa _ (live3 hi)).symm
 have lv:∀s,live {z with loc:=upd z.loc (4,i) fa,K:=upd z.K i l} s→live z s:=fun s hs=>hs
 generalize upd z.loc (4,i) fa=ℓ at *
 refine⟨fun s t hs ht q=> ?_,?_,?_,fun j hj=> ?_,fun j hj=> ?_,fun j hj=> ?_,fun j hj=> ?_,fun j hj=> ?_,?_⟩
 ·dsimp only at q
  by_cases e1:s=(4,i) <;> by_cases e2:t=(4,i)
  ·rw[e1,e2]
  ·subst e1;rw[l4,old t e2] at q;exact absurd q.symm (hfa t (lv t ht))
  ·subst e2;rw[l4,old s e1] at q;exact absurd q (hfa s (lv s hs))
  ·rw[old s e1,old t e2] at q;exact h.inj s t (lv s hs) (lv t ht) q
 ·refine q18 h.tree fun g n a b c=> ?_
  refine⟨g,n,?_,b,⟨?_,c.2,c.3,c.4,c.5,c.6,c.7,c.8,c.9,c.10,c.11,c.12,c.13⟩⟩
  ·show _=_;dsimp only;rw[old _ ((ne1 (by decide))),ne _ (live0 z) ((ne1 (by decide)))];exact a
  ·dsimp only;rw[old _ ((ne1 (by decide)))];exact c.1
 ·refine q17 h.tab fun g a b=> ?_
  refine⟨g,?_,fun j hj=> ?_⟩
  ·dsimp only;rw[old _ ((ne1 (by decide))),ne _ (live1 z) ((ne1 (by decide)))];exact a
  ·dsimp only;rw[old _ ((ne1 (by decide)))];exact b j hj
 ·dsimp only
  rw[old _ (by simp)]
  by_cases q:j=i
  ·rw[q]
   refine⟨_,aj _ _ _,⟨hf.number,hf.sort,hf.par,hf.lft,hf.top,hf.wid,hf.hei,hf.buf,hf.start,hf.point,hf.hscroll,by simp[l4],by simp[hf.early,old],hf.time,hf.m1,hf.m2,hf.m3,hf.m4⟩⟩
  ·rw[ne _ (live3 hj) (by simpa using q)]
   refine q17 (h.win j hj) fun g a t=> ?_
   exact⟨g,a,⟨t.1,t.2,t.3,t.4,t.5,t.6,t.7,t.8,t.9,t.10,t.11,by rw[old _ (by simpa using q)];exact t.12,by rw[old _ ((ne1 (by decide)))];exact t.13,t.14,t.15,t.16,t.17,t.18⟩⟩
 ·dsimp only
  by_cases q:j=i
  ·rw[q];rw[l4,nf,aj];exact hl
  ·rw[old _ (by simpa using q),ne _ (live4 hj) ((ne1 (by decide))),af _ _ q];exact h.kids j hj
 ·dsimp only;rw[old _ ((ne1 (by decide))),ne _ (live5 hj) ((ne1 (by decide)))];exact h.early j hj
 ·dsimp only;rw[old _ ((ne1 (by decide))),ne _ (live6 hj) ((ne1 (by decide)))]
  refine q18 (h.box j hj) fun g n a b c=> ?_
  exact⟨g,n,a,b,⟨c.1,by rw[old _ ((ne1 (by decide)))];exact c.2,c.3,c.4,c.5,c.6⟩⟩
 ·dsimp only;rw[old _ ((ne1 (by decide))),ne _ (live7 hj) ((ne1 (by decide)))]
  have:∀x:Int,ℓ (6,x)=z.loc (6,x):=fun x=>old _ ((ne1 (by decide)))
  simp only[this];exact h.parts j hj
 ·dsimp only;rw[old _ ((ne1 (by decide))),ne _ (live2 z) ((ne1 (by decide)))];exact h.deck
noncomputable def rest(z:Z)(pp:List Int):Z:={z with S:=z.S.filter fun j=>decide (j∉pp)}
theorem rest_cons(z:Z)(pp:List Int)(c:Int):{rest z pp with S:=(rest z pp).S.filter fun j=>decide (j≠c)}=rest z (c::pp):=by
 have:(z.S.filter fun j=>decide (j∉pp)).filter (fun j=>decide (j≠c))=z.S.filter fun j=>decide (j∉c::pp):=by
  rw[List.filter_filter]
  exact List.filter_congr fun j u_=>by by_cases h1:j=c <;> by_cases h2:j∈pp <;> simp[h1,h2]
 unfold rest
 rw[←this]
theorem rest_nil(z:Z):rest z []=z:=by
 have:z.S.filter (fun j=>decide (j∉([]:List Int)))=z.S:=List.filter_eq_self.mpr (by simp)
 unfold rest;rw[this]
theorem mem_rest{z:Z}{pp:List Int}{j:Int}:j∈(rest z pp).S↔j∈z.S∧j∉pp:=by simp[rest]
noncomputable def joinK(z:Z)(p:Int)(ks:List Int):List Int:=ks.flatMap fun c=>if(z.wd c).sort=(z.wd p).sort then z.K c else [c]
noncomputable def popK(z:Z)(p:Int)(ks:List Int):List Int:=ks.filter fun c=>decide ((z.wd c).sort=(z.wd p).sort)
theorem j1_loop{T:FPst}{C:aB}{p:Int}{ks:List Int}(hK:z.K p=ks)(hp:p∈z.S)(hks:∀c∈ks,c∈z.S∧c≠p)(nd:ks.Nodup)(hg:z.gn < 10000)(hlen:ks.length+(joinK z p ks).length < LIM){fa:Addr}(hfa:Nl z fa):∀(rs dn:List Int) (ρ:ao) (μ:MH),ks=dn++rs→∀pp,(∀c,c∈pp↔c∈popK z p dn)→R μ (rest z pp)→μ fa=some (.list ((joinK z p dn).map .int))→
  ρ "tree"=some (.ref (z.loc (0,0)))→ρ "here"=some (.ref (z.loc (3,p)))→ρ "found"=some (.ref fa)→
  (∀ρ' m pp,(∀c,c∈pp↔c∈popK z p ks)→R m (rest z pp)→m fa=some (.list ((joinK z p ks).map .int))→(∀x,x≠"child"→x≠"own"→ρ' x=ρ x)→T .next ρ' m)→foL C (z.loc (4,p)) "child" lb_joined_0 T (rs.length+1) dn.length ρ μ:=by
 have hpp:∀{dn rs:List Int},ks=dn++rs→∀{pp:List Int},(∀c,c∈pp↔c∈popK z p dn)→p∉pp:=fun e pp hpp hm=>by
  have:=(hpp _).mp hm
  exact(hks p (by rw[e];exact List.mem_append_left _ (List.mem_filter.mp this).1)).2 rfl
 intro rs
 induction rs with
 |nil=>
  intro dn ρ μ e pp hp' h hl r1 r2 r3 hT
  simp only[List.append_nil] at e
  subst e
  rw[List.length_nil,foL_succ]
  refine⟨_,h.kids p (mem_rest.mpr ⟨hp,hpp (List.append_nil _).symm hp'⟩),?_⟩
  have:(rest z pp).K p=ks:=hK
  rw[this];simp
  exact hT ρ μ pp hp' h hl fun u_ u_ u_=>rfl
 |cons c rs ih=>
  intro dn ρ μ e pp hp' h hl r1 r2 r3 hT
  have hpS:p∈(rest z pp).S:=mem_rest.mpr ⟨hp,hpp e hp'⟩
  have hcd:c∉dn:=fun q=>by
   rw[e] at nd
   exact(List.nodup_append.mp nd).2.2 c q c (.head _) rfl
  have hcS:c∈(rest z pp).S:=mem_rest.mpr ⟨(hks c (by rw[e];simp)).1,fun q=>hcd (List.mem_filter.mp ((hp' c).mp q)).1⟩
  have jl:(joinK z p (dn++ [c])).length≤(joinK z p ks).length:=by
   rw[e];unfold joinK;simp only[List.flatMap_append,List.length_append,List.flatMap_cons];simp
  have jl2:(joinK z p dn).length≤(joinK z p ks).length:=by
   rw[e];unfold joinK;simp only[List.flatMap_append,List.length_append];lia
  rw[List.length_cons,foL_succ]
  refine⟨_,h.kids p hpS,?_⟩
  have ek:(rest z pp).K p=dn++c::rs:=hK.trans e
  rw[ek]
  have g1:attrOf μ (.ref (z.loc (0,0))) "windows"=some (.ref (z.loc (1,0))):=h.aWindows
  have g2:itemOf μ (.ref (z.loc (1,0))) (.int c)=some (.ref (z.loc (3,c))):=h.gWin hcS
  have g3:attrOf μ (.ref (z.loc (3,c))) "sort"=some (.int (z.wd c).sort):=h.wSort hcS
  have g4:attrOf μ (.ref (z.loc (3,p))) "sort"=some (.int (z.wd p).sort):=h.wSort hpS
  have g5:attrOf μ (.ref (z.loc (3,c))) "children"=some (.ref (z.loc (4,c))):=h.wKids hcS
  have el:(dn++ [c]).length=dn.length+1:=by simp
  have jd:∀_x:Nat,joinK z p (dn++ [c])=joinK z p dn++(if(z.wd c).sort=(z.wd p).sort then z.K c else [c]):=fun u_=>by unfold joinK;simp
  have pd:popK z p (dn++ [c])=popK z p dn++(if(z.wd c).sort=(z.wd p).sort then [c] else []):=by
   unfold popK;by_cases q:(z.wd c).sort=(z.wd p).sort <;> simp[q]
  have e':ks=(dn++ [c])++rs:=by rw[e];simp
  simp[lb_joined_0,↓exe r1,↓exe r2,↓exe g1,↓exe g2,↓exe g3,↓exe g4]
  by_cases q:(z.wd c).sort=(z.wd p).sort
  ·simp[q,ok_extend,aE hl,↓exe r3,↓exe g5]
   have kc:μ (z.loc (4,c))=some (.list ((z.K c).map .int)):=h.kids c hcS
   refine st_extend hl kc (by simp;lia) (by have:=jd 0;rw[if_pos q] at this;rw[this] at jl;simp at jl⊢;lia) fun m1 f1 o1=> ?_
   try simp[↓exe r1]
   have h1:R m1 (rest z pp):=h.same fun s hs=>o1 _ (hfa s (by
    rcases hs with a |⟨a,b⟩ |a
    ·exact .inl a
    ·exact .inr (.inl ⟨a,(mem_rest.mp b).1⟩)
    ·exact .inr (.inr a)))
   have g1':attrOf m1 (.ref (z.loc (0,0))) "windows"=some (.ref (z.loc (1,0))):=h1.aWindows
   have ot:=h1.okTab.2
   have ot':bmOk .dpop (.ref (z.loc (1,0))) m1=true:=ot
   simp[ot',↓exe g1']
   refine R.dpop (z:=rest z pp) h1 hcS hg fun v m2 h2 o2=> ?_
   try simp
   rw[rest_cons] at h2
   have ff:m2 fa=m1 fa:=o2 fa (hfa _ (live1 z)).symm
   rw[←el]
   refine ih (dn++ [c]) _ m2 e' (c::pp) (fun x=> ?_) h2 (by rw[ff,f1,jd 0,if_pos q];simp) r1 r2 r3 fun ρ' m pp' a b b' b''=>hT ρ' m pp' a b b' fun x hx hy=> ((b'' x hx hy).trans ((af _ _ hy).trans ((af _ _ hx))))
   rw[pd,if_pos q,List.mem_cons,hp' x,List.mem_append,List.mem_singleton]
   exact or_comm
  ·simp[q,ok_append,aE hl,↓exe r3]
   refine st_append hl (by simp;lia) fun m1 f1 o1=> ?_
   try simp
   have h1:R m1 (rest z pp):=h.same fun s hs=>o1 _ (hfa s (by
    rcases hs with a |⟨a,b⟩ |a
    ·exact .inl a
    ·exact .inr (.inl ⟨a,(mem_rest.mp b).1⟩)
    ·exact .inr (.inr a)))
   rw[←el]
   refine ih (dn++ [c]) _ m1 e' pp (fun x=> ?_) h1 (by rw[f1,jd 0,if_neg q];simp) r1 r2 r3 fun ρ' m pp' a b b' b''=>hT ρ' m pp' a b b' fun x hx hy=> ((b'' x hx hy).trans ((af _ _ hy).trans ((af _ _ hx))))
   rw[pd,if_neg q,List.append_nil];exact hp' x
noncomputable def parAll(p:Int)(l:List Int)(wd:Int→WD):Int→WD:=fun j=>if j∈l then{wd j with par:=p} else wd j
theorem parAll_nil(p:Int)(wd:Int→WD):parAll p [] wd=wd:=by funext j;simp[parAll]
theorem j2_loop{T:FPst}{C:aB}{p:Int}{fs:List Int}{fa:Addr}:∀(rs dn:List Int) (z:Z) (ρ:ao) (μ:MH),fs=dn++rs→R μ z→Nl z fa→μ fa=some (.list (fs.map .int))→(∀c∈fs,c∈z.S)→
  ρ "tree"=some (.ref (z.loc (0,0)))→ρ "number"=some (.int p)→
  (∀ρ' m,R m {z with wd:=parAll p rs z.wd}→m fa=some (.list (fs.map .int))→(∀x,x≠"child"→ρ' x=ρ x)→T .next ρ' m)→foL C fa "child" lb_joined_1 T (rs.length+1) dn.length ρ μ:=by
 intro rs
 induction rs with
 |nil=>
  intro dn z ρ μ e h hfa hl hS r1 r2 hT
  rw[List.length_nil,foL_succ]
  refine⟨_,hl,?_⟩
  rw[e];simp
  exact hT ρ μ (by rw[parAll_nil];exact h) hl fun u_ u_=>rfl
 |cons c rs ih=>
  intro dn z ρ μ e h hfa hl hS r1 r2 hT
  rw[List.length_cons,foL_succ]
  refine⟨_,hl,?_⟩
  have hc:c∈z.S:=hS c (by rw[e];simp)
  rw[e]
  simp[lb_joined_1,↓exe r1,↓exe r2,↓exe h.aWindows,↓exe (h.gWin hc)]
  refine h.sPar hc p fun m h1 o1=> ?_
  try simp
  have el:(dn++ [c]).length=dn.length+1:=by simp
  rw[←el]
  refine ih (dn++ [c]) {z with wd:=upd z.wd c {z.wd c with par:=p}} _ m (by rw[e];simp) h1 hfa ((o1 fa hfa).trans hl) hS r1 r2 fun ρ' m' a b c'=>hT ρ' m' ?_ b fun x hx=> ((c' x hx).trans ((af _ _ hx)))
  have:parAll p rs (upd z.wd c {z.wd c with par:=p})=parAll p (c::rs) z.wd:=by
   funext j
   unfold parAll
   by_cases q:j=c
   ·rw[q];simp
   ·simp[q,af _ _ q]
  skip
  rw[this] at a;exact a
theorem joined_spec(h:R μ z){p:Int}{ks:List Int}(hK:z.K p=ks)(hp:p∈z.S)(hks:∀c∈ks,c∈z.S∧c≠p)(nd:ks.Nodup)(hg:z.gn < 10000)(hlen:ks.length+(joinK z p ks).length < LIM)(hj:∀c∈joinK z p ks,c∈z.S∧c∉popK z p ks)
  (hΦ:∀m fa pp,(∀c,c∈pp↔c∈popK z p ks)→R m {rest z pp with wd:=parAll p (joinK z p ks) z.wd,loc:=upd z.loc (4,p) fa,K:=upd z.K p (joinK z p ks)}→Φ .none m):az tab (d+1) 274 [.ref (z.loc (0,0)), .int p] μ Φ Ψ:=by
 refine call_of (fn:=f_joined) rfl rfl ?_
 simp[f_joined,↓exe h.aWindows,↓exe (h.gWin hp)]
 refine⟨by decide,fun fa hfa=> ?_⟩
 have e1:=(Ext.refl μ).new hfa (some (.list []))
 have f1:upd μ fa (some (.list [])) fa=some (.list []):=aj _ _ _
 generalize upd μ fa (some (.list []))=m1 at *
 have h1:=h.ext e1
 have nf:Nl z fa:=h.nl hfa
 simp[↓exe (h1.wKids hp)]
 refine⟨ks.length+1,?_⟩
 refine j1_loop (C:=az tab d) hK hp hks nd hg hlen nf ks [] _ m1 rfl [] (by simp[popK]) (by rw[rest_nil];exact h1) (by simpa[joinK] using f1) rfl rfl rfl fun ρ2 m2 pp hpp h2 f2 hρ=> ?_
 try simp
 have nf2:Nl (rest z pp) fa:=fun s hs=>nf s (by
    rcases hs with a |⟨a,b⟩ |a
    ·exact .inl a
    ·exact .inr (.inl ⟨a,(mem_rest.mp b).1⟩)
    ·exact .inr (.inr a))
 have hpr:p∈(rest z pp).S:=mem_rest.mpr ⟨hp,fun q=> (hks p (List.mem_filter.mp ((hpp p).mp q)).1).2 rfl⟩
 have hS:∀c∈joinK z p ks,c∈(rest z pp).S:=fun c hc=>mem_rest.mpr ⟨(hj c hc).1,fun q=> (hj c hc).2 ((hpp c).mp q)⟩
 simp[hρ]
 refine⟨(joinK z p ks).length+1,?_⟩
 refine j2_loop (C:=az tab d) (p:=p) (joinK z p ks) [] (rest z pp) ρ2 m2 rfl h2 nf2 f2 hS (by simp[hρ];rfl) (by simp[hρ]) fun ρ3 m3 h3 f3 hρ3=> ?_
 simp[hρ3,hρ]
 exact R.moveK h3 hpr nf2 f3 fun m4 h4=>hΦ m4 fa pp hpp h4
end
section
variable{μ μ':MH}{z:Z}{i:Int}{Φ:Pst}{Ψ:Exc}{d:Nat}
noncomputable def axSz(ax:Int)(d:WD):Int:=if ax=0 then d.wid else d.hei
noncomputable def newSz(whole:Int)(sz:Option Int):Int:=match sz with
 |none=>Int.fdiv whole 2
 |some s=>if s > 0 then whole - s else 0 - s
noncomputable def least(ax:Int):Int:=if ax=0 then 3 else 2
noncomputable def optV:Option Int→MV
 |none=> .none
 |some s=> .int s
noncomputable def tooSmall(ax whole:Int)(sz:Option Int):Prop:=whole - newSz whole sz < least ax∨newSz whole sz < least ax
noncomputable def aJ:Nat→MSs→MSs
 | 0,l=>l
 |_, .nil=> .nil
 |n+1, .cons _ r=>aJ n r
noncomputable def tl_sp:MSs:=aJ 2 f_split_parts.body
theorem split_parts_spec(h:R μ z)(hi:i∈z.S)(hK:z.K i= [])(hs:(z.wd i).sort=0){ax:Int}{sz:Option Int}
  (hΦ:∀m a,Ext μ m→m a=some (.tuple [.int (axSz ax (z.wd i) - newSz (axSz ax (z.wd i)) sz), .int (newSz (axSz ax (z.wd i)) sz)])→¬tooSmall ax (axSz ax (z.wd i)) sz→Φ (.ref a) m) (hΨ:∀m,Ext μ m→tooSmall ax (axSz ax (z.wd i)) sz→Ψ m):az tab (d+3) 253 [.ref (z.loc (0,0)), .int i,optV sz, .int ax] μ Φ Ψ:=by
 refine call_of (fn:=f_split_parts) rfl rfl ?_
 have g1:bindM f_split_parts.params [.ref (z.loc (0,0)), .int i,optV sz, .int ax] "tree"=some (.ref (z.loc (0,0))):=rfl
 have g2:bindM f_split_parts.params [.ref (z.loc (0,0)), .int i,optV sz, .int ax] "number"=some (.int i):=rfl
 have g3:bindM f_split_parts.params [.ref (z.loc (0,0)), .int i,optV sz, .int ax] "size"=some (optV sz):=rfl
 have g4:bindM f_split_parts.params [.ref (z.loc (0,0)), .int i,optV sz, .int ax] "axis"=some (.int ax):=rfl
 generalize bindM f_split_parts.params [.ref (z.loc (0,0)), .int i,optV sz, .int ax]=ρ0 at *
 show aA _ (.cons (.assign (.name "whole") (.meth 93 62 (.meth 164 126 (.var "tree") "window" (.cons (.var "number") .nil)) "size" (.cons (.var "axis") .nil))) (.cons (.ite (.isNone true (.var "size")) (.cons (.assign (.name "new") (.bin .fdiv (.var "whole") (.cst (.int 2)))) .nil) (.cons (.assign (.name "new") (.ite (.cmp .gt (.var "size") (.cst (.int 0))) (.bin .sub (.var "whole") (.var "size")) (.bin .sub (.cst (.int 0)) (.var "size")))) .nil)) tl_sp)) _ _ _ _
 simp[↓exe g1,↓exe g2,↓h.kT fun f hf=>hf.m2]
 refine window_spec (d:=d+1) h hi ?_
 simp[↓exe g4,↓h.kW hi fun f hf=>hf.m1]
 refine size_spec (d:=d+1) h hi ?_
 try simp
 have hw:(if ax=0 then(z.wd i).wid else(z.wd i).hei)=axSz ax (z.wd i):=rfl
 rw[hw]
 generalize axSz ax (z.wd i)=whole at *
 have rest:∀(ρ:ao),ρ "tree"=some (.ref (z.loc (0,0)))→ρ "number"=some (.int i)→ρ "axis"=some (.int ax)→ρ "whole"=some (.int whole)→ρ "new"=some (.int (newSz whole sz))→
   aA (az tab (d+2)) tl_sp ρ μ
    (bf Φ) Ψ:=fun ρ r1 r2 r3 r4 r5=>by
  simp[tl_sp,aJ,f_split_parts,↓exe r1,↓exe r2,↓exe r3,↓exe r4,↓exe r5]
  refine least_size_leaf h hi hK hs fun m1 he1=> ?_
  have h1:=h.ext he1
  have hl:(if ax=0 then(3:Int) else 2)=least ax:=rfl
  rw[hl]
  simp
  by_cases q1:whole - newSz whole sz < least ax
  ·simp[q1];exact hΨ m1 he1 (.inl q1)
  ·have q1':least ax≤whole - newSz whole sz:=by lia
   simp[q1,↓exe r1,↓exe r3,↓exe r5,↓h1.kT fun f hf=>hf.m6]
   refine least_leaf_spec (d:=d+1) h1 ?_
   try simp
   rw[hl]
   by_cases q2:newSz whole sz < least ax
   ·simp[q2];exact hΨ m1 he1 (.inr q2)
   ·have q2':least ax≤newSz whole sz:=by lia
    simp[q2,↓exe r5]
    refine⟨by decide,fun a ha=> ?_⟩
    exact hΦ _ a (he1.new ha _) (aj _ _ _) fun q=>q.elim q1 q2
 cases sz with
 |none=>
  simp[optV,none_n,none_i,none_r,↓exe g3]
  rw[k_of (w:= .int (whole.fdiv 2)) rfl]
  exact rest (upd (upd ρ0 "whole" (some (.int whole))) "new" (some (.int (whole.fdiv 2)))) (by simp[g1]) (by simp[g2]) (by simp[g4]) rfl (by simp[newSz])
 |some s=>
  simp[optV,none_n,none_i,none_r,↓exe g3]
  by_cases q:s > 0
  ·have q':0 < s:=q
   simp[q',optV,↓exe g3]
   exact rest (upd (upd ρ0 "whole" (some (.int whole))) "new" (some (.int (whole - s)))) (by simp[g1]) (by simp[g2]) (by simp[g4]) rfl (by simp[newSz,q'])
  ·have q':¬0 < s:=q
   rw[kE_ite_n (by lia)]
   simp[optV,↓exe g3]
   exact rest (upd (upd ρ0 "whole" (some (.int whole))) "new" (some (.int (-s)))) (by simp[g1]) (by simp[g2]) (by simp[g4]) rfl (by simp[newSz,q'])
end
section
variable{μ μ':MH}{z:Z}{i:Int}{Φ:Pst}{Ψ:Exc}{d:Nat}
noncomputable def Moved(z:Z)(n:Int)(ℓ:Slot→Addr):Prop:=∀s:Slot,s.2≠n∨s.1 < 3∨5 < s.1→ℓ s=z.loc s
theorem fresh_spec'(h:R μ z)(hn:z.last+1∉z.S)(hg:z.gn < 9999){sort par:Int}
  (hΦ:∀m ℓ,Moved z (z.last+1) ℓ→R m {z with loc:=ℓ,last:=z.last+1,S:=(z.last+1)::z.S,wd:=upd z.wd (z.last+1) ⟨sort,par,0,0,0,0,0⟩,K:=upd z.K (z.last+1) [],gn:=z.gn+1}→Φ (.ref (ℓ (3,z.last+1))) m):az tab (d+2) 119 [.ref (z.loc (0,0)), .int sort, .int par] μ Φ Ψ:=by
 refine fresh_spec h hn hg fun m a b c h1 u_=> ?_
 have e3:upd (upd (upd z.loc (3,z.last+1) a) (4,z.last+1) b) (5,z.last+1) c (3,z.last+1)=a:=by rw[af _ _ ((ne1 (by decide))),af _ _ ((ne1 (by decide))),aj]
 have:=hΦ m (upd (upd (upd z.loc (3,z.last+1) a) (4,z.last+1) b) (5,z.last+1) c) (fun s hs=> ?_) h1
 ·rw[e3] at this;exact this
 ·obtain⟨k,j⟩:=s
  rw[af _ _ (by simp;lia),af _ _ (by simp;lia),af _ _ (by simp;lia)]
noncomputable def wrapZ(z:Z)(ℓ:Slot→Addr)(i n ax:Int):Z:=
 {z with loc:=ℓ,last:=n,S:=n::z.S,gn:=z.gn+1,root:=if(z.wd i).par=0 then n else z.root,wd:=upd (upd z.wd n ⟨if ax=0 then 2 else 1,(z.wd i).par,(z.wd i).lft,(z.wd i).top,(z.wd i).wid,(z.wd i).hei,0⟩) i {z.wd i with par:=n},K:=upd (if(z.wd i).par=0 then z.K else upd z.K (z.wd i).par ((z.K (z.wd i).par).set ((z.K (z.wd i).par).idxOf i) n)) n [i]}
theorem R.eq{z z':Z}{m:MH}(h:R m z)(e:z=z'):R m z':=e▸h
noncomputable def tl_cb:MSs:=aJ 2 f_combined.body
noncomputable def tl_cb2:MSs:=aJ 5 f_combined.body
theorem combined_old(h:R μ z)(hi:i∈z.S){p ax:Int}(hp:(z.wd i).par=p)(hp0:p≠0)(hpS:p∈z.S)(ha:(if(z.wd p).sort=2 then(0:Int) else 1)=ax)(hΦ:Φ (.int p) μ):az tab (d+2) 260 [.ref (z.loc (0,0)), .int i, .int ax] μ Φ Ψ:=by
 refine call_of (fn:=f_combined) rfl rfl ?_
 show aA _ (.cons (.assign (.name "here") (.item (.attr (.var "tree") "windows") (.var "number"))) (.cons (.ite (.boolop true (.cmp .ne (.attr (.var "here") "parent") (.cst (.int 0))) (.cmp .eq (.call (.glob "along" (.ref 175)) (.cons (.attr (.item (.attr (.var "tree") "windows") (.attr (.var "here") "parent")) "sort") .nil)) (.var "axis"))) (.cons (.ret (.attr (.var "here") "parent")) .nil) .nil) tl_cb)) _ _ _ _
 have hpS':(z.wd i).par∈z.S:=hp▸hpS
 simp[f_combined,hp,hp0,↓exe h.aWindows,↓exe (h.gWin hi),↓exe (h.wPar hi),↓exe (h.gWin hpS),↓exe (h.wSort hpS)]
 refine along_spec ?_
 try simp
 rw[ha]
 simp[hp,↓exe (h.wPar hi)]
 exact hΦ
theorem combined_new(h:R μ z)(hi:i∈z.S)(hn:z.last+1∉z.S)(hg:z.gn < 9999)(h0:(0:Int)∉z.S){ax:Int}(hax:ax=0∨ax=1)(hp:(z.wd i).par=0∨((z.wd i).par∈z.S∧(if(z.wd (z.wd i).par).sort=2 then(0:Int) else 1)≠ax∧i∈z.K (z.wd i).par∧(z.K (z.wd i).par).length < LIM∧(z.wd i).par≠i))
  (hΦ:∀m ℓ,Moved z (z.last+1) ℓ→R m (wrapZ z ℓ i (z.last+1) ax)→Φ (.int (z.last+1)) m):az tab (d+3) 260 [.ref (z.loc (0,0)), .int i, .int ax] μ Φ Ψ:=by
 refine call_of (fn:=f_combined) rfl rfl ?_
 show aA _ (.cons (.assign (.name "here") (.item (.attr (.var "tree") "windows") (.var "number"))) (.cons (.ite (.boolop true (.cmp .ne (.attr (.var "here") "parent") (.cst (.int 0))) (.cmp .eq (.call (.glob "along" (.ref 175)) (.cons (.attr (.item (.attr (.var "tree") "windows") (.attr (.var "here") "parent")) "sort") .nil)) (.var "axis"))) (.cons (.ret (.attr (.var "here") "parent")) .nil) .nil) tl_cb)) _ _ _ _
 have hne:i≠z.last+1:=fun e=>hn (e▸hi)
 have body:∀ρ,ρ "tree"=some (.ref (z.loc (0,0)))→ρ "number"=some (.int i)→ρ "axis"=some (.int ax)→ρ "here"=some (.ref (z.loc (3,i)))→aA (az tab (d+2)) tl_cb ρ μ (bf Φ) Ψ:=fun ρ r1 r2 r3 r4=>by
  show aA _ (.cons (.assign (.name "around") (.meth 164 119 (.var "tree") "fresh" (.cons (.call (.glob "sort_along" (.ref 182)) (.cons (.var "axis") .nil)) (.cons (.attr (.var "here") "parent") .nil)))) (.cons (.multi [(.attr (.var "around") "width"),(.attr (.var "around") "height"),(.attr (.var "around") "left"),(.attr (.var "around") "top")] (.cons (.attr (.var "here") "width") (.cons (.attr (.var "here") "height") (.cons (.attr (.var "here") "left") (.cons (.attr (.var "here") "top") .nil))))) (.cons (.expr (.call (.glob "replace_child" (.ref 210)) (.cons (.var "tree") (.cons (.var "number") (.cons (.attr (.var "around") "number") .nil))))) tl_cb2))) _ _ _ _
  simp[↓h.kT fun f hf=>hf.m1,↓exe r3,↓exe r1]
  refine sort_along_spec (d:=d+1) ?_
  simp[↓exe (h.wPar hi),↓exe r4]
  refine fresh_spec' h hn hg fun m1 ℓ mv h1=> ?_
  try simp[↓exe r4]
  have lT:ℓ (0,0)=z.loc (0,0):=mv _ (.inr (.inl ((by decide))))
  have lI:ℓ (3,i)=z.loc (3,i):=mv _ (.inl hne)
  have nS:z.last+1∈((z.last+1)::z.S):= .head _
  have iS:i∈((z.last+1)::z.S):= .tail _ hi
  have wI:upd z.wd (z.last+1) ⟨if ax=0 then 2 else 1,(z.wd i).par,0,0,0,0,0⟩ i=z.wd i:=af _ _ hne
  have aa:=h1.wWid iS;have ab:=h1.wHei iS;have ac:=h1.wLft iS;have ad:=h1.wTop iS
  dsimp only at aa ab ac ad
  rw[lI,wI] at aa ab ac ad
  simp[↓exe r4,↓exe aa,↓exe ab,↓exe ac,↓exe ad]
  refine h1.sWid nS _ fun m2 h2 o2=> ?_
  try simp
  refine R.sHei h2 nS _ fun m3 h3 o3=> ?_
  try simp
  refine R.sLft h3 nS _ fun m4 h4 o4=> ?_
  try simp
  refine R.sTop h4 nS _ fun m5 h5 o5=> ?_
  simp only[upd_self_s] at h5
  have an:=h5.wNumber nS
  skip
  simp[↓exe r1]
  simp[↓exe r2,↓exe an]
  have h5':R m5 {z with loc:=ℓ,last:=z.last+1,S:=(z.last+1)::z.S,wd:=upd z.wd (z.last+1) ⟨if ax=0 then 2 else 1,(z.wd i).par,(z.wd i).lft,(z.wd i).top,(z.wd i).wid,(z.wd i).hei,0⟩,K:=upd z.K (z.last+1) [],gn:=z.gn+1}:=by
   refine h5.eq ?_
   congr 1
   funext j
   by_cases e:j=z.last+1
   ·subst e;simp
   ·simp[af _ _ e]
  have fin:∀m6 (rt:Int) (KK:Int→List Int),R m6 {z with loc:=ℓ,last:=z.last+1,S:=(z.last+1)::z.S,root:=rt,wd:=upd z.wd (z.last+1) ⟨if ax=0 then 2 else 1,(z.wd i).par,(z.wd i).lft,(z.wd i).top,(z.wd i).wid,(z.wd i).hei,0⟩,K:=KK,gn:=z.gn+1}→
    rt=(if(z.wd i).par=0 then z.last+1 else z.root)→(∀j,j≠z.last+1→KK j=(if(z.wd i).par=0 then z.K else upd z.K (z.wd i).par ((z.K (z.wd i).par).set ((z.K (z.wd i).par).idxOf i) (z.last+1))) j)→
    aA (az tab (d+2)) tl_cb2 (upd ρ "around" (some (.ref (ℓ (3,z.last+1))))) m6 (bf Φ) Ψ:=fun m6 rt KK h6 ert eK=>by
   have an:=h6.wNumber nS
   skip
   simp[tl_cb2,aJ,f_combined,↓exe r4,↓exe an]
   rw[←lI]
   refine h6.sPar iS (z.last+1) fun m7 h7 o7=> ?_
   try simp[↓exe r2]
   refine⟨by decide,fun fa hfa=> ?_⟩
   have h8:=h7.ext ((Ext.refl m7).new hfa (some (.list [.int i])))
   refine R.moveK h8 nS (l:= [i]) (h7.nl hfa) (aj _ _ _) fun m9 h9=> ?_
   have an9:=h9.wNumber nS
   have e3:upd ℓ (4,z.last+1) fa (3,z.last+1)=ℓ (3,z.last+1):=af _ _ ((ne1 (by decide)))
   dsimp only at an9
   rw[e3] at an9
   simp[↓exe an9]
   refine hΦ m9 (upd ℓ (4,z.last+1) fa) (fun s hs=> ?_) (h9.eq ?_)
   ·obtain⟨k,j⟩:=s
    rw[af _ _ (by simp;lia)];exact mv _ hs
   ·unfold wrapZ
    rw[ert]
    congr 1
    ·simp only[af _ _ hne]
    ·funext j
     by_cases e:j=z.last+1
     ·subst e;simp
     ·simp[af _ _ e];exact eK j e
  have wW:∀pr,pr=(z.wd i).par→upd (upd z.wd (z.last+1) (⟨if ax=0 then 2 else 1,(z.wd i).par,(z.wd i).lft,(z.wd i).top,(z.wd i).wid,(z.wd i).hei,0⟩:WD)) (z.last+1) {(upd z.wd (z.last+1) (⟨if ax=0 then 2 else 1,(z.wd i).par,(z.wd i).lft,(z.wd i).top,(z.wd i).wid,(z.wd i).hei,0⟩:WD)) (z.last+1) with par:=pr}=upd z.wd (z.last+1) (⟨if ax=0 then 2 else 1,(z.wd i).par,(z.wd i).lft,(z.wd i).top,(z.wd i).wid,(z.wd i).hei,0⟩:WD):=fun pr e=>by
   subst e
   funext j
   by_cases e:j=z.last+1
   ·subst e;simp
   ·simp[af _ _ e]
  rw[←lT]
  by_cases p0:(z.wd i).par=0
  ·refine replace_root (d:=d+1) h5' iS nS (by show(upd z.wd _ _ i).par=0;rw[af _ _ hne];exact p0) fun m6 h6=> ?_
   dsimp only at h6
   rw[wW 0 p0.symm] at h6
   exact fin m6 (z.last+1) _ h6 ((if_pos p0).symm) fun j hj=>by rw[if_pos p0,af _ _ hj]
  ·refine q3 (hp.resolve_left p0) fun q1 q2 q3 q4 q5=> ?_
   have pn:(z.wd i).par≠z.last+1:=fun e=>hn (e▸q1)
   have kp:upd z.K (z.last+1) [] (z.wd i).par=z.K (z.wd i).par:=af _ _ pn
   refine replace_kid (d:=d+1) (p:=(z.wd i).par) h5' iS nS (.tail _ q1) (by show(upd z.wd _ _ i).par=_;rw[af _ _ hne]) p0 (by show i∈upd z.K _ _ _;rw[kp];exact q3) (by show(upd z.K _ _ _).length < _;rw[kp];exact q4) fun m6 h6=> ?_
   dsimp only at h6
   rw[wW _ rfl,kp] at h6
   refine fin m6 z.root _ h6 ((if_neg p0).symm) fun j hj=> ?_
   rw[if_neg p0]
   by_cases e:j=(z.wd i).par
   ·rw[e];rw[aj,aj]
   ·rw[af _ _ e,af _ _ e,af _ _ hj]
 simp
 simp[f_combined,↓exe h.aWindows,↓exe (h.gWin hi),↓exe (h.wPar hi)]
 by_cases p0:(z.wd i).par=0
 ·simp[p0]
  exact body (upd (bindM ["tree","number","axis"] [.ref (z.loc (0,0)), .int i, .int ax]) "here" (some (.ref (z.loc (3,i))))) (rfl) (rfl) (rfl) rfl
 ·refine q3 (hp.resolve_left p0) fun q1 q2 q3 q4 q5=> ?_
  simp[p0,↓exe (h.gWin q1),↓exe (h.wSort q1),↓exe h.aWindows,↓exe (h.wPar hi)]
  refine along_spec (d:=d+1) ?_
  simp[q2]
  exact body (upd (bindM ["tree","number","axis"] [.ref (z.loc (0,0)), .int i, .int ax]) "here" (some (.ref (z.loc (3,i))))) (rfl) (rfl) (rfl) rfl
end
section
variable{μ μ':MH}{z:Z}{i:Int}{Φ:Pst}{Ψ:Exc}{d:Nat}
theorem R.moveE(h:R μ z)(hi:i∈z.S){fa:Addr}(hfa:Nl z fa)(hl:μ fa=some (.list [])){Φ:MH→Prop}(k:∀m,R m {z with loc:=upd z.loc (5,i) fa}→Φ m):∃μ',setAttrM μ (.ref (z.loc (3,i))) "earlier" (.ref fa)=some μ'∧Φ μ':=by
 refine q17 (h.win i hi) fun f e hf=> ?_
 refine⟨_,setAttr_at e (by decide) (cnt_s hf.early),k _ ?_⟩
 have old:∀s,s≠(5,i)→upd z.loc (5,i) fa s=z.loc s:=fun s hs=>af _ _ hs
 have l4:upd z.loc (5,i) fa (5,i)=fa:=aj _ _ _
 have ne:∀t,live z t→t≠(3,i)→upd μ (z.loc (3,i)) (some (.inst 93 (upd f "earlier" (some (.ref fa))) 16)) (z.loc t)=μ (z.loc t):=fun t ht hn=>af _ _ (h.ne ht (live3 hi) hn)
 have nf:upd μ (z.loc (3,i)) (some (.inst 93 (upd f "earlier" (some (.ref fa))) 16)) fa=μ fa:=af _ _ (hfa _ (live3 hi)).symm
 have lv:∀s,live {z with loc:=upd z.loc (5,i) fa} s→live z s:=fun s hs=>hs
 generalize upd z.loc (5,i) fa=ℓ at *
 refine⟨fun s t hs ht q=> ?_,?_,?_,fun j hj=> ?_,fun j hj=> ?_,fun j hj=> ?_,fun j hj=> ?_,fun j hj=> ?_,?_⟩
 ·dsimp only at q
  by_cases e1:s=(5,i) <;> by_cases e2:t=(5,i)
  ·rw[e1,e2]
  ·subst e1;rw[l4,old t e2] at q;exact absurd q.symm (hfa t (lv t ht))
  ·subst e2;rw[l4,old s e1] at q;exact absurd q (hfa s (lv s hs))
  ·rw[old s e1,old t e2] at q;exact h.inj s t (lv s hs) (lv t ht) q
 ·refine q18 h.tree fun g n a b c=> ?_
  refine⟨g,n,?_,b,⟨?_,c.2,c.3,c.4,c.5,c.6,c.7,c.8,c.9,c.10,c.11,c.12,c.13⟩⟩
  ·show _=_;dsimp only;rw[old _ ((ne1 (by decide))),ne _ (live0 z) ((ne1 (by decide)))];exact a
  ·dsimp only;rw[old _ ((ne1 (by decide)))];exact c.1
 ·refine q17 h.tab fun g a b=> ?_
  refine⟨g,?_,fun j hj=> ?_⟩
  ·dsimp only;rw[old _ ((ne1 (by decide))),ne _ (live1 z) ((ne1 (by decide)))];exact a
  ·dsimp only;rw[old _ ((ne1 (by decide)))];exact b j hj
 ·dsimp only
  rw[old _ (by simp)]
  by_cases q:j=i
  ·rw[q]
   refine⟨_,aj _ _ _,⟨by simp[hf.number],by simp[hf.sort],by simp[hf.par],by simp[hf.lft],by simp[hf.top],by simp[hf.wid],by simp[hf.hei],by simp[hf.buf],by simp[hf.start],by simp[hf.point],by simp[hf.hscroll],by simp[hf.kids,old],by simp[l4],hf.time,by simp[hf.m1],by simp[hf.m2],by simp[hf.m3],by simp[hf.m4]⟩⟩
  ·rw[ne _ (live3 hj) (by simpa using q)]
   refine q17 (h.win j hj) fun g a t=> ?_
   exact⟨g,a,⟨t.1,t.2,t.3,t.4,t.5,t.6,t.7,t.8,t.9,t.10,t.11,by rw[old _ ((ne1 (by decide)))];exact t.12,by rw[old _ (by simpa using q)];exact t.13,t.14,t.15,t.16,t.17,t.18⟩⟩
 ·dsimp only;rw[old _ ((ne1 (by decide))),ne _ (live4 hj) ((ne1 (by decide)))];exact h.kids j hj
 ·dsimp only
  by_cases q:j=i
  ·rw[q];rw[l4,nf];exact hl
  ·rw[old _ (by simpa using q),ne _ (live5 hj) ((ne1 (by decide)))];exact h.early j hj
 ·dsimp only;rw[old _ ((ne1 (by decide))),ne _ (live6 hj) ((ne1 (by decide)))]
  refine q18 (h.box j hj) fun g n a b c=> ?_
  exact⟨g,n,a,b,⟨c.1,by rw[old _ ((ne1 (by decide)))];exact c.2,c.3,c.4,c.5,c.6⟩⟩
 ·dsimp only;rw[old _ ((ne1 (by decide))),ne _ (live7 hj) ((ne1 (by decide)))]
  have:∀x:Int,ℓ (6,x)=z.loc (6,x):=fun x=>old _ ((ne1 (by decide)))
  simp only[this];exact h.parts j hj
 ·dsimp only;rw[old _ ((ne1 (by decide))),ne _ (live2 z) ((ne1 (by decide)))];exact h.deck
noncomputable def insL(l:List Int)(i n:Int)(ahead:Bool):List Int:=l.take (l.idxOf i+if ahead then 0 else 1)++n::l.drop (l.idxOf i+if ahead then 0 else 1)
noncomputable def insZ(z:Z)(ℓ:Slot→Addr)(i p n ax old new:Int)(ahead:Bool):Z:=
 {z with loc:=ℓ,last:=n,S:=n::z.S,gn:=z.gn+1,wd:=upd (upd z.wd n (aK ax new ⟨0,p,0,0,(z.wd i).wid,(z.wd i).hei,(z.wd i).buf⟩)) i (aK ax old (z.wd i)),K:=upd (upd z.K n []) p (insL (z.K p) i n ahead)}
noncomputable def MovW(z:Z)(ℓ:Slot→Addr):Prop:=∀s:Slot,s.1 < 3∨5 < s.1→ℓ s=z.loc s
noncomputable def tl_s1:MSs:=aJ 2 f_split.body
noncomputable def tl_s2:MSs:=aJ 9 f_split.body
noncomputable def tl_s3:MSs:=aJ 12 f_split.body
theorem flatMap_id{l:List Int}{g:Int→List Int}(h:∀c∈l,g c= [c]):l.flatMap g=l:=by
 induction l with
 |nil=>rfl
 |cons a r ih=>rw[List.flatMap_cons,h a (.head _),ih fun c hc=>h c (.tail _ hc)];rfl
theorem R.insK(h:R μ z){p:Int}(hp:p∈z.S){q:Nat}{n:Int}(hq:q≤(z.K p).length)(hl:(z.K p).length < LIM)(k:∀m,R m {z with K:=upd z.K p ((z.K p).take q++n::(z.K p).drop q)}→Φ .none m):bmP .insert (.ref (z.loc (4,p))) [.int q, .int n] μ Φ:=by
 rw[p_insert]
 refine⟨_,aE (h.kids p hp),by simpa using hl,by lia,by simp;lia,?_⟩
 have:=k _ (h.setK hp ((z.K p).take q++n::(z.K p).drop q))
 simpa using this
theorem Moved.get{z:Z}{n:Int}{ℓ:Slot→Addr}(h:Moved z n ℓ){s:Slot}(hs:s.2≠n∨s.1 < 3∨5 < s.1):ℓ s=z.loc s:=h s hs
theorem Wk_loc{z:Z}{ℓ:Slot→Addr}{f:F}:Wk {z with loc:=ℓ} f↔Wk z f:=by
 induction f with
 |nil=>exact Iff.rfl
 |node i k r h1 h2=>simp only[Wk,h1,h2]
theorem upd_upd{α β:Type} [DecidableEq α](f:α→β)(a:α)(b c:β):upd (upd f a b) a c=upd f a c:=funext fun x=>by
 by_cases h:x=a
 ·rw[h,aj,aj]
 ·rw[af _ _ h,af _ _ h,af _ _ h]
theorem set_size_ax(h:R μ z)(hi:i∈z.S){ax v:Int}(hΦ:∀μ',R μ' {z with wd:=upd z.wd i (aK ax v (z.wd i))}→Φ .none μ'):az tab (d+1) 69 [.ref (z.loc (3,i)), .int ax, .int v] μ Φ Ψ:=set_size_spec h hi fun μ' h _=>hΦ μ' h
theorem tl_A{y:Z}{ρ:ao}{n i p ax new:Int}(h:R μ y)(nS:n∈y.S)(iS:i∈y.S)(hne:i≠n)(hax:ax=0∨ax=1)(hwn:y.wd n=⟨0,p,0,0,0,0,0⟩)
  (r1:ρ "tree"=some (.ref (y.loc (0,0)))) (r2:ρ "number"=some (.int i)) (r3:ρ "axis"=some (.int ax)) (r6:ρ "new"=some (.int new)) (r8:ρ "model"=some (.ref (y.loc (3,i)))) (r9:ρ "found"=some (.ref (y.loc (3,n))))
  (k:∀m fa,R m {y with loc:=upd y.loc (5,n) fa,wd:=upd y.wd n (aK ax new ⟨0,p,0,0,(y.wd i).wid,(y.wd i).hei,(y.wd i).buf⟩)}→aA (az tab (d+2)) tl_s2 ρ m (bf Φ) Ψ):
  aA (az tab (d+2)) (aJ 4 f_split.body) ρ μ (bf Φ) Ψ:=by
 show aA _ (.cons (.multi [(.attr (.var "found") "width"),(.attr (.var "found") "height")] (.cons (.attr (.var "model") "width") (.cons (.attr (.var "model") "height") .nil))) (.cons (.expr (.meth 93 69 (.var "found") "set_size" (.cons (.var "axis") (.cons (.var "new") .nil)))) (.cons (.expr (.meth 93 69 (.var "found") "set_size" (.cons (.bin .sub (.cst (.int 1)) (.var "axis")) (.cons (.meth 93 62 (.item (.attr (.var "tree") "windows") (.var "number")) "size" (.cons (.bin .sub (.cst (.int 1)) (.var "axis")) .nil)) .nil)))) (.cons (.expr (.meth 93 90 (.var "found") "show" (.cons (.meth 93 83 (.var "model") "shown" .nil) .nil))) (.cons (.assign (.attr (.var "found") "earlier") (.listOf (.attr (.var "model") "earlier"))) tl_s2))))) _ _ _ _
 have wI:∀w,upd y.wd n w i=y.wd i:=fun w=>af _ _ hne
 simp[↓exe r8,↓exe r9,↓exe (h.wWid iS),↓exe (h.wHei iS)]
 refine h.sWid nS _ fun m2 h2 o2=> ?_
 simp[↓exe r9]
 refine R.sHei h2 nS _ fun m3 h3 o3=> ?_
 simp only[upd_self_s,upd_upd] at h3
 simp[↓exe r9,h3.mW' nS (n:="set_size") fun f hf=>hf.m2]
 simp[↓exe r3,↓exe r6]
 refine set_size_ax (d:=d+1) h3 nS fun m4 h4=> ?_
 simp only[upd_self_s,upd_upd] at h4
 simp[↓exe r9,h4.mW' nS (n:="set_size") fun f hf=>hf.m2]
 simp[↓exe r1,↓exe r2,↓exe r3,↓exe h4.aWindows,↓exe (h4.gWin iS),h4.mW' iS (n:="size") fun f hf=>hf.m1]
 refine size_spec (d:=d+1) h4 iS ?_
 simp
 refine set_size_ax (d:=d+1) h4 nS fun m5 h5=> ?_
 simp only[upd_self_s,upd_upd,wI] at h5
 generalize hw5:aK (1 - ax) _ _=w5 at h5
 simp[↓exe r8,↓exe r9,h5.mW' nS (n:="show") fun f hf=>hf.m4]
 simp[h5.mW' iS (n:="shown") fun f hf=>hf.m3]
 refine shown_spec (z:={y with wd:=upd y.wd n w5}) (d:=d+1) h5 iS fun ta hta=> ?_
 simp
 refine show_spec (z:={y with wd:=upd y.wd n w5}) (d:=d+1) (h5.ext ((Ext.refl m5).new hta _)) nS (tuple_ref (aj _ _ _)) fun m7 h7 o7=> ?_
 have h7':R m7 {y with wd:=upd y.wd n (aK ax new ⟨0,p,0,0,(y.wd i).wid,(y.wd i).hei,(y.wd i).buf⟩)}:=by
  refine h7.eq ?_
  simp only[upd_self_s,upd_upd,wI,←hw5,hwn]
  rcases hax with rfl |rfl <;> rfl
 simp[↓exe r8,↓exe r9,↓exe (h7'.wEarly iS),↓exf (aE (h7'.early i iS))]
 refine⟨by decide,fun ca hca=> ?_⟩
 have h8:=h7'.ext ((Ext.refl m7).new hca (some (.list [])))
 exact R.moveE h8 nS (h7'.nl hca) (aj _ _ _) fun m9 h9=>k m9 ca h9
theorem insL_len(l:List Int)(i n:Int)(ah:Bool):(insL l i n ah).length=l.length+1:=by
 unfold insL
 generalize l.idxOf i+(if ah then 0 else 1)=q
 have e:=congrArg List.length (List.take_append_drop q l)
 rw[List.length_append] at e
 rw[List.length_append,List.length_cons,←e];rfl
theorem tl_B{y:Z}{ρ:ao}{n i p:Int}{ah:Bool}(h:R μ y)(nS:n∈y.S)(pS:p∈y.S)(him:i∈y.K p)(hkl:(y.K p).length < 4000)
  (s1:ρ "tree"=some (.ref (y.loc (0,0)))) (s2:ρ "number"=some (.int i)) (s4:ρ "is_ahead"=some (.bool ah)) (s7:ρ "parent"=some (.int p)) (s8:ρ "found"=some (.ref (y.loc (3,n))))
  (k:∀ρ' m,R m {y with K:=upd y.K p (insL (y.K p) i n ah)}→(∀x,x≠"children"→x≠"at"→ρ' x=ρ x)→aA (az tab (d+2)) tl_s3 ρ' m (bf Φ) Ψ):
  aA (az tab (d+2)) tl_s2 ρ μ (bf Φ) Ψ:=by
 have lt:(y.K p).idxOf i < (y.K p).length:=List.idxOf_lt_length_iff.mpr him
 have hlim:(y.K p).length < LIM:=by unfold LIM;lia
 have lp:=aE (h.kids p pS)
 show aA _ (.cons (.assign (.name "children") (.attr (.item (.attr (.var "tree") "windows") (.var "parent")) "children")) (.cons (.assign (.name "at") (.bm .index (.var "children") (.cons (.var "number") .nil))) (.cons (.expr (.bm .insert (.var "children") (.cons (.ite (.var "is_ahead") (.var "at") (.bin .add (.var "at") (.cst (.int 1)))) (.cons (.attr (.var "found") "number") .nil)))) tl_s3))) _ _ _ _
 simp[lp,ok_index,↓exe s1,↓exe s2,↓exe s7,↓exe h.aWindows,↓exe (h.gWin pS),↓exe (h.wKids pS)]
 rw[p_index]
 refine⟨_,y.K p,lp,by simpa using hlim,intsOf_map (y.K p),him,?_⟩
 have fin:∀q:Nat,q=(y.K p).idxOf i+(if ah then 0 else 1)→bmP .insert (.ref (y.loc (4,p))) [.int q, .int n] μ (kE_expr (upd (upd ρ "children" (some (.ref (y.loc (4,p))))) "at" (some (.int ((y.K p).idxOf i)))) (kS_seq (az tab (d+2)) tl_s3 (bf Φ) Ψ)):=fun q e=>by
  subst e
  refine h.insK pS (by split <;> lia) hlim fun m10 h10=>k (upd (upd ρ "children" (some (.ref (y.loc (4,p))))) "at" (some (.int ((y.K p).idxOf i)))) m10 h10 fun x x1 x2=> (af _ _ x2).trans (af _ _ x1)
 simp[lp,ok_insert,↓exe s4]
 cases ah with
 |true=>
  simp[↓exe s8,↓exe (h.wNumber nS)]
  exact fin _ rfl
 |false=>
  simp[↓exe s8,↓exe (h.wNumber nS)]
  exact fin ((y.K p).idxOf i+1) rfl
theorem tl_C{y:Z}{ρ:ao}{n i p ax old:Int}{l:List Int}{w:WD}{kk:F}(h:R μ y)(nS:n∈y.S)(iS:i∈y.S)(pS:p∈y.S)(hs:(y.wd i).sort=0)(hw:y.wd i=w)(hK:y.K p=l)
  (hks:∀c∈l,c∈y.S∧c≠p∧(upd y.wd i (aK ax old w) c).sort≠(upd y.wd i (aK ax old w) p).sort∧(upd y.wd i (aK ax old w) c).par=p) (nd:l.Nodup) (hg:y.gn < 10000) (hl:l.length < 5000)
  (hwk:Wk {y with wd:=upd y.wd i (aK ax old w)} (.node y.root kk .nil)) (hnd:(y.root::ids kk).Nodup) (hkk:av kk+1 < LIM)
  (t1:ρ "tree"=some (.ref (y.loc (0,0)))) (t2:ρ "number"=some (.int i)) (t3:ρ "axis"=some (.int ax)) (t4:ρ "old"=some (.int old)) (t5:ρ "parent"=some (.int p)) (t6:ρ "found"=some (.ref (y.loc (3,n))))
  (hΦ:∀m fa wd',R m {y with loc:=upd y.loc (4,p) fa,wd:=wd'}→only (upd y.wd i (aK ax old w)) wd'→(∀j,j∉y.root::ids kk→wd' j=upd y.wd i (aK ax old w) j)→(wd' y.root).lft=0→(wd' y.root).top=0→Pl wd' (wd' y.root).sort 0 0 kk→Φ (.int n) m):
  aA (az tab (d+2)) tl_s3 ρ μ (bf Φ) Ψ:=by
 simp[tl_s3,aJ,f_split,↓exe t1,↓exe t2,↓exe t3,↓exe t4]
 refine sts_leaf (d:=d) h iS hs fun m11 h11=> ?_
 rw[hw] at h11
 generalize upd y.wd i (aK ax old w)=W at *
 simp[↓exe t1,↓exe t5]
 have jk:joinK {y with wd:=W} p l=l:=flatMap_id fun c hc=>if_neg (hks c hc).2.2.1
 have pk:∀c,c∉popK {y with wd:=W} p l:=fun c hc=> (hks c (List.mem_filter.mp hc).1).2.2.1 (of_decide_eq_true (List.mem_filter.mp hc).2)
 refine joined_spec (z:={y with wd:=W}) (d:=d+1) h11 hK pS (fun c hc=> ⟨(hks c hc).1,(hks c hc).2.1⟩) nd hg (by rw[jk];unfold LIM;lia) (fun c hc=>by rw[jk] at hc;exact⟨(hks c hc).1,pk c⟩) fun m12 fa pp hpp h12=> ?_
 have pp0:pp= []:=List.eq_nil_iff_forall_not_mem.mpr fun c hc=>pk c ((hpp c).mp hc)
 have pa:parAll p l W=W:=by
  funext j
  unfold parAll
  split
  ·rename_i hj
   have:=(hks j hj).2.2.2
   generalize W j=w at this⊢
   cases w;dsimp only at this;replace this:=this.symm;subst this;rfl
  ·rfl
 rw[pp0,rest_nil,jk,pa,upd_id hK] at h12
 have lT:upd y.loc (4,p) fa (0,0)=y.loc (0,0):=af _ _ ((ne1 (by decide)))
 simp[↓exe t1]
 rw[←lT]
 refine set_places_spec (z:={y with loc:=upd y.loc (4,p) fa,wd:=W}) (d:=d) (k:=kk) h12 (Wk_loc.mpr hwk) hnd hkk fun m13 wd' h13 on off c1 c2 c3=> ?_
 have an:=h13.wNumber (i:=n) nS
 dsimp only at an
 rw[show upd y.loc (4,p) fa (3,n)=y.loc (3,n) from af _ _ (by simp)] at an
 simp[↓exe t6,↓exe an]
 exact hΦ m13 fa wd' h13 on off c1 c2 c3
theorem split_tail{ρ:ao}{p ax old new:Int}{ah:Bool}{kk:F}(h:R μ z)(hi:i∈z.S)(hK:z.K i= [])(hs:(z.wd i).sort=0)(hax:ax=0∨ax=1)(hp:p∈z.S)(hpar:(z.wd i).par=p)(hpi:p≠i)(him:i∈z.K p)(hkl:(z.K p).length < 4000)(hn:z.last+1∉z.S)(hg:z.gn < 9990)
  (r1:ρ "tree"=some (.ref (z.loc (0,0)))) (r2:ρ "number"=some (.int i)) (r3:ρ "axis"=some (.int ax)) (r4:ρ "is_ahead"=some (.bool ah)) (r5:ρ "old"=some (.int old)) (r6:ρ "new"=some (.int new)) (r7:ρ "parent"=some (.int p))
  (hks:∀c∈insL (z.K p) i (z.last+1) ah,c∈(z.last+1)::z.S∧c≠p∧((insZ z z.loc i p (z.last+1) ax old new ah).wd c).sort≠(z.wd p).sort∧((insZ z z.loc i p (z.last+1) ax old new ah).wd c).par=p) (nd:(insL (z.K p) i (z.last+1) ah).Nodup)
  (hwk:Wk (insZ z z.loc i p (z.last+1) ax old new ah) (.node z.root kk .nil)) (hnd:(z.root::ids kk).Nodup) (hkk:av kk+1 < LIM)
  (hΦ:∀m ℓ wd',MovW z ℓ→R m {insZ z ℓ i p (z.last+1) ax old new ah with wd:=wd'}→only (insZ z ℓ i p (z.last+1) ax old new ah).wd wd'→(∀j,j∉z.root::ids kk→wd' j=(insZ z ℓ i p (z.last+1) ax old new ah).wd j)→(wd' z.root).lft=0→(wd' z.root).top=0→Pl wd' (wd' z.root).sort 0 0 kk→Φ (.int (z.last+1)) m):
  aA (az tab (d+2)) tl_s1 ρ μ (bf Φ) Ψ:=by
 have hne:i≠z.last+1:=fun e=>hn (e▸hi)
 have hpn:p≠z.last+1:=fun e=>hn (e▸hp)
 have hwl:Wk z (.node i .nil .nil):=⟨hi,hK,hs,trivial,trivial⟩
 have il:(insL (z.K p) i (z.last+1) ah).length < 5000:=by rw[insL_len];lia
 have g1:z.gn+1 < 10000:=by lia
 show aA _ (.cons (.assign (.name "model") (.item (.attr (.var "tree") "windows") (.item (.call (.glob "leaves_under" (.ref 189)) (.cons (.var "tree") (.cons (.var "number") .nil))) (.cst (.int 0))))) (.cons (.assign (.name "found") (.meth 164 119 (.var "tree") "fresh" (.cons (.glob "LEAF" (.int 0)) (.cons (.var "parent") .nil)))) (aJ 4 f_split.body))) _ _ _ _
 simp[↓exe r1,↓exe r2,↓exe h.aWindows]
 refine leaves_under_spec (d:=d+1) h hwl (by simp[av,LIM]) fun m0 a0 he0 _ hl0=> ?_
 have h0:=h.ext he0
 have it0:itemOf m0 (.ref a0) (.int 0)=some (.int i):=item_list (n:=0) hl0 (by simp[lvs]) (by simp[lvs,LIM])
 simp[↓exe r1,↓exe it0,↓exe (h0.gWin hi),↓h0.kT fun f hf=>hf.m1,↓exe r7]
 refine fresh_spec' h0 hn (by lia) fun m1 ℓ mv h1=> ?_
 have lT:ℓ (0,0)=z.loc (0,0):=mv (0,0) (.inr (.inl ((by decide))))
 have lI:ℓ (3,i)=z.loc (3,i):=mv (3,i) (.inl hne)
 have kp:upd z.K (z.last+1) [] p=z.K p:=af _ _ hpn
 have wi:∀w,upd z.wd (z.last+1) w i=z.wd i:=fun w=>af _ _ hne
 refine tl_A (d:=d) h1 (.head _) (.tail _ hi) hne hax (aj _ _ _) (r1.trans (by rw[←lT])) r2 r3 r6 (by rw[←lI];rfl) rfl fun m9 fa h9=> ?_
 dsimp only at h9
 rw[upd_upd,wi] at h9
 have lT2:upd ℓ (5,z.last+1) fa (0,0)=z.loc (0,0):=(af _ _ ((ne1 (by decide)))).trans lT
 have T:ρ "tree"=some (.ref (upd ℓ (5,z.last+1) fa (0,0))):=by rw[lT2];exact r1
 have F:some (MV.ref (ℓ (3,z.last+1)))=some (.ref (upd ℓ (5,z.last+1) fa (3,z.last+1))):=by rw[af ℓ fa (show((3,z.last+1):Slot)≠(5,z.last+1) by simp)]
 refine tl_B (d:=d) h9 (.head _) (.tail _ hp) (show i∈upd z.K _ [] p by rw[kp];exact him) (show List.length (upd z.K _ [] p) < _ by rw[kp];exact hkl) T r2 r4 r7 F fun ρ' m10 h10 hρ=> ?_
 have r:∀x {v},x≠"children"→x≠"at"→x≠"found"→x≠"model"→ρ x=some v→ρ' x=some v:=fun x v x1 x2 x3 x4 e=>by rw[hρ x x1 x2,af _ _ x3,af _ _ x4];exact e
 dsimp only at h10
 rw[kp] at h10
 refine tl_C (d:=d) (l:=insL (z.K p) i (z.last+1) ah) h10 (.head _) (.tail _ hi) (.tail _ hp) (show(upd z.wd _ _ i).sort=0 by rw[wi];exact hs) (wi _) (aj _ _ _) (fun c hc=> ?_) nd g1 il ((Wk_loc (z:=insZ z z.loc i p (z.last+1) ax old new ah)).mpr hwk) hnd hkk (r _ ((by decide)) ((by decide)) ((by decide)) ((by decide)) T) (r _ ((by decide)) ((by decide)) ((by decide)) ((by decide)) r2) (r _ ((by decide)) ((by decide)) ((by decide)) ((by decide)) r3) (r _ ((by decide)) ((by decide)) ((by decide)) ((by decide)) r5) (r _ ((by decide)) ((by decide)) ((by decide)) ((by decide)) r7) ((hρ _ ((by decide)) ((by decide))).trans F) fun m13 fb wd' h13 on off c1 c2 c3=> ?_
 ·refine q6 (hks c hc) fun k1 k2 k3 k4=> ?_
  have e:(upd (upd z.wd (z.last+1) (aK ax new ⟨0,p,0,0,(z.wd i).wid,(z.wd i).hei,(z.wd i).buf⟩)) i (aK ax old (z.wd i)) p).sort=(z.wd p).sort:=by rw[af _ _ hpi,af _ _ hpn]
  rw[e]
  exact⟨k1,k2,k3,k4⟩
 ·exact hΦ m13 _ wd' (fun s hs=> (af _ _ fun e=>by rw[e] at hs;simp at hs).trans ((af _ _ fun e=>by rw[e] at hs;simp at hs).trans (mv s (.inr hs)))) h13 on off c1 c2 c3
end
section
variable{μ μ':MH}{z:Z}{i:Int}{Φ:Pst}{Ψ:Exc}{d:Nat}
noncomputable def oldOf(z:Z)(i ax:Int)(sz:Option Int):Int:=axSz ax (z.wd i) - newSz (axSz ax (z.wd i)) sz
noncomputable def newOf(z:Z)(i ax:Int)(sz:Option Int):Int:=newSz (axSz ax (z.wd i)) sz
theorem split_head(h:R μ z)(hi:i∈z.S)(hK:z.K i= [])(hs:(z.wd i).sort=0){ax:Int}{sz:Option Int}{ah:Bool}
  (hΨ:∀m,Ext μ m→tooSmall ax (axSz ax (z.wd i)) sz→Ψ m)
  (go:∀m ρ,Ext μ m→¬tooSmall ax (axSz ax (z.wd i)) sz→ρ "tree"=some (.ref (z.loc (0,0)))→ρ "number"=some (.int i)→ρ "axis"=some (.int ax)→ρ "is_ahead"=some (.bool ah)→ρ "old"=some (.int (oldOf z i ax sz))→ρ "new"=some (.int (newOf z i ax sz))→
   az tab (d+3) 260 [.ref (z.loc (0,0)), .int i, .int ax] m (fun v m=>aA (az tab (d+3)) tl_s1 (upd ρ "parent" (some v)) m (bf Φ) Ψ) Ψ):az tab (d+4) 267 [.ref (z.loc (0,0)), .int i,optV sz, .int ax, .bool ah] μ Φ Ψ:=by
 refine call_of (fn:=f_split) rfl rfl ?_
 show aA _ (.cons (.unpack [(.name "old"),(.name "new")] (.call (.glob "split_parts" (.ref 253)) (.cons (.var "tree") (.cons (.var "number") (.cons (.var "size") (.cons (.var "axis") .nil)))))) (.cons (.assign (.name "parent") (.call (.glob "combined" (.ref 260)) (.cons (.var "tree") (.cons (.var "number") (.cons (.var "axis") .nil))))) tl_s1)) _ _ _ _
 have g1:bindM f_split.params [.ref (z.loc (0,0)), .int i,optV sz, .int ax, .bool ah] "tree"=some (.ref (z.loc (0,0))):=rfl
 have g2:bindM f_split.params [.ref (z.loc (0,0)), .int i,optV sz, .int ax, .bool ah] "number"=some (.int i):=rfl
 have g3:bindM f_split.params [.ref (z.loc (0,0)), .int i,optV sz, .int ax, .bool ah] "size"=some (optV sz):=rfl
 have g4:bindM f_split.params [.ref (z.loc (0,0)), .int i,optV sz, .int ax, .bool ah] "axis"=some (.int ax):=rfl
 have g5:bindM f_split.params [.ref (z.loc (0,0)), .int i,optV sz, .int ax, .bool ah] "is_ahead"=some (.bool ah):=rfl
 generalize bindM f_split.params [.ref (z.loc (0,0)), .int i,optV sz, .int ax, .bool ah]=ρ0 at *
 simp[↓exe g1,↓exe g2,↓exe g3,↓exe g4]
 refine split_parts_spec (d:=d) h hi hK hs (fun m a he ha hn=> ?_) hΨ
 simp[↓exf (tuple_ref ha),↓exe g1,↓exe g2,↓exe g4]
 exact go m (upd (upd ρ0 "old" (some (.int (oldOf z i ax sz)))) "new" (some (.int (newOf z i ax sz)))) he hn g1 g2 g4 g5 rfl rfl
theorem splitA{p ax:Int}{sz:Option Int}{ah:Bool}{kk:F}(h:R μ z)(hi:i∈z.S)(hK:z.K i= [])(hs:(z.wd i).sort=0)(hax:ax=0∨ax=1)(hp:p∈z.S)(hpar:(z.wd i).par=p)(hp0:p≠0)(ha:(if(z.wd p).sort=2 then(0:Int) else 1)=ax)(hpi:p≠i)(him:i∈z.K p)(hkl:(z.K p).length < 4000)(hn:z.last+1∉z.S)(hg:z.gn < 9990)
  (hks:∀c∈insL (z.K p) i (z.last+1) ah,c∈(z.last+1)::z.S∧c≠p∧((insZ z z.loc i p (z.last+1) ax (oldOf z i ax sz) (newOf z i ax sz) ah).wd c).sort≠(z.wd p).sort∧((insZ z z.loc i p (z.last+1) ax (oldOf z i ax sz) (newOf z i ax sz) ah).wd c).par=p) (nd:(insL (z.K p) i (z.last+1) ah).Nodup)
  (hwk:Wk (insZ z z.loc i p (z.last+1) ax (oldOf z i ax sz) (newOf z i ax sz) ah) (.node z.root kk .nil)) (hnd:(z.root::ids kk).Nodup) (hkk:av kk+1 < LIM)
  (hΨ:∀m,Ext μ m→tooSmall ax (axSz ax (z.wd i)) sz→Ψ m)
  (hΦ:∀m ℓ wd',¬tooSmall ax (axSz ax (z.wd i)) sz→MovW z ℓ→R m {insZ z ℓ i p (z.last+1) ax (oldOf z i ax sz) (newOf z i ax sz) ah with wd:=wd'}→only (insZ z ℓ i p (z.last+1) ax (oldOf z i ax sz) (newOf z i ax sz) ah).wd wd'→(wd' z.root).lft=0→(wd' z.root).top=0→Pl wd' (wd' z.root).sort 0 0 kk→Φ (.int (z.last+1)) m):
  az tab (d+4) 267 [.ref (z.loc (0,0)), .int i,optV sz, .int ax, .bool ah] μ Φ Ψ:=
 split_head h hi hK hs hΨ fun m ρ he hn' r1 r2 r3 r4 r5 r6=>combined_old (d:=d+1) (h.ext he) hi hpar hp0 hp ha
  (split_tail (d:=d+1) (h.ext he) hi hK hs hax hp hpar hpi him hkl hn hg r1 r2 r3 r4 r5 r6 rfl hks nd hwk hnd hkk fun m' ℓ wd' mw a b u_ c1 c2 c3=>hΦ m' ℓ wd' hn' mw a b c1 c2 c3)
theorem splitB{ax:Int}{sz:Option Int}{ah:Bool}{kk:F}(h:R μ z)(hi:i∈z.S)(hK:z.K i= [])(hs:(z.wd i).sort=0)(hax:ax=0∨ax=1)(hn:z.last+1∉z.S)(hn2:z.last+2∉z.S)(hg:z.gn < 9980)(h0:(0:Int)∉z.S)
  (hp:(z.wd i).par=0∨((z.wd i).par∈z.S∧(if(z.wd (z.wd i).par).sort=2 then(0:Int) else 1)≠ax∧i∈z.K (z.wd i).par∧(z.K (z.wd i).par).length < LIM∧(z.wd i).par≠i))
  (hwk:Wk (insZ (wrapZ z z.loc i (z.last+1) ax) z.loc i (z.last+1) (z.last+2) ax (oldOf z i ax sz) (newOf z i ax sz) ah) (.node (if(z.wd i).par=0 then z.last+1 else z.root) kk .nil)) (hnd:((if(z.wd i).par=0 then z.last+1 else z.root)::ids kk).Nodup) (hkk:av kk+1 < LIM)
  (hΨ:∀m,Ext μ m→tooSmall ax (axSz ax (z.wd i)) sz→Ψ m)
  (hΦ:∀m ℓ wd',¬tooSmall ax (axSz ax (z.wd i)) sz→MovW z ℓ→R m {insZ (wrapZ z z.loc i (z.last+1) ax) ℓ i (z.last+1) (z.last+2) ax (oldOf z i ax sz) (newOf z i ax sz) ah with wd:=wd'}→only (insZ (wrapZ z z.loc i (z.last+1) ax) ℓ i (z.last+1) (z.last+2) ax (oldOf z i ax sz) (newOf z i ax sz) ah).wd wd'→
   (wd' (if(z.wd i).par=0 then z.last+1 else z.root)).lft=0→(wd' (if(z.wd i).par=0 then z.last+1 else z.root)).top=0→Pl wd' (wd' (if(z.wd i).par=0 then z.last+1 else z.root)).sort 0 0 kk→Φ (.int (z.last+2)) m):
  az tab (d+4) 267 [.ref (z.loc (0,0)), .int i,optV sz, .int ax, .bool ah] μ Φ Ψ:=by
 have hne:i≠z.last+1:=fun e=>hn (e▸hi)
 have hne2:i≠z.last+2:=fun e=>hn2 (e▸hi)
 have n12:z.last+2≠z.last+1:=by lia
 refine split_head h hi hK hs hΨ fun m ρ he hn' r1 r2 r3 r4 r5 r6=>combined_new (d:=d) (h.ext he) hi hn (by lia) h0 hax hp fun m1 ℓ mv h1=> ?_
 have lT:ℓ (0,0)=z.loc (0,0):=mv.get (.inr (.inl ((by decide))))
 have wi:(wrapZ z ℓ i (z.last+1) ax).wd i={z.wd i with par:=z.last+1}:=aj _ _ _
 have wn:(wrapZ z ℓ i (z.last+1) ax).wd (z.last+1)=⟨if ax=0 then 2 else 1,(z.wd i).par,(z.wd i).lft,(z.wd i).top,(z.wd i).wid,(z.wd i).hei,0⟩:=by
  show upd _ i _ _=_
  rw[af _ _ (Ne.symm hne),aj]
 have kn:(wrapZ z ℓ i (z.last+1) ax).K (z.last+1)= [i]:=aj _ _ _
 have ki:(wrapZ z ℓ i (z.last+1) ax).K i= []:=by
  show upd (if _ then _ else _) (z.last+1) [i] i= []
  rw[af _ _ hne]
  split
  ·exact hK
  ·rename_i q
   refine q3 (hp.resolve_left q) fun q1 q2 q3 q4 q5=> ?_
   rw[af _ _ (Ne.symm q5)];exact hK
 have ins:insL [i] i (z.last+2) ah=if ah then [z.last+2,i] else [i,z.last+2]:=by cases ah <;> simp[insL]
 have m2:(wrapZ z ℓ i (z.last+1) ax).last+1=z.last+2:=by show z.last+1+1=_;lia
 have iS:i∈(wrapZ z ℓ i (z.last+1) ax).S:= .tail _ hi
 have pS:z.last+1∈(wrapZ z ℓ i (z.last+1) ax).S:= .head _
 have sw:(if ax=0 then(2:Int) else 1)≠0:=by split <;> decide
 have wI:∀ℓ',(insZ (wrapZ z ℓ i (z.last+1) ax) ℓ' i (z.last+1) (z.last+2) ax (oldOf z i ax sz) (newOf z i ax sz) ah).wd i=aK ax (oldOf z i ax sz) {z.wd i with par:=z.last+1}:=fun ℓ'=>by
  show upd _ i _ i=_
  rw[aj,wi]
 have wN:∀ℓ',(insZ (wrapZ z ℓ i (z.last+1) ax) ℓ' i (z.last+1) (z.last+2) ax (oldOf z i ax sz) (newOf z i ax sz) ah).wd (z.last+2)=aK ax (newOf z i ax sz) ⟨0,z.last+1,0,0,(z.wd i).wid,(z.wd i).hei,(z.wd i).buf⟩:=fun ℓ'=>by
  show upd (upd _ _ _) i _ _=_
  rw[af _ _ (Ne.symm hne2),aj,wi]
 have sx:∀v w,(aK ax v w).sort=w.sort∧(aK ax v w).par=w.par:=fun v w=>by unfold aK;split <;> exact⟨rfl,rfl⟩
 refine split_tail (d:=d+1) (p:=z.last+1) (ax:=ax) (old:=oldOf z i ax sz) (new:=newOf z i ax sz) (ah:=ah) (kk:=kk) h1 iS ki (by rw[wi];exact hs) hax pS ((congrArg _ wi)) (Ne.symm hne) (by rw[kn];exact .head _) (by rw[kn];simp) ?_ (by show z.gn+1 < 9990;lia) (by simpa[wrapZ,lT] using r1) r2 r3 r4 r5 r6 rfl ?_ ?_ ?_ hnd hkk ?_
 ·rw[m2];intro hm
  rcases List.mem_cons.mp hm with q |q
  ·exact n12 q
  ·exact hn2 q
 ·rw[m2,kn,ins]
  intro c hc
  have hc':c=i∨c=z.last+2:=by cases ah <;> simp at hc <;> lia
  rcases hc' with rfl |rfl
  ·refine⟨.tail _ iS,hne,?_,?_⟩
   ·rw[wI,wn,(sx _ _).1];show(z.wd c).sort≠_;rw[hs];exact Ne.symm sw
   ·rw[wI,(sx _ _).2]
  ·refine⟨.head _,n12,?_,?_⟩
   ·rw[wN,wn,(sx _ _).1];exact Ne.symm sw
   ·rw[wN,(sx _ _).2]
 ·rw[m2,kn,ins]
  cases ah <;> simp[hne2,Ne.symm hne2]
 ·rw[m2]
  exact(Wk_loc (z:=insZ (wrapZ z z.loc i (z.last+1) ax) z.loc i (z.last+1) (z.last+2) ax (oldOf z i ax sz) (newOf z i ax sz) ah) (ℓ:=ℓ)).mpr hwk
 ·rw[m2]
  intro m' ℓ' wd' mw a b _ c1 c2 c3
  exact hΦ m' ℓ' wd' hn' (fun s hs=> (mw s hs).trans (mv s (.inr hs))) a b c1 c2 c3
end
section
variable{μ μ':MH}{z:Z}{i:Int}{Φ:Pst}{Ψ:Exc}{d:Nat}
noncomputable def wayAddr:Int→Addr:=fun w=>if w=0 then 282 else if w=1 then 290 else if w=2 then 298 else 306
noncomputable def wayAx:Int→Int:=fun w=>if w=0∨w=1 then 1 else 0
noncomputable def wayAh:Int→Bool:=fun w=>decide (w=1∨w=3)
theorem split_way{w:Int}(hw:w=0∨w=1∨w=2∨w=3){t n s:MV}(h:az tab (d+4) 267 [t,n,s, .int (wayAx w), .bool (wayAh w)] μ Φ Ψ):az tab (d+5) (wayAddr w) [t,n,s] μ Φ Ψ:=by
 rcases hw with rfl |rfl |rfl |rfl
 ·refine call_of (fn:=f_split_below) rfl rfl ?_
  simp[f_split_below]
  exact h
 ·refine call_of (fn:=f_split_above) rfl rfl ?_
  simp[f_split_above]
  exact h
 ·refine call_of (fn:=f_split_right) rfl rfl ?_
  simp[f_split_right]
  exact h
 ·refine call_of (fn:=f_split_left) rfl rfl ?_
  simp[f_split_left]
  exact h
theorem lifted_many{p:Int}(h:R μ z)(hp:p∈z.S)(hl:(z.K p).length≠1)(hlim:(z.K p).length < LIM)(hΦ:Φ .none μ):az tab (d+1) 313 [.ref (z.loc (0,0)), .int p] μ Φ Ψ:=by
 refine call_of (fn:=f_lifted) rfl rfl ?_
 simp[f_lifted,h.aWindows,h.gWin hp,h.wKids hp,aE (h.kids p hp),hlim]
 rw[kE_iteS_nn (by lia)]
 exact hΦ
noncomputable def upZ(z:Z)(ℓ:Slot→Addr)(p q:Int):Z:=
 {z with loc:=ℓ,root:=if(z.wd p).par=0 then q else z.root,S:=z.S.filter fun j=>decide (j≠p),wd:=upd z.wd q {z.wd q with par:=(z.wd p).par},K:=upd (if(z.wd p).par=0 then z.K else upd z.K (z.wd p).par ((z.K (z.wd p).par).set ((z.K (z.wd p).par).idxOf p) q)) p []}
theorem lifted_one{p q:Int}(h:R μ z)(hp:p∈z.S)(hK:z.K p= [q])(hq:q∈z.S)(hqp:q≠p)(hg:z.gn < 10000)
  (hpp:(z.wd p).par=0∨((z.wd p).par∈z.S∧p∈z.K (z.wd p).par∧(z.K (z.wd p).par).length < LIM∧(z.wd p).par≠p∧(z.wd p).par≠q∧(z.wd p).par≠0))
  (hΦ:(z.wd p).par=0→∀m ℓ,(∀s,s≠(4,p)→ℓ s=z.loc s)→R m (upZ z ℓ p q)→Φ .none m)
  (hJ:(z.wd p).par≠0→∀m ℓ,(∀s,s≠(4,p)→ℓ s=z.loc s)→R m (upZ z ℓ p q)→az tab (d+1) 274 [.ref (z.loc (0,0)), .int (z.wd p).par] m (fun u_ m=>Φ .none m) Ψ):az tab (d+2) 313 [.ref (z.loc (0,0)), .int p] μ Φ Ψ:=by
 refine call_of (fn:=f_lifted) rfl rfl ?_
 have kl:aE (h.kids p hp)=aE (h.kids p hp):=rfl
 have lk:listAt μ (.ref (z.loc (4,p)))=some [.int q]:=by rw[aE (h.kids p hp),hK];rfl
 have it:itemOf μ (.ref (z.loc (4,p))) (.int 0)=some (.int q):=item_list (n:=0) (h.kids p hp) (by rw[hK];rfl) (by rw[hK];simp[LIM])
 show aA _ (.cons (.assign (.name "here") (.item (.attr (.var "tree") "windows") (.var "number"))) (.cons (.ite (.cmp .ne (.len (.attr (.var "here") "children")) (.cst (.int 1))) (.cons .retNone .nil) .nil) (.cons (.assign (.name "left") (.item (.attr (.var "here") "children") (.cst (.int 0)))) (.cons (.expr (.call (.glob "replace_child" (.ref 210)) (.cons (.var "tree") (.cons (.var "number") (.cons (.var "left") .nil))))) (aJ 4 f_lifted.body))))) _ _ _ _
 have tail:∀ρ m rt KK,R m {z with root:=rt,wd:=upd z.wd q {z.wd q with par:=(z.wd p).par},K:=KK}→rt=(if(z.wd p).par=0 then q else z.root)→KK=(if(z.wd p).par=0 then z.K else upd z.K (z.wd p).par ((z.K (z.wd p).par).set ((z.K (z.wd p).par).idxOf p) q))→
   ρ "tree"=some (.ref (z.loc (0,0)))→ρ "number"=some (.int p)→ρ "left"=some (.int q)→ρ "here"=some (.ref (z.loc (3,p)))→aA (az tab (d+1)) (aJ 4 f_lifted.body) ρ m (bf Φ) Ψ:=fun ρ m rt KK h1 ert eK r1 r2 r3 r4=>by
  simp[aJ,f_lifted,↓exe r4]
  refine⟨by decide,fun fa hfa=> ?_⟩
  have h2:=h1.ext ((Ext.refl m).new hfa (some (.list [])))
  refine R.moveK (l:= []) h2 hp (h1.nl hfa) (aj _ _ _) fun m3 h3=> ?_
  have mv:∀s,s≠(4,p)→upd z.loc (4,p) fa s=z.loc s:=fun s hs=>af _ _ hs
  dsimp only at h3
  generalize upd z.loc (4,p) fa=ℓ at *
  have lT:ℓ (0,0)=z.loc (0,0):=mv _ ((ne1 (by decide)))
  have lW:ℓ (1,0)=z.loc (1,0):=mv _ ((ne1 (by decide)))
  have aw:=h3.aWindows
  have ot:=h3.okTab.2
  dsimp only at aw ot
  rw[lT,lW] at aw
  rw[lW] at ot
  simp[ot,↓exe aw,↓exe r1,↓exe r2]
  have dp:=fun Φ' k=>R.dpop (Φ:=Φ') h3 hp hg k
  dsimp only at dp
  rw[lW] at dp
  refine dp _ fun v m4 h4 o4=> ?_
  have qS:q∈z.S.filter fun j=>decide (j≠p):=List.mem_filter.mpr ⟨hq,by simpa using hqp⟩
  have aw4:=h4.aWindows;have gq:=h4.gWin qS;have pq:=h4.wPar qS
  dsimp only at aw4 gq pq
  rw[lT,lW] at aw4
  rw[lW] at gq
  rw[upd_self_s] at pq
  have hz:R m4 (upZ z ℓ p q):=by
   refine h4.eq ?_
   unfold upZ
   rw[ert,eK]
  simp[↓exe aw4,↓exe gq,↓exe pq,↓exe r1,↓exe r3]
  by_cases p0:(z.wd p).par=0
  ·simp[p0];exact hΦ p0 m4 _ mv hz
  ·simp[p0,↓exe aw4,↓exe gq,↓exe pq,↓exe r1,↓exe r3]
   exact hJ p0 m4 _ mv hz
 simp
 simp[f_lifted,LIM,↓exe h.aWindows,↓exe (h.gWin hp),↓exe (h.wKids hp),↓exf lk,↓exe it]
 have hq0:∀pr,upd z.wd q {z.wd q with par:=pr}=upd z.wd q {z.wd q with par:=pr}:=fun u_=>rfl
 by_cases p0:(z.wd p).par=0
 ·refine replace_root (d:=d) h hp hq p0 fun m h1=> ?_
  exact tail (upd (upd (bindM ["tree","number"] [.ref (z.loc (0,0)), .int p]) "here" (some (.ref (z.loc (3,p))))) "left" (some (.int q))) m q z.K (by rw[p0];exact h1) ((if_pos p0).symm) ((if_pos p0).symm) (rfl) (rfl) rfl rfl
 ·refine q4 (hpp.resolve_left p0) fun q1 q2 q3 q4 q5 u_=> ?_
  refine replace_kid (d:=d) h hp hq q1 rfl p0 q2 q3 fun m h1=> ?_
  exact tail (upd (upd (bindM ["tree","number"] [.ref (z.loc (0,0)), .int p]) "here" (some (.ref (z.loc (3,p))))) "left" (some (.int q))) m z.root _ h1 ((if_neg p0).symm) ((if_neg p0).symm) (rfl) (rfl) rfl rfl
end
section
variable{μ μ':MH}{z:Z}{i:Int}{Φ:Pst}{Ψ:Exc}{d:Nat}
noncomputable def otherOf(l:List Int)(i:Int):Int:=l.getD (if 0 < l.idxOf i then l.idxOf i - 1 else 1) 0
noncomputable def axOf(s:Int):Int:=if s=2 then 0 else 1
noncomputable def delS(z:Z)(i p q ax v:Int):Z:=
 {z with S:=z.S.filter fun j=>decide (j≠i),K:=upd z.K p ((z.K p).eraseIdx ((z.K p).idxOf i)),wd:=fun j=>if j=q∨j∈z.K q then aK ax v (z.wd j) else z.wd j}
theorem item_int{μ:MH}{a:Addr}{l:List Int}(h:μ a=some (.list (l.map .int))){n:Nat}(hn:n < l.length)(hl:l.length < LIM):itemOf μ (.ref a) (.int n)=some (.int (l.getD n 0)):=by
 refine item_list h ?_ (by rw[List.length_map];exact hl)
 rw[List.getElem?_map,List.getElem?_eq_getElem hn,List.getD,List.getElem?_eq_getElem hn]
 rfl
theorem eraseIdx_map{l:List Int}(n:Nat):(l.map MV.int).eraseIdx n=(l.eraseIdx n).map .int:=by
 induction l generalizing n with
 |nil=>rfl
 |cons a r ih=>cases n with
  |zero=>rfl
  |succ n=>simp[ih]
theorem delete_head{p:Int}(h:R μ z)(hi:i∈z.S)(hKi:z.K i= [])(hsi:(z.wd i).sort=0)(hp:p∈z.S)(hpar:(z.wd i).par=p)(hp0:p≠0)(hpi:p≠i)(him:i∈z.K p)(hlen:2≤(z.K p).length)(hlim:(z.K p).length < LIM)(hsel:z.sel≠i)(hg:z.gn < 10000)
  (hq:otherOf (z.K p) i∈z.S) (hqi:otherOf (z.K p) i≠i) (hqp:otherOf (z.K p) i≠p)
  (hqk:((z.wd (otherOf (z.K p) i)).sort=0∧z.K (otherOf (z.K p) i)= [])∨((z.wd (otherOf (z.K p) i)).sort≠0∧axOf (z.wd (otherOf (z.K p) i)).sort≠axOf (z.wd p).sort∧(∀c∈z.K (otherOf (z.K p) i),c∈z.S∧c≠i∧(z.wd c).sort=0)∧(z.K (otherOf (z.K p) i)).length < 9000))
  (go:∀m,R m (delS z i p (otherOf (z.K p) i) (axOf (z.wd p).sort) (axSz (axOf (z.wd p).sort) (z.wd (otherOf (z.K p) i))+axSz (axOf (z.wd p).sort) (z.wd i)))→az tab (d+2) 313 [.ref (z.loc (0,0)), .int p] m (fun u_ m=>az tab (d+2) 246 [.ref (z.loc (0,0))] m (fun u_ m=>Φ .none m) Ψ) Ψ):
  az tab (d+3) 327 [.ref (z.loc (0,0)), .int i] μ Φ Ψ:=by
 generalize hqd:otherOf (z.K p) i=q at *
 refine call_of (fn:=cG) rfl rfl ?_
 show aA _ (.cons (.assign (.name "here") (.meth 164 126 (.var "tree") "window" (.cons (.var "number") .nil))) (.cons (.ite (.cmp .eq (.attr (.var "here") "parent") (.cst (.int 0))) (.cons .raise .nil) .nil) (.cons (.assign (.name "parent") (.item (.attr (.var "tree") "windows") (.attr (.var "here") "parent"))) (.cons (.multi [(.name "axis"),(.name "at")] (.cons (.call (.glob "along" (.ref 175)) (.cons (.attr (.var "parent") "sort") .nil)) (.cons (.bm .index (.attr (.var "parent") "children") (.cons (.var "number") .nil)) .nil))) (aJ 4 cG.body))))) _ _ _ _
 have g1:bindM cG.params [.ref (z.loc (0,0)), .int i] "tree"=some (.ref (z.loc (0,0))):=rfl
 have g2:bindM cG.params [.ref (z.loc (0,0)), .int i] "number"=some (.int i):=rfl
 generalize bindM cG.params [.ref (z.loc (0,0)), .int i]=ρ0 at *
 simp[↓h.kT fun f hf=>hf.m2,↓exe g2,↓exe g1]
 refine window_spec (d:=d+1) h hi ?_
 simp[hpar,hp0,↓exe g1,↓exe (h.wPar hi),↓exe h.aWindows,↓exe (h.gWin hp),↓exe (h.wSort hp)]
 refine along_spec (d:=d+1) ?_
 simp[aE (h.kids p hp),ok_index,↓exe g2,↓exe (h.wKids hp)]
 have hax:(if(z.wd p).sort=2 then(0:Int) else 1)=axOf (z.wd p).sort:=rfl
 rw[hax]
 rw[p_index]
 refine⟨_,z.K p,aE (h.kids p hp),by simpa using hlim,intsOf_map _,him,?_⟩
 have lt:(z.K p).idxOf i < (z.K p).length:=List.idxOf_lt_length_iff.mpr him
 have rest:∀ρ,ρ "tree"=some (.ref (z.loc (0,0)))→ρ "number"=some (.int i)→ρ "here"=some (.ref (z.loc (3,i)))→ρ "parent"=some (.ref (z.loc (3,p)))→ρ "axis"=some (.int (axOf (z.wd p).sort))→ρ "at"=some (.int ((z.K p).idxOf i))→
   aA (az tab (d+2)) (aJ 4 cG.body) ρ μ (bf Φ) Ψ:=fun ρ r1 r2 r3 r4 r5 r6=>by
  show aA _ (.cons (.assign (.name "other") (.ite (.cmp .gt (.var "at") (.cst (.int 0))) (.item (.attr (.var "parent") "children") (.bin .sub (.var "at") (.cst (.int 1)))) (.item (.attr (.var "parent") "children") (.cst (.int 1))))) (aJ 5 cG.body)) _ _ _ _
  have rest2:∀ρ,ρ "tree"=some (.ref (z.loc (0,0)))→ρ "number"=some (.int i)→ρ "here"=some (.ref (z.loc (3,i)))→ρ "parent"=some (.ref (z.loc (3,p)))→ρ "axis"=some (.int (axOf (z.wd p).sort))→ρ "other"=some (.int q)→
    aA (az tab (d+2)) (aJ 5 cG.body) ρ μ (bf Φ) Ψ:=fun ρ r1 r2 r3 r4 r5 r6=>by
   show aA _ (.cons (.assign (.name "size") (.bin .add (.meth 93 62 (.item (.attr (.var "tree") "windows") (.var "other")) "size" (.cons (.var "axis") .nil)) (.meth 93 62 (.var "here") "size" (.cons (.var "axis") .nil)))) (.cons (.assign (.name "is_gone") (.isIn (.attr (.var "tree") "selected") (.call (.glob "leaves_under" (.ref 189)) (.cons (.var "tree") (.cons (.var "number") .nil))))) (.cons (.expr (.bm .remove (.attr (.var "parent") "children") (.cons (.var "number") .nil))) (aJ 8 cG.body)))) _ _ _ _
   simp[↓h.kW hq fun f hf=>hf.m1,↓exe r5,↓exe h.aWindows,↓exe r1,↓exe r6,↓exe (h.gWin hq)]
   refine size_spec (d:=d+1) h hq ?_
   simp[↓exe r5,↓exe r3]
   rw[h.mW' hi fun f hf=>hf.m1]
   refine size_spec (d:=d+1) h hi ?_
   simp[↓exe r1]
   have hz1:(if axOf (z.wd p).sort=0 then(z.wd q).wid else(z.wd q).hei)=axSz (axOf (z.wd p).sort) (z.wd q):=rfl
   have hz2:(if axOf (z.wd p).sort=0 then(z.wd i).wid else(z.wd i).hei)=axSz (axOf (z.wd p).sort) (z.wd i):=rfl
   rw[hz1,hz2]
   generalize hv:axSz (axOf (z.wd p).sort) (z.wd q)+axSz (axOf (z.wd p).sort) (z.wd i)=v at *
   simp[↓exe r1,↓exe r2,↓exe h.aSel]
   have hwl:Wk z (.node i .nil .nil):=⟨hi,hKi,hsi,trivial,trivial⟩
   refine leaves_under_spec (d:=d+1) h hwl (by simp[av,LIM]) fun m0 a0 he0 u_ hl0=> ?_
   simp
   have h0:=h.ext he0
   simp[int_of,↓exf (aE hl0)]
   refine⟨[i],by have:=intsOf_map [i];simpa[lvs] using this,?_⟩
   simp[hsel,aE (h0.kids p hp),ok_remove,↓exe r4,↓exe r2,↓exe (h0.wKids hp)]
   rw[p_remove]
   refine⟨_,z.K p,aE (h0.kids p hp),by simpa using hlim,intsOf_map _,him,?_⟩
   rw[eraseIdx_map]
   have h1:=h0.setK hp ((z.K p).eraseIdx ((z.K p).idxOf i))
   generalize upd m0 (z.loc (4,p)) (some (.list (((z.K p).eraseIdx ((z.K p).idxOf i)).map .int)))=m1 at *
   simp[aJ,cG,↓exe r1,↓exe r2]
   refine forget_leaf (z:={z with K:=upd z.K p ((z.K p).eraseIdx ((z.K p).idxOf i))}) (d:=d) h1 hi (by show upd z.K _ _ i=_;rw[af _ _ (Ne.symm hpi)];exact hKi) hg fun m2 h2=> ?_
   simp[↓exe r1,↓exe r5,↓exe r6]
   dsimp only at h2
   have qS:q∈z.S.filter fun j=>decide (j≠i):=List.mem_filter.mpr ⟨hq,by simpa using hqi⟩
   have pS:p∈z.S.filter fun j=>decide (j≠i):=List.mem_filter.mpr ⟨hp,by simpa using hpi⟩
   have kq:upd z.K p ((z.K p).eraseIdx ((z.K p).idxOf i)) q=z.K q:=af _ _ hqp
   have fin:∀m3,R m3 (delS z i p q (axOf (z.wd p).sort) v)→∀ρ',ρ' "tree"=some (.ref (z.loc (0,0)))→ρ' "parent"=some (.ref (z.loc (3,p)))→ρ' "is_gone"=some (.bool false)→aA (az tab (d+2)) (aJ 10 cG.body) ρ' m3 (bf Φ) Ψ:=fun m3 h3 ρ' u1 u2 u3=>by
    have w:=h3.wNumber (i:=p) pS
    have e:(delS z i p q (axOf (z.wd p).sort) v).loc=z.loc:=rfl
    rw[e] at w
    have e2:kE_expr ρ' (kS_seq (az tab (d+2)) (aJ 12 cG.body) (bf Φ) Ψ)=fun u_ m=>Φ .none m:=by
     funext x m;simp[aJ,cG,↓exe u3]
    have e1:kE_expr ρ' (kS_seq (az tab (d+2)) (aJ 11 cG.body) (bf Φ) Ψ)=fun u_ m=>az tab (d+2) 246 [.ref (z.loc (0,0))] m (fun u_ m=>Φ .none m) Ψ:=by
     funext x m;rw[←e2];simp[aJ,cG,↓exe u1]
    have g:=go m3 h3
    rw[←e1] at g
    simp[aJ,cG,↓exe u1,↓exe u2,↓exe w]
    exact g
   rcases hqk with⟨s0,k0⟩ |⟨s0,ha,hks,hkl⟩
   ·refine sts_leaf (d:=d) h2 qS s0 fun m3 h3=> ?_
    refine fin m3 (h3.eq ?_) _ r1 r4 rfl
    unfold delS
    congr 1
    funext j
    by_cases e:j=q
    ·replace e:=e.symm;subst e;simp
    ·simp[e,af _ _ e,k0]
   ·refine sts_box (d:=d) (ks:=z.K q) h2 qS kq (fun c hc=> ⟨List.mem_filter.mpr ⟨(hks c hc).1,by simpa using(hks c hc).2.1⟩,(hks c hc).2.2⟩) s0 ha hkl fun m3 h3=> ?_
    exact fin m3 h3 _ r1 r4 rfl
  simp[↓exe r6]
  by_cases q0:0 < (z.K p).idxOf i
  ·have q0':((z.K p).idxOf i:Int) > 0:=by lia
   have e1:((z.K p).idxOf i:Int) - 1=(((z.K p).idxOf i - 1:Nat):Int):=by lia
   simp[q0,↓exe (h.wKids hp),↓exe r4,↓exe r6]
   rw[e1]
   have it:=item_int (h.kids p hp) (n:=(z.K p).idxOf i - 1) (by lia) hlim
   simp[↓exe it]
   have eq:(z.K p).getD ((z.K p).idxOf i - 1) 0=q:=by rw[←hqd,otherOf,if_pos q0]
   simp[List.getD] at eq
   simp[eq]
   exact rest2 _ r1 r2 r3 r4 r5 rfl
  ·have q0':¬((z.K p).idxOf i:Int) > 0:=by lia
   have e0:(z.K p).idxOf i=0:=by lia
   simp[e0,↓exe (h.wKids hp),↓exe r4]
   have it:=item_int (h.kids p hp) (n:=1) (by lia) hlim
   have it':itemOf μ (.ref (z.loc (4,p))) (.int 1)=some (.int ((z.K p).getD 1 0)):=it
   rw[it']
   have eq:(z.K p).getD 1 0=q:=by rw[←hqd,otherOf,if_neg q0]
   rw[eq]
   simp
   exact rest2 _ r1 r2 r3 r4 r5 rfl
 exact And.intro rfl (rest (upd (upd (upd (upd ρ0 "here" (some (.ref (z.loc (3,i))))) "parent" (some (.ref (z.loc (3,p))))) "axis" (some (.int (axOf (z.wd p).sort)))) "at" (some (.int ((z.K p).idxOf i)))) g1 g2 rfl rfl rfl rfl)
end
section
variable{μ μ':MH}{z:Z}{i:Int}{Φ:Pst}{Ψ:Exc}{d:Nat}
theorem R.gBox(h:R μ z)(hi:i∈z.L){k:Str}{v:MV}(hv:∀f,BoxF z.loc i (z.bd i) f→f k=some v):itemOf μ (.ref (z.loc (6,i))) (.str k)=some v:=by
 refine q18 (h.box i hi) fun f n e u_ hf=> ?_
 exact(item_of e).trans (hv f hf)
theorem R.bSort(h:R μ z)(hi:i∈z.L):itemOf μ (.ref (z.loc (6,i))) (.str (Str.ofString "sort"))=some (.str (bV (z.bd i).kind)):=h.gBox hi fun f hf=>hf.sort
theorem R.bParts(h:R μ z)(hi:i∈z.L):itemOf μ (.ref (z.loc (6,i))) (.str (Str.ofString "parts"))=some (.ref (z.loc (7,i))):=h.gBox hi fun f hf=>hf.parts
theorem R.bRow(h:R μ z)(hi:i∈z.L)(hk:(z.bd i).kind=0):itemOf μ (.ref (z.loc (6,i))) (.str (Str.ofString "row"))=some (.int (z.bd i).row):=h.gBox hi fun f hf=>hf.row hk
theorem R.bCol(h:R μ z)(hi:i∈z.L)(hk:(z.bd i).kind=0):itemOf μ (.ref (z.loc (6,i))) (.str (Str.ofString "column"))=some (.int (z.bd i).col):=h.gBox hi fun f hf=>hf.col hk
theorem R.bBuf(h:R μ z)(hi:i∈z.L)(hk:(z.bd i).kind=0):itemOf μ (.ref (z.loc (6,i))) (.str (Str.ofString "buffer"))=some (.int (z.bd i).buf):=h.gBox hi fun f hf=>hf.buf hk
theorem R.bNum(h:R μ z)(hi:i∈z.L)(hk:(z.bd i).kind=0):itemOf μ (.ref (z.loc (6,i))) (.str (Str.ofString "number"))=some (.int (z.bd i).num):=h.gBox hi fun f hf=>hf.num hk
theorem kind_leaf{k:Int}(h:k=0∨k=1∨k=2):(bV k==Str.ofString "leaf")=decide (k=0):=by
 rcases h with rfl |rfl |rfl <;> decide
theorem kind_row{k:Int}(h:k=0∨k=1∨k=2):(bV k==Str.ofString "row")=decide (k=2):=by
 rcases h with rfl |rfl |rfl <;> decide
theorem draw_raw{D:Addr}{l:List Int}(hD:μ D=some (.list (l.map .int))){many:Int}(hm:0 < many)(hm':many < 1000000000)(hl:l.length < LIM)(hΦ:∀(v:Int) (m:MH) (r:List Int),0≤v→v < many→r.length≤l.length→m D=some (.list (r.map .int))→(∀x,x≠D→m x=μ x)→Φ (.int v) m):az tab (d+1) 334 [.ref D, .int many] μ Φ Ψ:=by
 refine call_of (fn:=f__law_draw) rfl rfl ?_
 cases l with
 |nil=>
  simp[f__law_draw,↓exf (aE hD)]
  exact hΦ 0 μ [] (Int.le_refl _) hm (Nat.zero_le _) hD fun u_ u_=>rfl
 |cons x r=>
  have dk:μ D=some (.list (.int x::r.map .int)):=hD
  simp[f__law_draw,aE dk,ok_popAt,↓exf (aE dk)]
  rw[p_popAt]
  refine⟨_,0, .int x,aE dk,by simpa using hl,?_,rfl,?_⟩
  ·unfold pyIdx
   rw[if_neg (by simp at hl;simp;lia),if_pos ⟨by decide,by simp⟩];rfl
  ·have hb:binOf .mod (.int x) (.int many)=some (.int (Int.fmod x many)):=if_pos ⟨hm,hm'⟩
   simp[k_of hb]
   exact hΦ _ _ r (Int.fmod_nonneg_of_pos _ hm) (Int.fmod_lt_of_pos _ hm) (by simp) (aj _ _ _) fun y hy=>af _ _ hy
noncomputable def Lk(z:Z):F→Prop
 | .nil=>True
 | .node i k r=>i∈z.L∧z.P i=tops k∧SrtOk (z.bd i).kind k∧(tops k).length≤90∧Lk z k∧Lk z r
theorem srt3{s:Int}{k:F}(h:SrtOk s k):s=0∨s=1∨s=2:=by cases k <;> simp[SrtOk] at h <;> lia
theorem srt0{s:Int}{k:F}(h:SrtOk s k):s=0↔k= .nil:=by
 cases k with
 |nil=>simp[SrtOk] at h;simp[h]
 |node=>
  simp only[SrtOk] at h
  constructor
  ·intro e;lia
  ·intro e;cases e
noncomputable abbrev Way:=List (Int×Nat)
noncomputable def WayAt(z:Z)(μ:MH)(w:Addr)(way:Way):Prop:=∃ts:List Addr,μ w=some (.list (ts.map .ref))∧L2 (fun u_=>True) μ ts (way.map fun e=> [.ref (z.loc (6,e.1)), .int e.2])
noncomputable def lvw:Way→Int→Nat→F→List (Int×Way)
 |_,_,_, .nil=> []
 |w,p,n, .node i .nil r=> (i,w++ [(p,n)])::lvw w p (n+1) r
 |w,p,n, .node i (.node j k s) r=>lvw (w++ [(p,n)]) i 0 (.node j k s)++lvw w p (n+1) r
noncomputable def lw(way:Way)(i:Int):F→List (Int×Way)
 | .nil=> [(i,way)]
 | .node j k s=>lvw way i 0 (.node j k s)
theorem lvw_node(w:Way)(p:Int)(n:Nat)(i:Int)(k r:F):lvw w p n (.node i k r)=lw (w++ [(p,n)]) i k++lvw w p (n+1) r:=by
 cases k <;> simp[lvw,lw]
set_option genInjectivity false in structure We where
 i:Int
 k:F
 way:Way
 w:Addr
noncomputable def wTup(z:Z)(e:We):List MV:= [.ref (z.loc (6,e.i)), .ref e.w]
noncomputable def wSz(P:List We):Nat:=(P.map fun e=>1+av e.k).sum
theorem wSz_len(P:List We):P.length≤wSz P:=by
 induction P with
 |nil=>simp
 |cons e P ih=>simp only[wSz,List.map_cons,List.sum_cons,List.length_cons] at *;lia
theorem WayAt.keep{μ m:MH}{w:Addr}{way:Way}(h:WayAt z μ w way)(hk:∀x o,μ x=some o→(x=w∨∃t,o= .tuple t)→m x=some o):WayAt z m w way:=by
 refine q17 h fun ts h1 h2=> ?_
 exact⟨ts,hk _ _ h1 (.inl rfl),h2.chg fun x t u_ e=> (hk x _ e (.inr ⟨t,rfl⟩)).trans e.symm⟩
theorem L2.snoc{Q:Addr→Prop}{μ:MH}{a:Addr}{t:List MV}(ha:Q a)(e:μ a=some (.tuple t)):∀{as:List Addr} {ts:List (List MV)},L2 Q μ as ts→L2 Q μ (as++ [a]) (ts++ [t])
 |_,_, .nil=> .cons ha e .nil
 |_,_, .cons h e' r=> .cons h e' (r.snoc ha e)
inductive Fnd(z:Z)(μ:MH)(bad:Addr→Prop):List Addr→List (Int×Way)→Prop
 |nil:Fnd z μ bad [] []
 |cons {a w:Addr} {i:Int} {way:Way} {as:List Addr} {ls:List (Int×Way)}:μ a=some (.tuple [.ref (z.loc (6,i)), .ref w])→WayAt z μ w way→¬bad w→Fnd z μ bad as ls→Fnd z μ bad (a::as) ((i,way)::ls)
theorem Fnd.keep{μ m:MH}{bad:Addr→Prop}(hk:∀x o,μ x=some o→¬bad x∨(∃t,o= .tuple t)→m x=some o):∀{as:List Addr} {ls:List (Int×Way)},Fnd z μ bad as ls→Fnd z m bad as ls
 |_,_, .nil=> .nil
 |_,_, .cons e w b r=> .cons (hk _ _ e (.inr ⟨_,rfl⟩)) (w.keep fun x o h hx=>hk x o h (hx.imp (fun q=>by rw[q];exact b) id)) b (r.keep hk)
theorem Fnd.snoc{μ:MH}{bad:Addr→Prop}{a w:Addr}{i:Int}{way:Way}(e:μ a=some (.tuple [.ref (z.loc (6,i)), .ref w]))(hw:WayAt z μ w way)(hb:¬bad w):∀{as:List Addr} {ls:List (Int×Way)},Fnd z μ bad as ls→Fnd z μ bad (as++ [a]) (ls++ [(i,way)])
 |_,_, .nil=> .cons e hw hb .nil
 |_,_, .cons e' w' b r=> .cons e' w' b (r.snoc e hw hb)
theorem Fnd.get{μ:MH}{bad:Addr→Prop}:∀{as:List Addr} {ls:List (Int×Way)} {n:Nat} {i:Int} {way:Way},Fnd z μ bad as ls→ls[n]? =some (i,way)→∃a w,as[n]? =some a∧μ a=some (.tuple [.ref (z.loc (6,i)), .ref w])∧WayAt z μ w way
 |_,_,n,_,_, .nil,h=>by simp at h
 |_,_,0,_,_, .cons e w b r,h=>by simp at h;obtain⟨rfl,rfl⟩:=h;exact⟨_,_,rfl,e,w⟩
 |_,_,n+1,_,_, .cons e w b r,h=>by simpa using r.get h
theorem Fnd.len{μ:MH}{bad:Addr→Prop}:∀{as:List Addr} {ls:List (Int×Way)},Fnd z μ bad as ls→as.length=ls.length
 |_,_, .nil=>rfl
 |_,_, .cons _ _ _ r=>by simp[r.len]
end
noncomputable def KeepB(bad:Addr→Prop)(μ m:MH):Prop:=∀x o,μ x=some o→(¬bad x∨∃t,o=MO.tuple t)→m x=some o
theorem KeepB.trans{bad:Addr→Prop}{μ m m':MH}(h:KeepB bad μ m)(h':KeepB bad m m'):KeepB bad μ m':=fun x o e q=>h' x o (h x o e q) q
theorem KeepB.new{bad:Addr→Prop}{μ m:MH}{b:Addr}(hb:μ b=none)(o:∀x,x≠b→m x=μ x):KeepB bad μ m:=fun x ob e u_=>by
 rw[o x (ne_nb e hb)];exact e
theorem KeepB.chg{bad:Addr→Prop}{μ m:MH}{b:Addr}{l:List MV}(hb:μ b=some (.list l))(hbad:bad b)(o:∀x,x≠b→m x=μ x):KeepB bad μ m:=fun x ob e q=>by
 rw[o x fun r=>by
  subst r
  rcases q with q |⟨t,rfl⟩
  ·exact q hbad
  ·rw[hb] at e;cases e]
 exact e
noncomputable def wspec:Way→Int→Nat→F→List (Int×F×Way)
 |_,_,_, .nil=> []
 |w,p,n, .node i k r=> (i,k,w++ [(p,n)])::wspec w p (n+1) r
theorem wspec_len(w:Way)(p:Int)(n:Nat)(k:F):(wspec w p n k).length=(tops k).length:=by
 induction k generalizing n with
 |nil=>rfl
 |node i k r _ ih=>simp[wspec,tops,ih]
theorem wspec_get(w:Way)(p:Int)(n:Nat)(k:F)(j:Nat)(hj:j < (tops k).length):∃kc,(wspec w p n k)[j]? =some ((tops k).getD j 0,kc,w++ [(p,n+j)]):=by
 induction k generalizing n j with
 |nil=>simp[tops] at hj
 |node i k r _ ih=>
  cases j with
  |zero=>exact⟨k,by simp[wspec,tops]⟩
  |succ j=>
   obtain⟨kc,e⟩:=ih (n+1) j (by simpa[tops] using hj)
   refine⟨kc,?_⟩
   have e2:n+1+j=n+(j+1):=by lia
   rw[e2] at e
   simpa[wspec,tops] using e
theorem wspec_lw(w:Way)(p:Int)(n:Nat)(k:F):(wspec w p n k).flatMap (fun e=>lw e.2.2 e.1 e.2.1)=lvw w p n k:=by
 induction k generalizing n with
 |nil=>rfl
 |node i k r _ ih=>rw[lvw_node,wspec,List.flatMap_cons,ih]
theorem wspec_sz(w:Way)(p:Int)(n:Nat)(k:F):((wspec w p n k).map fun e=>1+av e.2.1).sum=av k:=by
 induction k generalizing n with
 |nil=>rfl
 |node i k r _ ih=>simp only[wspec,List.map_cons,List.sum_cons,av,ih]
theorem wspec_lk{z:Z}{w:Way}{p:Int}{n:Nat}{k:F}(h:Lk z k):∀e∈wspec w p n k,Lk z (.node e.1 e.2.1 .nil):=by
 induction k generalizing n with
 |nil=>intro e he;cases he
 |node i k r _ ih=>
  refine q4 h fun a b c c' e1 e2=> ?_
  intro e he
  rcases List.mem_cons.mp he with rfl |he
  ·exact⟨a,b,c,c',e1,trivial⟩
  ·exact ih e2 e he
noncomputable def spec3(e:We):Int×F×Way:=(e.i,e.k,e.way)
theorem ap_cons(m:Nat):ap ((m+1:Nat) - 1:Int) (-1) (m+1)=(m:Int)::ap ((m:Nat) - 1:Int) (-1) m:=by
 show((m+1:Nat) - 1:Int)::ap (((m+1:Nat) - 1:Int)+ -1) (-1) m=_
 have e1:((m+1:Nat) - 1:Int)=m:=by lia
 rw[e1];rfl
section
variable{μ μ':MH}{z:Z}{i:Int}{Φ:Pst}{Ψ:Exc}{d:Nat}
theorem ll_push{C:aB}{T:FPst}{μ0:MH}(h:R μ0 z){fa wa:Addr}(hfa:μ0 fa=none)(hwa:μ0 wa=none)(hne:fa≠wa){k:F}(hi:i∈z.L)(hP:z.P i=tops k){way:Way}{w:Addr}(hbw:¬(w=fa∨w=wa))(hkl:(tops k).length≤90)(hwl:way.length < 1000){P:List We}(hPl:P.length < 9000):∀(m:Nat),m≤(tops k).length→∀(E:List We) (ρ:ao) (μ:MH),E.map spec3=(wspec way i 0 k).drop m→Ext μ0 μ→WayAt z μ w way→
  (∀e∈E,WayAt z μ e.w e.way∧¬(e.w=fa∨e.w=wa))→(∃l,μ fa=some (.list l))→Stk (fun a=>μ0 a=none) μ wa ((E++P).map (wTup z))→ρ "waiting"=some (.ref wa)→ρ "own"=some (.ref (z.loc (6,i)))→ρ "way"=some (.ref w)→ρ "found"=some (.ref fa)→
  (∀ρ' m E,E.map spec3=wspec way i 0 k→Ext μ0 m→KeepB (fun x=>x=fa∨x=wa) μ m→m fa=μ fa→(∀e∈E,WayAt z m e.w e.way∧¬(e.w=fa∨e.w=wa))→Stk (fun a=>μ0 a=none) m wa ((E++P).map (wTup z))→ρ' "waiting"=some (.ref wa)→ρ' "found"=some (.ref fa)→T .next ρ' m)→
  frL C "nth" lb__law_leaves_1 T (ap ((m:Nat) - 1:Int) (-1) m) ρ μ:=by
 intro m
 induction m with
 |zero=>
  intro hm E ρ μ hE he hw hEw hfl S r1 r2 r3 r4 hT
  show frL C "nth" lb__law_leaves_1 T [] ρ μ
  rw[frL_nil]
  exact hT ρ μ E hE he (fun x o e u_=>e) rfl hEw S r1 r4
 |succ m ih=>
  intro hm E ρ μ hE he hw hEw hfl S r1 r2 r3 r4 hT
  rw[ap_cons,frL_cons]
  obtain⟨kc,ek⟩:=wspec_get way i 0 k m (by lia)
  refine q1 S.some_ fun xs x1=> ?_
  have hμ:=h.ext he
  refine q17 hw fun wts w1 w2=> ?_
  have lk:=w2.len
  have pi:μ (z.loc (7,i))=some (.list ((z.P i).map fun j=> .ref (z.loc (6,j)))):=hμ.parts i hi
  have itP:itemOf μ (.ref (z.loc (7,i))) (.int m)=some (.ref (z.loc (6,(tops k).getD m 0))):=by
   have hmt:m < (tops k).length:=by lia
   refine item_list pi ?_ (by rw[List.length_map,hP];unfold LIM;lia)
   rw[hP,List.getElem?_map,List.getElem?_eq_getElem hmt,List.getD,List.getElem?_eq_getElem hmt]
   rfl
  generalize hc:(tops k).getD m 0=c at *
  simp[lb__law_leaves_1,ok_append,aE x1,↓exe r1,↓exe r2,↓exe r3,↓exe (hμ.bParts hi),↓exe itP]
  refine⟨by decide,fun ta hta=> ⟨by decide,fun la hla=> ?_⟩⟩
  generalize hm1:upd μ ta (some (.tuple [.ref (z.loc (6,i)), .int m]))=m1 at *
  have o1:∀x,x≠ta→m1 x=μ x:=fun x hx=>by rw[←hm1,af _ _ hx]
  have t1:m1 ta=some (.tuple [.ref (z.loc (6,i)), .int m]):=by rw[←hm1,aj]
  generalize hm2:upd m1 la (some (.list [.ref ta]))=m2 at *
  have o2:∀x,x≠la→m2 x=m1 x:=fun x hx=>by rw[←hm2,af _ _ hx]
  have l2:m2 la=some (.list [.ref ta]):=by rw[←hm2,aj]
  have k1:Ext μ m1:=(Ext.refl μ).chg hta o1
  have k2:Ext μ m2:=k1.chg (k1.none hla) o2
  have w1':m2 w=some (.list (wts.map .ref)):=k2 _ _ w1
  refine⟨_,aE w1',_,aE l2,by simp[LIM];rw[lk];simp;lia,by simp[LIM],fun wn hwn=> ⟨by simp[LIM],fun tb htb=> ?_⟩⟩
  generalize hm3:upd m2 wn (some (.list (wts.map .ref++ [.ref ta])))=m3 at *
  have o3:∀x,x≠wn→m3 x=m2 x:=fun x hx=>by rw[←hm3,af _ _ hx]
  have n3:m3 wn=some (.list ((wts++ [ta]).map .ref)):=by rw[←hm3,aj];simp
  have k3:Ext μ m3:=k2.chg (k2.none hwn) o3
  generalize hm4:upd m3 tb (some (.tuple [.ref (z.loc (6,c)), .ref wn]))=m4 at *
  have o4:∀x,x≠tb→m4 x=m3 x:=fun x hx=>by rw[←hm4,af _ _ hx]
  have t4:m4 tb=some (.tuple [.ref (z.loc (6,c)), .ref wn]):=by rw[←hm4,aj]
  have k4:Ext μ m4:=k3.chg (k3.none htb) o4
  have e23:Ext m2 m4:=((Ext.refl m2).chg hwn o3).chg (((Ext.refl m2).chg hwn o3).none htb) o4
  have e34:Ext m3 m4:=(Ext.refl m3).chg htb o4
  have e12:Ext m1 m2:=(Ext.refl m1).chg hla o2
  have mb:∀{x},μ x=none→μ0 x=none:=fun hx=>he.none hx
  have wn0:μ wn=none:=k2.none hwn
  have wnb:¬(wn=fa∨wn=wa):=fun q=>by
   rcases q with q |q
   ·refine q1 hfl fun l e=> ?_
    rw[q,e] at wn0;exact absurd wn0.symm nn
   ·rw[q,x1] at wn0;exact absurd wn0.symm nn
  have S4:Stk (fun a=>μ0 a=none) m4 wa ((E++P).map (wTup z)):=S.chg ((k4 _ _ x1).trans x1.symm) fun x t u_ e=> (k4 _ _ e).trans e.symm
  have wa4:WayAt z m4 wn (way++ [(i,m)]):=by
   refine⟨wts++ [ta],e34 _ _ n3,?_⟩
   rw[List.map_append]
   exact L2.snoc trivial (e23 _ _ (e12 _ _ t1)) (w2.chg fun x t u_ e=> (k4 _ _ e).trans e.symm)
  have wel:E.length≤90:=by
   have:E.length=((wspec way i 0 k).drop (m+1)).length:=by rw[←hE];simp
   rw[this,List.length_drop,wspec_len];lia
  have S4':Stk (fun a=>μ0 a=none) m4 wa (((E++P).map (wTup z))):=S4
  refine S4'.push (mb (k3.none htb)) t4 (by simp[LIM];lia) fun m5 o5 S5=> ?_
  simp
  have kb5:KeepB (fun x=>x=fa∨x=wa) m4 m5:=KeepB.chg (l:=xs) (k4 _ _ x1) (.inr rfl) o5
  have kb04:KeepB (fun x=>x=fa∨x=wa) μ m4:=fun x o e u_=>k4 x o e
  have kb:KeepB (fun x=>x=fa∨x=wa) μ m5:=kb04.trans kb5
  have way5:∀{u wy},¬(u=fa∨u=wa)→WayAt z m4 u wy→WayAt z m5 u wy:=fun hu hh=>hh.keep fun x o e hx=>kb5 x o e (hx.imp (fun q=>by rw[q];exact hu) id)
  have way04:∀{u wy},WayAt z μ u wy→WayAt z m4 u wy:=fun hh=>hh.keep fun x o e hx=>k4 x o e
  refine q1 hfl fun lf elf=> ?_
  have f5:m5 fa=μ fa:=by rw[o5 fa hne,elf];exact k4 _ _ elf
  have hd:(wspec way i 0 k).drop m=(c,kc,way++ [(i,0+m)])::(wspec way i 0 k).drop (m+1):=by
   have hl:m < (wspec way i 0 k).length:=by rw[wspec_len];lia
   rw[List.drop_eq_getElem_cons hl]
   rw[List.getElem?_eq_getElem hl] at ek
   rw[Option.some.inj ek]
  refine ih (by lia) (⟨c,kc,way++ [(i,m)],wn⟩::E) _ m5 ?_ ((he.trans k4).chg hwa o5) (way5 hbw (way04 ⟨wts,w1,w2⟩)) (fun e hh=> ?_) ⟨lf,f5.trans elf⟩ (by simpa[wTup] using S5) r1 r2 r3 r4 fun ρ' m' E' a1 a2 a3 a4 a5 a6 a7 a8=>hT ρ' m' E' a1 a2 (kb.trans a3) (a4.trans f5) a5 a6 a7 a8
  ·rw[hd,List.map_cons,hE,Nat.zero_add];rfl
  ·rcases List.mem_cons.mp hh with rfl |hh
   ·exact⟨way5 wnb wa4,wnb⟩
   ·exact⟨way5 (hEw e hh).2 (way04 (hEw e hh).1),(hEw e hh).2⟩
end
section
variable{μ μ':MH}{z:Z}{i:Int}{Φ:Pst}{Ψ:Exc}{d:Nat}
theorem E_flat{E:List We}{L:List (Int×F×Way)}(h:E.map spec3=L):E.flatMap (fun e=>lw e.way e.i e.k)=L.flatMap fun e=>lw e.2.2 e.1 e.2.1:=by
 subst h
 rw[List.flatMap_map]
 rfl
theorem E_sz{E:List We}{L:List (Int×F×Way)}(h:E.map spec3=L):wSz E=(L.map fun e=>1+av e.2.1).sum:=by
 subst h
 unfold wSz
 rw[List.map_map]
 rfl
theorem wspec_way{w:Way}{p:Int}{n:Nat}{k:F}:∀e∈wspec w p n k,e.2.2.length=w.length+1∧av e.2.1 < av k:=by
 induction k generalizing n with
 |nil=>intro e he;cases he
 |node i k r _ ih=>
  intro e he
  rcases List.mem_cons.mp he with rfl |he
  ·exact⟨by simp,by simp only[av];lia⟩
  ·obtain⟨a,b⟩:=ih e he
   exact⟨a,by simp only[av];lia⟩
noncomputable def hereL(i:Int)(way:Way):F→List (Int×Way)
 | .nil=> [(i,way)]
 | .node _ _ _=> []
theorem ll_loop{C:aB}{T:FPst}{μ0:MH}(h:R μ0 z){fa wa:Addr}(hfa:μ0 fa=none)(hwa:μ0 wa=none)(hne:fa≠wa)(n:Nat):∀(P:List We) (as:List Addr) (fs:List (Int×Way)) (ρ:ao) (μ:MH),wSz P≤n→Ext μ0 μ→μ fa=some (.list (as.map .ref))→Fnd z μ (fun x=>x=fa∨x=wa) as fs→Stk (fun a=>μ0 a=none) μ wa (P.map (wTup z))→
  (∀e∈P,Lk z (.node e.i e.k .nil)∧WayAt z μ e.w e.way∧¬(e.w=fa∨e.w=wa)∧e.way.length+av e.k < 900)→as.length+wSz P < 8000→ρ "found"=some (.ref fa)→ρ "waiting"=some (.ref wa)→
  (∀ρ' m as',Ext μ0 m→ρ' "found"=some (.ref fa)→m fa=some (.list (as'.map .ref))→Fnd z m (fun x=>x=fa∨x=wa) as' (fs++P.flatMap fun e=>lw e.way e.i e.k)→T .next ρ' m)→whL C nw lb__law_leaves_0 T (n+1) ρ μ:=by
 induction n with
 |zero=>
  intro P as fs ρ μ hn he q Fn S hk hl r1 r2 hT
  cases P with
  |cons e P=>simp[wSz] at hn
  |nil=>
   rw[whL_succ]
   simp[nw,↓exe r2,↓exf (aE S.nil_list)]
   exact hT ρ μ as he r1 q (by simpa using Fn)
 |succ n ih=>
  intro P as fs ρ μ hn he q Fn S hk hl r1 r2 hT
  cases P with
  |nil=>
   rw[whL_succ]
   simp[nw,↓exe r2,↓exf (aE S.nil_list)]
   exact hT ρ μ as he r1 q (by simpa using Fn)
  |cons e P=>
  obtain⟨i,k,way,w⟩:=e
  rw[whL_succ]
  obtain⟨xs,x1,x2⟩:=S.ne_list
  obtain⟨⟨hi,hP,hs,hkl,hk1,_⟩,hw,hb,hwf⟩:=hk _ (.head _)
  dsimp only at hi hP hs hkl hk1 hw hb hwf
  have hln:=wSz_len (⟨i,k,way,w⟩::P)
  have esz:wSz (⟨i,k,way,w⟩::P)=1+av k+wSz P:=by simp[wSz]
  have hlp:=wSz_len P
  show evE C ρ nw μ _ _
  simp[nw,r2,aE x1]
  refine⟨true,by simp[x2],?_⟩
  rw[if_pos rfl]
  show aA C (.cons (.unpack [(.name "own"),(.name "way")] (.bm .pop (.var "waiting") .nil)) (.cons (.ite (.cmp .eq (.item (.var "own") (.cst (.str (Str.ofString "sort")))) (.cst (.str (Str.ofString "leaf")))) (.cons (.expr (.bm .append (.var "found") (.cons (.tuple (.cons (.var "own") (.cons (.var "way") .nil))) .nil))) .nil) .nil) (.cons (.forRange "nth" (.cons (.bin .sub (.len (.item (.var "own") (.cst (.str (Str.ofString "parts"))))) (.cst (.int 1))) (.cons (.neg (.cst (.int 1))) (.cons (.neg (.cst (.int 1))) .nil))) lb__law_leaves_1) .nil))) _ _ _ _
  simp[ok_pop,aE x1,Option.isSome_some,↓exe r2]
  refine S.pop (by simp at hln⊢;unfold LIM;lia) fun a m1 o1 ea S1=> ?_
  simp
  have he1:=he.chg hwa o1
  have h1:=h.ext he1
  have kb1:KeepB (fun x=>x=fa∨x=wa) μ m1:=KeepB.chg x1 (.inr rfl) o1
  have q1:=(o1 fa hne).trans q
  simp[wTup,List.length_cons,List.length_nil,↓exf (tuple_ref ea)]
  have post:∀m2 as2,Ext μ0 m2→KeepB (fun x=>x=fa∨x=wa) m1 m2→m2 fa=some (.list (as2.map .ref))→Fnd z m2 (fun x=>x=fa∨x=wa) as2 (fs++hereL i way k)→Stk (fun a=>μ0 a=none) m2 wa (P.map (wTup z))→as2.length≤as.length+1→
    aA C (.cons (.forRange "nth" (.cons (.bin .sub (.len (.item (.var "own") (.cst (.str (Str.ofString "parts"))))) (.cst (.int 1))) (.cons (.neg (.cst (.int 1))) (.cons (.neg (.cst (.int 1))) .nil))) lb__law_leaves_1) .nil) (upd (upd ρ "own" (some (.ref (z.loc (6,i))))) "way" (some (.ref w))) m2 (kS_wh C nw lb__law_leaves_0 T (n+1)) (fun u_=>False):=fun m2 as2 he2 kb2 f2 Fn2 S2 hal=>by
   have h2:=h.ext he2
   have kb:=kb1.trans kb2
   have pl:listAt m2 (.ref (z.loc (7,i)))=some ((z.P i).map fun j=> .ref (z.loc (6,j))):=aE (h2.parts i hi)
   simp
   simp[hP,↓exe (h2.bParts hi),↓exf pl]
   refine⟨by unfold LIM;lia,ap ((tops k).length - 1:Int) (-1) (tops k).length,?_,?_⟩
   ·exact rangeOf_back (by lia) (by lia) (by lia)
   ·refine ll_push h hfa hwa hne hi hP hb hkl (by lia) (P:=P) (by lia) (tops k).length (Nat.le_refl _) [] _ m2 ?_ he2 (hw.keep fun x o e hx=>kb x o e (hx.imp (fun q=>by rw[q];exact hb) id)) (fun e he=>nomatch he) ⟨_,f2⟩ S2 r2 rfl rfl r1 fun ρ' m E hE he3 kb3 f3 hEw S3 v1 v2=> ?_
    simp
    ·simp[wspec_len]
    ·have sz3:wSz E=av k:=by rw[E_sz hE,wspec_sz]
     have sz4:wSz (E++P)=av k+wSz P:=by unfold wSz at *;rw[List.map_append,List.sum_append,sz3]
     refine ih (E++P) as2 (fs++hereL i way k) ρ' m (by lia) he3 (f3.trans f2) (Fn2.keep kb3) S3 (fun e he=> ?_) (by lia) v2 v1 fun ρ'' m' as' a1 a2 a3 a4=>hT ρ'' m' as' a1 a2 a3 ?_
     ·rcases List.mem_append.mp he with he |he
      ·have hm:spec3 e∈wspec way i 0 k:=by rw[←hE];exact List.mem_map_of_mem he
       have:=wspec_way _ hm
       have lk:=wspec_lk hk1 _ hm
       dsimp only[spec3] at this lk
       exact⟨lk,(hEw e he).1,(hEw e he).2,by lia⟩
      ·obtain⟨b1,b2,b3,b4⟩:=hk e (.tail _ he)
       exact⟨b1,b2.keep fun x o e' hx=> (kb.trans kb3) x o e' (hx.imp (fun q=>by rw[q];exact b3) id),b3,b4⟩
     ·rw[List.flatMap_append,E_flat hE,wspec_lw] at a4
      rw[List.flatMap_cons]
      dsimp only
      cases k with
      |nil=>simpa[lw,lvw,hereL] using a4
      |node j k2 s2=>simpa[lw,hereL] using a4
  simp[kind_leaf (srt3 hs),↓exe (h1.bSort hi)]
  by_cases e0:(z.bd i).kind=0
  ·have kn:=(srt0 hs).mp e0
   replace kn:=kn.symm;subst kn
   rw[kE_iteS_p e0]
   simp[ok_append,aE q1,↓exe r1]
   refine⟨by decide,fun ta hta=> ?_⟩
   generalize hm2:upd m1 ta (some (.tuple [.ref (z.loc (6,i)), .ref w]))=m2
   have o2:∀x,x≠ta→m2 x=m1 x:=fun x hx=>by rw[←hm2,af _ _ hx]
   have t2:m2 ta=some (.tuple [.ref (z.loc (6,i)), .ref w]):=by rw[←hm2,aj]
   have k2:Ext m1 m2:=(Ext.refl m1).chg hta o2
   have f2:=k2 _ _ q1
   refine st_append f2 (by rw[List.length_map];unfold LIM;lia) fun m3 f3 o3=> ?_
   have kb3:KeepB (fun x=>x=fa∨x=wa) m2 m3:=KeepB.chg f2 (.inl rfl) o3
   have kb2:KeepB (fun x=>x=fa∨x=wa) m1 m2:=fun x o e u_=>k2 x o e
   have kb13:=kb2.trans kb3
   have Fn1:=Fn.keep kb1
   have S2:Stk (fun a=>μ0 a=none) m2 wa (P.map (wTup z)):=S1.chg (by obtain⟨ys,y1⟩:=S1.some_;rw[y1];exact k2 _ _ y1) fun x t u_ e=> (k2 _ _ e).trans e.symm
   refine post m3 (as++ [ta]) ((he1.trans k2).chg hfa o3) kb13 (by rw[f3];simp) ?_ (S2.else (fun t e=>by rw[f2] at e;cases e) hne o3) (by simp)
   exact Fnd.snoc (((o3 ta fun e=>by rw[e,f2] at t2;cases t2).trans t2)) (hw.keep fun x o e hx=> (kb1.trans kb13) x o e (hx.imp (fun q=>by rw[q];exact hb) id)) hb (Fn1.keep kb13)
  ·have kn:k≠ .nil:=fun q=>e0 ((srt0 hs).mpr q)
   rw[kE_iteS_n e0]
   refine post m1 as he1 (fun x o e u_=>e) q1 ?_ S1 (by lia)
   have e:hereL i way k= []:=by cases k with
    |nil=>exact absurd rfl kn
    |node=>rfl
   rw[e,List.append_nil]
   exact Fn.keep kb1
theorem law_leaves_spec(h:R μ z){k:F}(hk:Lk z (.node i k .nil))(hl:av k < 800)(hΦ:∀m fa as,Ext μ m→m fa=some (.list (as.map .ref))→Fnd z m (fun u_=>False) as (lw [] i k)→Φ (.ref fa) m):az tab (d+1) 341 [.ref (z.loc (6,i))] μ Φ Ψ:=by
 refine call_of (fn:=f__law_leaves) rfl rfl ?_
 simp[f__law_leaves]
 refine⟨by decide,fun fa hfa=> ⟨by decide,fun w hw=> ⟨by decide,fun ta hta=> ⟨by decide,fun wa hwa=> ⟨wSz [⟨i,k,[],w⟩]+1,?_⟩⟩⟩⟩⟩
 have e1:=(Ext.refl μ).new hfa (some (.list []))
 have f1:upd μ fa (some (.list [])) fa=some (.list []):=aj _ _ _
 generalize upd μ fa (some (.list []))=m1 at *
 have e2:=e1.new hw (some (.list []))
 have f2:=(((Ext.refl m1).new hw (some (.list []))) _ _ f1)
 have w2:upd m1 w (some (.list [])) w=some (.list []):=aj _ _ _
 generalize upd m1 w (some (.list []))=m2 at *
 have e3:=e2.new hta (some (.tuple [.ref (z.loc (6,i)), .ref w]))
 have k3:=(Ext.refl m2).new hta (some (.tuple [.ref (z.loc (6,i)), .ref w]))
 have t3:upd m2 ta (some (.tuple [.ref (z.loc (6,i)), .ref w])) ta=some (.tuple [.ref (z.loc (6,i)), .ref w]):=aj _ _ _
 generalize upd m2 ta (some (.tuple [.ref (z.loc (6,i)), .ref w]))=m3 at *
 have e4:=e3.new hwa (some (.list [.ref ta]))
 have k4:=(Ext.refl m3).new hwa (some (.list [.ref ta]))
 have l4:upd m3 wa (some (.list [.ref ta])) wa=some (.list [.ref ta]):=aj _ _ _
 generalize upd m3 wa (some (.list [.ref ta]))=m4 at *
 have f4:=k4 _ _ (k3 _ _ f2)
 have w4:=k4 _ _ (k3 _ _ w2)
 have ne1:fa≠wa:=ne_nb (k3 _ _ f2) hwa
 have ne2:w≠wa:=ne_nb (k3 _ _ w2) hwa
 have ne3:w≠fa:=(ne_nb f1 hw).symm
 refine ll_loop h hfa (e3.none hwa) ne1 _ [⟨i,k,[],w⟩] [] [] _ m4 (Nat.le_refl _) e4 f4 .nil ⟨[ta],l4, .cons (e2.none hta) (k4 _ _ t3) .nil⟩ (fun e he=> ?_) (by simp[wSz];lia) rfl rfl fun ρ' m as' a1 a2 a3 a4=> ?_
 ·simp at he;subst he
  exact⟨hk,⟨[],w4, .nil⟩,fun q=>q.elim ne3 ne2,by simp;lia⟩
 ·simp[↓exe a2]
  refine hΦ m fa as' a1 a3 ?_
  have a5:Fnd z m (fun x=>x=fa∨x=wa) as' (lw [] i k):=by simpa using a4
  clear a4 a3
  generalize lw [] i k=L at a5
  induction a5 with
  |nil=>exact .nil
  |cons e w b r ih=>exact .cons e w (fun q=>q.elim) ih
end
section
variable{C:aB}{ρ:ao}{μ:MH}{Φ:Pst}{Ψ:Exc}
theorem e_dict{ks:List String}{es:MEs}:evE C ρ (.dict ks es) μ Φ Ψ=∀a,μ a=none→evEs C ρ es (upd μ a (some (.sdict (fun u_=>none) 0))) (fun vs μ=> (∃g,μ a=some (.sdict g 0))∧Φ (.ref a) (upd μ a (some (.sdict (sdictOf ((ks.map Str.ofString).zip vs)) ks.length)))) Ψ:=rfl
theorem e_comp{x g':String}{g:Addr}{y:String}{src:ME}:evE C ρ (.comp x g' g y src) μ Φ Ψ=evE C ρ src μ (evC (tEl C ρ g y) Φ) Ψ:=rfl
theorem e_compIf{x:String}{k w:Str}{src:ME}:evE C ρ (.compIf x k w src) μ Φ Ψ=evE C ρ src μ (evC (tIf k w) Φ) Ψ:=rfl
theorem cmpG_succ{s:Addr}{T:MV→MH→(MH→Prop)→Prop}{Φ:MH→Prop}{k i:Nat}:cmpG s T Φ (k+1) i μ=∃xs,μ s=some (.list xs)∧match xs[i]? with
  |none=>Φ μ
  |some x=>T x μ fun μ=>cmpG s T Φ k (i+1) μ:=rfl
end
section
variable{C:aB}{ρ:ao}{μ:MH}{Φ:FPst}{Ψ:Exc}
theorem ev_tryS{e:ME}{x y:String}:evS C (.tryS e x y) ρ μ Φ Ψ=evE C ρ e μ (fun u_ μ=>Φ .next ρ μ) (fun μ=> ∃v w,ρ x=some v∧ρ y=some w∧Φ (.ret (if isNoneV w then v else .none)) ρ μ):=rfl
theorem ev_sliceSet{l i j e:ME}:evS C (.sliceSet l i j e) ρ μ Φ Ψ=evE C ρ e μ (fun w μ=>evE C ρ l μ (fun v μ=>evE C ρ i μ (fun x μ=>evE C ρ j μ (fun y μ=>sliceP v x y w μ (fun μ=>Φ .next ρ μ)) Ψ) Ψ) Ψ) Ψ:=rfl
end
section
variable{μ μ':MH}{z:Z}{i:Int}{Φ:Pst}{Ψ:Exc}{d:Nat}
theorem R.addBox(h:R μ z){n:Int}(hn:n∉z.L)(hP:∀i∈z.L,n∉z.P i){a b:Addr}(ha:Nl z a)(hb:Nl z b)(hab:a≠b){f:Str→Option MV}{c bn:Nat}{D:BD}{l:List Int}(hl:n∉l)(hc:c≤bn)(hbn:z.bn≤bn)
  (e1:μ a=some (.sdict f c)) (e2:μ b=some (.list (l.map fun j=> .ref (z.loc (6,j))))) (hf:∀ℓ:Slot→Addr,ℓ (7,n)=b→BoxF ℓ n D f):
  R μ {z with loc:=upd (upd z.loc (6,n) a) (7,n) b,L:=n::z.L,bd:=upd z.bd n D,P:=upd z.P n l,bn:=bn}:=by
 have l6:upd (upd z.loc (6,n) a) (7,n) b (6,n)=a:=by rw[af _ _ ((ne1 (by decide))),aj]
 have l7:upd (upd z.loc (6,n) a) (7,n) b (7,n)=b:=aj _ _ _
 have old:∀s:Slot,s≠(6,n)→s≠(7,n)→upd (upd z.loc (6,n) a) (7,n) b s=z.loc s:=fun s h1 h2=> ((af _ _ h2).trans ((af _ _ h1)))
 have ofn:=hf _ l7
 generalize upd (upd z.loc (6,n) a) (7,n) b=ℓ at *
 have o3:∀j,ℓ (3,j)=z.loc (3,j):=fun j=>old _ ((ne1 (by decide))) ((ne1 (by decide)))
 have o4:∀j,ℓ (4,j)=z.loc (4,j):=fun j=>old _ ((ne1 (by decide))) ((ne1 (by decide)))
 have o5:∀j,ℓ (5,j)=z.loc (5,j):=fun j=>old _ ((ne1 (by decide))) ((ne1 (by decide)))
 have o0:ℓ (0,0)=z.loc (0,0):=old _ ((ne1 (by decide))) ((ne1 (by decide)))
 have o1:ℓ (1,0)=z.loc (1,0):=old _ ((ne1 (by decide))) ((ne1 (by decide)))
 have o2:ℓ (2,0)=z.loc (2,0):=old _ ((ne1 (by decide))) ((ne1 (by decide)))
 have o6:∀j,j≠n→ℓ (6,j)=z.loc (6,j):=fun j hj=>old _ (by simpa using hj) ((ne1 (by decide)))
 have o7:∀j,j≠n→ℓ (7,j)=z.loc (7,j):=fun j hj=>old _ ((ne1 (by decide))) (by simpa using hj)
 have nj:∀j∈z.L,j≠n:=fun j hj e=>hn (e▸hj)
 have mp:∀l':List Int,n∉l'→(l'.map fun j=>MV.ref (ℓ (6,j)))=l'.map fun j=> .ref (z.loc (6,j)):=fun l' hl'=>List.map_congr_left fun j hj=> (congrArg _ (o6 j fun e=>hl' (e▸hj)))
 refine⟨fun s t hs ht e=> ?_,?_,?_,fun j hj=> ?_,fun j hj=> ?_,fun j hj=> ?_,fun j hj=> ?_,fun j hj=> ?_,?_⟩
 ·have lv:∀s,live {z with loc:=ℓ,L:=n::z.L,bd:=upd z.bd n D,P:=upd z.P n l,bn:=bn} s→s=(6,n)∨s=(7,n)∨(live z s∧s≠(6,n)∧s≠(7,n)):=fun s hs=>by
   obtain⟨k,j⟩:=s
   by_cases q1:((k,j):Slot)=(6,n)
   ·exact .inl q1
   by_cases q2:((k,j):Slot)=(7,n)
   ·exact .inr (.inl q2)
   refine .inr (.inr ⟨?_,q1,q2⟩)
   rcases hs with hs |hs |⟨hs,hm⟩
   ·exact .inl hs
   ·exact .inr (.inl hs)
   ·refine .inr (.inr ⟨hs,?_⟩)
    rcases List.mem_cons.mp hm with hm |hm
    ·dsimp only at hm hs
     rcases hs with hs |hs
     ·exact absurd (by rw[hm,hs]) q1
     ·exact absurd (by rw[hm,hs]) q2
    ·exact hm
  dsimp only at e
  rcases lv s hs with rfl |rfl |⟨s1,s2,s3⟩ <;> rcases lv t ht with rfl |rfl |⟨t1,t2,t3⟩
  ·rfl
  ·rw[l6,l7] at e;exact absurd e hab
  ·rw[l6,old _ t2 t3] at e;exact absurd e.symm (ha _ t1)
  ·rw[l6,l7] at e;exact absurd e.symm hab
  ·rfl
  ·rw[l7,old _ t2 t3] at e;exact absurd e.symm (hb _ t1)
  ·rw[l6,old _ s2 s3] at e;exact absurd e (ha _ s1)
  ·rw[l7,old _ s2 s3] at e;exact absurd e (hb _ s1)
  ·rw[old _ s2 s3,old _ t2 t3] at e;exact h.inj _ _ s1 t1 e
 ·refine q18 h.tree fun f n' a' b' c'=> ?_
  exact⟨f,n',by dsimp only;rw[o0];exact a',b',⟨by rw[c'.1];dsimp only;rw[o1],c'.2,c'.3,c'.4,c'.5,c'.6,c'.7,c'.8,c'.9,c'.10,c'.11,c'.12,c'.13⟩⟩
 ·refine q17 h.tab fun g a' b'=> ?_
  exact⟨g,by dsimp only;rw[o1];exact a',fun j hj=>by dsimp only;rw[o3];exact b' j hj⟩
 ·refine q17 (h.win j hj) fun f a' w=> ?_
  exact⟨f,by dsimp only;rw[o3];exact a',⟨w.1,w.2,w.3,w.4,w.5,w.6,w.7,w.8,w.9,w.10,w.11,by rw[w.12];dsimp only;rw[o4],by rw[w.13];dsimp only;rw[o5],w.14,w.15,w.16,w.17,w.18⟩⟩
 ·dsimp only;rw[o4];exact h.kids j hj
 ·dsimp only;rw[o5];exact h.early j hj
 ·dsimp only
  rcases List.mem_cons.mp hj with rfl |hj
  ·rw[l6,aj];exact⟨f,c,e1,hc,ofn⟩
  ·refine q18 (h.box j hj) fun f m a' b' c'=> ?_
   rw[o6 j (nj j hj),af _ _ (nj j hj)]
   exact⟨f,m,a',Nat.le_trans b' hbn,⟨c'.1,by rw[c'.2,o7 j (nj j hj)],c'.3,c'.4,c'.5,c'.6⟩⟩
 ·dsimp only
  rcases List.mem_cons.mp hj with rfl |hj
  ·rw[l7,aj,mp l hl];exact e2
  ·rw[o7 j (nj j hj),af _ _ (nj j hj),mp _ (hP j hj)];exact h.parts j hj
 ·dsimp only;rw[o2];exact h.deck
noncomputable def MovedB(z:Z)(n:Int)(ℓ:Slot→Addr):Prop:=∀s:Slot,s≠(6,n)→s≠(7,n)→ℓ s=z.loc s
theorem movedB(z:Z)(n:Int)(a b:Addr):MovedB z n (upd (upd z.loc (6,n) a) (7,n) b):=fun s h1 h2=> ((af _ _ h2).trans ((af _ _ h1)))
noncomputable def addB(z:Z)(ℓ:Slot→Addr)(n:Int)(D:BD)(l:List Int):Z:={z with loc:=ℓ,L:=n::z.L,bd:=upd z.bd n D,P:=upd z.P n l,bn:=z.bn+6}
theorem law_leaf_spec(h:R μ z){n:Int}(hn:n∉z.L)(hP:∀i∈z.L,n∉z.P i){w g b u:Int}(hΦ:∀m ℓ,Ext μ m→MovedB z n ℓ→R m (addB z ℓ n ⟨0,w,g,b,u⟩ [])→Φ (.ref (ℓ (6,n))) m):az tab (d+1) 355 [.int w, .int g, .int b, .int u] μ Φ Ψ:=by
 refine call_of (fn:=f__law_leaf) rfl rfl ?_
 simp[f__law_leaf,e_dict]
 intro a ha
 refine⟨by decide,fun l hl=> ?_⟩
 have hal:a≠l:=fun e=>by rw[←e,aj] at hl;exact absurd hl.symm nn
 have hl0:μ l=none:=by rw[af _ _ hal.symm] at hl;exact hl
 refine⟨⟨_,by rw[af _ _ hal,aj]⟩,?_⟩
 generalize hm:upd (upd (upd μ a (some (.sdict (fun u_=>none) 0))) l (some (.list []))) a _=m
 have oo:∀x,x≠a→x≠l→m x=μ x:=fun x h1 h2=>by rw[←hm,af _ _ h1,af _ _ h2,af _ _ h1]
 have ex:Ext μ m:=fun x o e=>by
  rw[oo x (ne_nb e ha) (ne_nb e hl0)];exact e
 have r1:=(h.ext ex).addBox (n:=n) (c:=6) (bn:=z.bn+6) (D:=⟨0,w,g,b,u⟩) (l:= []) hn hP (h.nl ha) (h.nl hl0) hal (by simp) (by lia) (by lia) (by rw[←hm,aj]) (by rw[←hm,af _ _ hal.symm,aj];rfl) (fun ℓ e=> ⟨by simp[sdictOf,bV],by simp[sdictOf,e],fun u_=>by simp[sdictOf],fun u_=>by simp[sdictOf],fun u_=>by simp[sdictOf],fun u_=>by simp[sdictOf]⟩)
 have:=hΦ m _ ex (movedB z n a l) r1
 rw[af _ _ ((ne1 (by decide))),aj] at this
 exact this
theorem law_box_spec(h:R μ z){n s:Int}(hs:s=1∨s=2)(hn:n∉z.L)(hP:∀i∈z.L,n∉z.P i){l:List Int}{pa:Addr}(hpa:Nl z pa)(hl:n∉l)(hpl:μ pa=some (.list (l.map fun j=> .ref (z.loc (6,j)))))(hΦ:∀m ℓ,Ext μ m→MovedB z n ℓ→R m (addB z ℓ n ⟨s,0,0,0,0⟩ l)→Φ (.ref (ℓ (6,n))) m):az tab (d+1) 348 [.str (bV s), .ref pa] μ Φ Ψ:=by
 refine call_of (fn:=f__law_box) rfl rfl ?_
 simp[f__law_box,e_dict]
 intro a ha
 have hap:a≠pa:=(ne_nb hpl ha).symm
 generalize hm:upd (upd μ a (some (.sdict (fun u_=>none) 0))) a _=m
 have oo:∀x,x≠a→m x=μ x:=fun x h1=>by rw[←hm,af _ _ h1,af _ _ h1]
 have ex:Ext μ m:=fun x o e=>by
  rw[oo x (ne_nb e ha)];exact e
 have r1:=(h.ext ex).addBox (n:=n) (c:=2) (bn:=z.bn+6) (D:=⟨s,0,0,0,0⟩) (l:=l) hn hP (h.nl ha) hpa hap hl (by lia) (by lia) (by rw[←hm,aj]) (ex _ _ hpl) (fun ℓ e=> ⟨by simp[sdictOf],by simp[sdictOf,e],fun q=>by dsimp only at q;lia,fun q=>by dsimp only at q;lia,fun q=>by dsimp only at q;lia,fun q=>by dsimp only at q;lia⟩)
 have:=hΦ m _ ex (movedB z n a pa) r1
 rw[af _ _ ((ne1 (by decide))),aj] at this
 exact this
end
noncomputable def nodes:F→List (Int×List Int)
 | .nil=> []
 | .node i k r=> (i,tops k)::(nodes k++nodes r)
noncomputable def axK(ax:Int):Int:=if ax=0 then 2 else 1
noncomputable def axB(ax:Int)(b:BD):Int:=if ax=0 then b.row else b.col
noncomputable def axN(ax:Int):Str:=bV (axK ax)
theorem axK3(ax:Int):axK ax=0∨axK ax=1∨axK ax=2:=by unfold axK;split <;> simp
theorem axK2(ax:Int):axK ax=1∨axK ax=2:=by unfold axK;split <;> simp
theorem kind_eq{k k':Int}(h:k=0∨k=1∨k=2)(h':k'=0∨k'=1∨k'=2):(bV k==bV k')=decide (k=k'):=by
 rcases h with rfl |rfl |rfl <;> rcases h' with rfl |rfl |rfl <;> decide
noncomputable def LS(z:Z)(ax:Int)(sz:Int→Int)(i:Int)(l:List Int):Prop:=
 ((z.bd i).kind=0→axB ax (z.bd i)=sz i)∧((z.bd i).kind≠0→((z.bd i).kind=axK ax→sz i=(l.map sz).sum)∧((z.bd i).kind≠axK ax→∀c∈l,sz c=sz i))
section
variable{μ μ':MH}{z:Z}{i:Int}{Φ:Pst}{Ψ:Exc}{d:Nat}
theorem R.bAx(h:R μ z)(hi:i∈z.L)(hk:(z.bd i).kind=0)(ax:Int):itemOf μ (.ref (z.loc (6,i))) (.str (axN ax))=some (.int (axB ax (z.bd i))):=by
 unfold axN axK axB bV
 by_cases e:ax=0
 ·subst e;simpa using h.bRow hi hk
 ·simpa[e] using h.bCol hi hk
theorem ls_loop{C:aB}{T:MH→Prop}{μ0:MH}(h:R μ0 z){a:Addr}(ha:μ0 a=none){ax:Int}{sz:Int→Int}{ρ:ao}(r1:ρ "axis"=some (.str (axN ax)))(hi:i∈z.L):
  ∀(r:F) (dn:List Int) (μ:MH),Ext μ0 μ→z.P i=dn++tops r→dn.length+(tops r).length < LIM→μ a=some (.list ((dn.map sz).map .int))→
  (∀c∈tops r,∀μ Φ,R μ z→(∀m,Ext μ m→Φ (.int (sz c)) m)→C 360 [.ref (z.loc (6,c)), .str (axN ax)] μ Φ (fun u_=>False))→
  (∀m,Ext μ0 m→m a=some (.list (((dn++tops r).map sz).map .int))→T m)→cmpG (z.loc (7,i)) (tEl C ρ 360 "axis" a) T ((tops r).length+1) dn.length μ:=by
 intro r
 induction r with
 |nil=>
  intro dn μ he hP hl q hC hT
  rw[tops,List.length_nil,cmpG_succ]
  refine⟨_,(h.ext he).parts i hi,?_⟩
  rw[hP];simp[tops]
  exact hT μ he (by simpa[tops] using q)
 |node c k r _ ih=>
  intro dn μ he hP hl q hC hT
  rw[tops,List.length_cons,cmpG_succ]
  refine⟨_,(h.ext he).parts i hi,?_⟩
  rw[hP]
  simp[tops]
  refine⟨_,r1,hC c (.head _) μ _ (h.ext he) fun m hm=> ⟨_,hm _ _ q,?_,?_⟩⟩
  ·simp[tops] at hl⊢;lia
  ·have e:dn.length+1=(dn++ [c]).length:=by simp
   rw[e]
   show cmpG _ _ _ _ _ (upd m a _)
   exact ih (dn++ [c]) _ ((he.trans hm).chg ha fun x hx=>af _ _ hx) (by rw[hP];simp[tops]) (by simp[tops] at hl⊢;lia) (by rw[aj];simp) (fun c' hc'=>hC c' (by simp[tops,hc'])) fun m' h1 h2=>hT m' h1 (by rw[h2];simp[tops])
theorem Lk_top{k:F}(h:Lk z k):∀c∈tops k,∃kc,Lk z (.node c kc .nil)∧av kc < av k∧(∀e∈nodes (.node c kc .nil),e∈nodes k):=by
 induction k with
 |nil=>intro c hc;cases hc
 |node i k r _ ih=>
  refine q4 h fun a b c' e1 e2 e3=> ?_
  intro c hc
  rcases List.mem_cons.mp hc with rfl |hc
  ·exact⟨k,⟨a,b,c',e1,e2,trivial⟩,by simp only[av];lia,fun e he=>by simp[nodes] at he⊢;rcases he with he |he <;> simp[he]⟩
  ·refine q19 (ih e3 c hc) fun kc g1 g2 g3=> ?_
   exact⟨kc,g1,by simp only[av];lia,fun e he=>by have:=g3 e he;simp[nodes];simp[this]⟩
theorem law_size_spec{ax:Int}{sz:Int→Int}:∀(d:Nat) (i:Int) (k:F) (μ:MH) (Φ:Pst) (Ψ:Exc),R μ z→Lk z (.node i k .nil)→(∀e∈nodes (.node i k .nil),LS z ax sz e.1 e.2)→av k≤d→(∀m,Ext μ m→Φ (.int (sz i)) m)→az tab (d+1) 360 [.ref (z.loc (6,i)), .str (axN ax)] μ Φ Ψ:=by
 intro d
 induction d with
 |zero=>
  intro i k μ Φ Ψ h hk hs hf hΦ
  refine q6 hk fun hi hP hsr u_=> ?_
  have kn:k= .nil:=by cases k with
   |nil=>rfl
   |node=>simp[av] at hf
  subst kn
  have k0:(z.bd i).kind=0:=hsr
  refine call_of (fn:=f__law_size) rfl rfl ?_
  simp[f__law_size,↓exe (h.bSort hi),kind_leaf (srt3 hsr)]
  rw[kE_iteS_p k0]
  simp[↓exe (h.bAx hi k0 ax)]
  rw[(hs _ (.head _)).1 k0]
  exact hΦ μ (Ext.refl μ)
 |succ d ih=>
  intro i k μ Φ Ψ h hk hs hf hΦ
  refine q4 hk fun hi hP hsr hl hk1 u_=> ?_
  refine call_of (fn:=f__law_size) rfl rfl ?_
  by_cases k0:(z.bd i).kind=0
  ·simp[f__law_size,↓exe (h.bSort hi),kind_leaf (srt3 hsr)]
   rw[kE_iteS_p k0]
   simp[↓exe (h.bAx hi k0 ax)]
   rw[(hs _ (.head _)).1 k0]
   exact hΦ μ (Ext.refl μ)
  ·refine q0 ((hs _ (.head _)).2 k0) fun s1 s2=> ?_
   dsimp only at s1 s2
   have kn:k≠ .nil:=fun e=>k0 ((srt0 hsr).mpr e)
   simp[f__law_size,↓exe (h.bSort hi),kind_leaf (srt3 hsr)]
   rw[kE_iteS_n k0]
   simp[↓e_comp,↓exe (h.bParts hi)]
   refine⟨_,(tops k).length+1,_,rfl,h.parts i hi,fun a ha=> ?_⟩
   refine ls_loop (h:=h) (μ0:=μ) ha (ax:=ax) (sz:=sz) (rfl) hi k [] _ ((Ext.refl μ).new ha _) hP (by simp[LIM];lia) (by simp) (fun c hc μ2 Φ2 h2 hΦ2=> ?_) fun m he q=> ?_
   ·refine q19 (Lk_top hk1 c hc) fun kc g1 g2 g3=> ?_
    exact ih c kc μ2 Φ2 _ h2 g1 (fun e he=>hs e (by have:=g3 e he;simp[nodes];simp[this])) (by lia) hΦ2
   ·have hm:=h.ext he
    simp[axN,kind_eq (srt3 hsr) (axK3 ax),↓exe (hm.bSort hi)]
    by_cases e:(z.bd i).kind=axK ax
    ·rw[kE_ite_p e]
     show∃v,_∧∃xs is,listAt m v=some xs∧xs.length < LIM∧intsOf xs=some is∧Φ (.int is.sum) m
     refine⟨_,aj _ _ _,_,_,aE q,by simp[LIM];lia,by have:=intsOf_map ((tops k).map sz);simpa using this,?_⟩
     rw[←s1 e]
     exact hΦ m he
    ·rw[kE_ite_n e]
     cases k with
     |nil=>exact absurd rfl kn
     |node c k2 r2=>
      have it:itemOf m (.ref a) (.int 0)=some (.int (sz c)):=item_list (n:=0) q rfl (by simp[LIM];lia)
      simp[↓exe it]
      rw[s2 e c (by simp[tops])]
      exact hΦ m he
end
noncomputable def setBx(ax v:Int)(b:BD):BD:=if ax=0 then{b with row:=v} else{b with col:=v}
theorem setBx_kind(ax v:Int)(b:BD):(setBx ax v b).kind=b.kind:=by unfold setBx;split <;> rfl
theorem L2.get{Q:Addr→Prop}{μ:MH}:∀{as:List Addr} {ts:List (List MV)} {n:Nat} {t:List MV},L2 Q μ as ts→ts[n]? =some t→∃a,as[n]? =some a∧μ a=some (.tuple t)
 |_,_,n,_, .nil,h=>by simp at h
 |_,_,0,_, .cons q e r,h=>by simp at h;subst h;exact⟨_,rfl,e⟩
 |_,_,n+1,_, .cons q e r,h=>by simpa using r.get h
section
variable{μ μ':MH}{z:Z}{i:Int}{Φ:Pst}{Ψ:Exc}{d:Nat}
theorem WayAt.last{w:Addr}{way:Way}{p:Int}{n:Nat}(h:WayAt z μ w (way++ [(p,n)]))(hl:way.length < 1000):∃t,itemOf μ (.ref w) (.int (-1))=some (.ref t)∧μ t=some (.tuple [.ref (z.loc (6,p)), .int n]):=by
 refine q17 h fun ts h1 h2=> ?_
 have hl2:ts.length=way.length+1:=by have:=h2.len;simpa using this
 obtain⟨a,ha,e⟩:=h2.get (n:=way.length) (t:= [.ref (z.loc (6,p)), .int n]) (by simp)
 refine⟨a,?_,e⟩
 have e2:pyIdx (-1) (ts.map MV.ref).length=some way.length:=by
  unfold pyIdx
  rw[List.length_map,hl2,if_neg (by unfold LIM;lia),if_neg (by lia),if_pos ⟨by lia,by lia⟩]
  congr 1;lia
 exact item_at h1 e2 (by rw[List.getElem?_map,ha];rfl)
theorem WayAt.last2{w:Addr}{way:Way}{p g:Int}{n u:Nat}(h:WayAt z μ w (way++ [(g,u)]++ [(p,n)]))(hl:way.length < 1000):∃t,itemOf μ (.ref w) (.int (-2))=some (.ref t)∧μ t=some (.tuple [.ref (z.loc (6,g)), .int u]):=by
 refine q17 h fun ts h1 h2=> ?_
 have hl2:ts.length=way.length+2:=by have:=h2.len;simpa using this
 obtain⟨a,ha,e⟩:=h2.get (n:=way.length) (t:= [.ref (z.loc (6,g)), .int u]) (by simp)
 refine⟨a,?_,e⟩
 have e2:pyIdx (-2) (ts.map MV.ref).length=some way.length:=by
  unfold pyIdx
  rw[List.length_map,hl2,if_neg (by unfold LIM;lia),if_neg (by lia),if_pos ⟨by lia,by lia⟩]
  congr 1;lia
 exact item_at h1 e2 (by rw[List.getElem?_map,ha];rfl)
theorem WayAt.list{w:Addr}{way:Way}(h:WayAt z μ w way):∃xs,μ w=some (.list xs)∧xs.isEmpty=way.isEmpty∧xs.length=way.length:=by
 refine q17 h fun ts h1 h2=> ?_
 have e:ts.length=way.length:=by have:=h2.len;simpa using this
 exact⟨_,h1,by cases ts <;> cases way <;> simp at e⊢,by simpa using e⟩
theorem tup0{μ:MH}{a:Addr}{x y:MV}(h:μ a=some (.tuple [x,y])):itemOf μ (.ref a) (.int 0)=some x:=by
 rw[item_of h];rfl
theorem R.sAx(h:R μ z)(hi:i∈z.L)(hb:z.bn < 9999)(ax v:Int){Φ:MH→Prop}(k:∀m,R m {z with bd:=upd z.bd i (setBx ax v (z.bd i)),bn:=z.bn+1}→(∀x,x≠z.loc (6,i)→m x=μ x)→Φ m):∃m,setItemM μ (.ref (z.loc (6,i))) (.str (axN ax)) (.int v)=some m∧Φ m:=by
 refine q18 (h.box i hi) fun f n e hn hf=> ?_
 refine⟨_,(setItem_of e).trans (if_pos (by lia)),k _ ?_ fun x hx=>af _ _ hx⟩
 refine h.setB hi (by lia) (by lia) ?_
 have a1:∀w,upd f (axN ax) w (Str.ofString "sort")=f (Str.ofString "sort"):=fun w=>af _ _ (by unfold axN axK bV;split <;> simp)
 have a2:∀w,upd f (axN ax) w (Str.ofString "parts")=f (Str.ofString "parts"):=fun w=>af _ _ (by unfold axN axK bV;split <;> simp)
 have a3:∀w,upd f (axN ax) w (Str.ofString "buffer")=f (Str.ofString "buffer"):=fun w=>af _ _ (by unfold axN axK bV;split <;> simp)
 have a4:∀w,upd f (axN ax) w (Str.ofString "number")=f (Str.ofString "number"):=fun w=>af _ _ (by unfold axN axK bV;split <;> simp)
 refine⟨?_,(a2 _).trans hf.parts,fun q=> ?_,fun q=> ?_,fun q=> ?_,fun q=> ?_⟩
 ·rw[a1,setBx_kind];exact hf.sort
 ·rw[setBx_kind] at q
  unfold setBx axN axK bV
  by_cases e0:ax=0
  ·simp[e0]
  ·simp only[e0,if_false]
   rw[af _ _ ((by decide))];exact hf.row q
 ·rw[setBx_kind] at q
  unfold setBx axN axK bV
  by_cases e0:ax=0
  ·simp only[e0,if_true]
   rw[af _ _ ((by decide))];exact hf.col q
  ·simp[e0]
 ·rw[setBx_kind] at q
  rw[a3,hf.buf q];unfold setBx;split <;> rfl
 ·rw[setBx_kind] at q
  rw[a4,hf.num q];unfold setBx;split <;> rfl
noncomputable def bx(z:Z)(l:List Int):List MV:=l.map fun j=> .ref (z.loc (6,j))
theorem law_put_root{w q:Addr}{c:Int}{r:List Int}{v:MV}(hw:WayAt z μ w [])(hq:μ q=some (.list (bx z (c::r))))(hl:r.length < 90)(hΦ:Φ (.ref (z.loc (6,c))) μ):az tab (d+1) 374 [v, .ref w, .ref q] μ Φ Ψ:=by
 refine call_of (fn:=f__law_put) rfl rfl ?_
 refine q19 hw.list fun xs x1 x2 u_=> ?_
 have it:itemOf μ (.ref q) (.int 0)=some (.ref (z.loc (6,c))):=item_list (n:=0) hq (by simp[bx]) (by simp[bx,LIM];lia)
 simp[f__law_put,x2,↓exf (aE x1)]
 simp at x2
 simp[↓exe it]
 exact hΦ
theorem law_put_spec(h:R μ z){w q:Addr}{way:Way}{p:Int}{n:Nat}{l:List Int}{v:MV}(hw:WayAt z μ w (way++ [(p,n)]))(hwl:way.length < 900)(hp:p∈z.L)(hn:n < (z.P p).length)(hlen:(z.P p).length≤90)(hl:l.length≤90)(hq:μ q=some (.list (bx z l)))(hqp:q≠z.loc (7,p))
  (hΦ:∀m,R m {z with P:=upd z.P p ((z.P p).take n++l++(z.P p).drop (n+1))}→Φ v m):az tab (d+1) 374 [v, .ref w, .ref q] μ Φ Ψ:=by
 refine call_of (fn:=f__law_put) rfl rfl ?_
 refine q19 hw.list fun xs x1 x2 u_=> ?_
 obtain⟨t,t1,t2⟩:=hw.last (by lia)
 have x3:xs≠[]:=by intro e;rw[e] at x2;cases way <;> simp at x2
 simp[f__law_put,aE x1,x2]
 simp[t1,tuple_ref t2,ev_sliceSet,h.bParts hp]
 refine⟨_,_,aE (h.parts p hp),aE hq,by simpa using hqp,by lia,by lia,by simp;lia,by simp[LIM];lia,by simp[bx,LIM];lia,?_⟩
 have:=h.setP hp ((z.P p).take n++l++(z.P p).drop (n+1))
 have e1:((n:Int)+1).toNat=n+1:=by lia
 simp[e1]
 simp[bx] at *
 exact hΦ _ this
end
section
variable{μ μ':MH}{z:Z}{i:Int}{Φ:Pst}{Ψ:Exc}{d:Nat}
theorem WayAt.off{w:Addr}{way:Way}(h:WayAt z μ w way){m:MH}{a:Addr}{f:Str→Option MV}{c:Nat}(ha:μ a=some (.sdict f c))(o:∀y,y≠a→m y=μ y):WayAt z m w way:=by
 refine q17 h.list fun xs x1 u_=> ?_
 exact h.keep fun x ob e q=>by
  rw[o x fun e'=> ?_]
  ·exact e
  ·subst e'
   rcases q with q |⟨t,q⟩
   ·rw[q,x1] at ha;cases ha
   ·rw[e,q] at ha;cases ha
theorem snoc_of{α:Type}{l:List (α×Nat)}(h:l≠[]):∃w p n,l=w++ [(p,n)]:=by
 rcases List.eq_nil_or_concat l with e |⟨w,⟨p,n⟩,e⟩
 ·exact absurd e h
 ·exact⟨w,p,n,by rw[e];simp⟩
theorem ne_mem{a n:Int}{l:List Int}(h:a∈l)(hn:n∉l):a≠n:=fun e=>hn (by rw[←e];exact h)
theorem MovedB.six{n j:Int}{ℓ:Slot→Addr}(h:MovedB z n ℓ)(hj:j≠n):ℓ (6,j)=z.loc (6,j):=h _ (fun e=>hj (Prod.mk.inj e).2) (fun e=>by simp at e)
theorem MovedB.low{n:Int}{ℓ:Slot→Addr}(h:MovedB z n ℓ){s:Slot}(hs:s.1 < 6):ℓ s=z.loc s:=h s (fun e=>by rw[e] at hs;simp at hs) (fun e=>by rw[e] at hs;simp at hs)
theorem WayAt.ext{w:Addr}{way:Way}(h:WayAt z μ w way){m:MH}(he:Ext μ m):WayAt z m w way:=h.keep fun x o e u_=>he x o e
theorem WayAt.loc{z':Z}{w:Addr}{way:Way}(h:WayAt z μ w way)(hl:∀e∈way,z'.loc (6,e.1)=z.loc (6,e.1)):WayAt z' μ w way:=by
 refine q17 h fun ts h1 h2=> ?_
 refine⟨ts,h1,?_⟩
 have:(way.map fun e=> [MV.ref (z'.loc (6,e.1)), .int e.2])=way.map fun e=> [.ref (z.loc (6,e.1)), .int e.2]:=List.map_congr_left fun e he=>by rw[hl e he]
 rw[this];exact h2
noncomputable def MovL(z:Z)(ℓ:Slot→Addr):Prop:=(∀s:Slot,s.1 < 6→ℓ s=z.loc s)∧∀j∈z.L,ℓ (6,j)=z.loc (6,j)
noncomputable def prL(x n:Int)(ah:Bool):List Int:=if ah then [n,x] else [x,n]
noncomputable def newB(z:Z)(x ax new num:Int):BD:=setBx ax new ⟨0,(z.bd x).row,(z.bd x).col,(z.bd x).buf,num⟩
noncomputable def lsA(z:Z)(ℓ:Slot→Addr)(B:Nat)(x n1 ax old new num:Int)(PP:Int→List Int):Z:=
 {z with loc:=ℓ,L:=n1::z.L,bd:=upd (upd z.bd n1 (newB z x ax new num)) x (setBx ax old (z.bd x)),P:=PP,bn:=B}
noncomputable def lsB(z:Z)(ℓ:Slot→Addr)(B:Nat)(x n1 b ax old new num:Int)(PP:Int→List Int):Z:=
 {z with loc:=ℓ,L:=b::n1::z.L,bd:=upd (upd (upd z.bd n1 (newB z x ax new num)) x (setBx ax old (z.bd x))) b ⟨axK ax,0,0,0,0⟩,P:=PP,bn:=B}
theorem snoc_inj{w w2:Way}{p p2:Int}{n n2:Nat}(h:w++ [(p,n)]=w2++ [(p2,n2)]):p=p2∧n=n2:=
 Prod.mk.inj (List.cons.inj (List.append_inj' h rfl).2).1
theorem ls_end{y:Z}{ρ:ao}{w pa:Addr}{way:Way}{rt b ax:Int}{l:List Int}(h:R μ y)(hw:WayAt y μ w way)(hwl:way.length < 400)(hwL:∀e∈way,e.1∈y.L)
  (hway:∀w' p n,way=w'++ [(p,n)]→((y.bd p).kind=1∨(y.bd p).kind=2)∧n < (y.P p).length∧(y.P p).length≤80)
  (bb:b∉y.L) (bP:∀i∈y.L,b∉y.P i) (bl:b∉l) (ll:l.length≤90) (hrt:rt∈y.L) (npa:Nl y pa) (hpa:μ pa=some (.list (bx y l)))
  (s1:ρ "root"=some (.ref (y.loc (6,rt)))) (s3:ρ "way"=some (.ref w)) (s4:ρ "axis"=some (.str (axN ax))) (s5:ρ "pair"=some (.ref pa))
  (hA:∀m w' p n,way=w'++ [(p,n)]→(y.bd p).kind=axK ax→R m {y with P:=upd y.P p ((y.P p).take n++l++(y.P p).drop (n+1))}→Φ (.ref (y.loc (6,rt))) m)
  (hB:∀m ℓ,(∀w' p n,way=w'++ [(p,n)]→(y.bd p).kind≠axK ax)→MovedB y b ℓ→∀PP,(way= []→PP=upd y.P b l)→(∀w' p n,way=w'++ [(p,n)]→PP=upd (upd y.P b l) p ((y.P p).take n++ [b]++(y.P p).drop (n+1)))→R m {addB y ℓ b ⟨axK ax,0,0,0,0⟩ l with P:=PP}→Φ (.ref (ℓ (6,if way= [] then b else rt))) m):
  aA (az tab (d+1)) (aJ 7 b7.body) ρ μ (bf Φ) Ψ:=by
 refine q19 hw.list fun xs x1 x2 u_=> ?_
 have boxed:(∀w' p n,way=w'++ [(p,n)]→(y.bd p).kind≠axK ax)→aA (az tab (d+1)) (aJ 8 b7.body) ρ μ (bf Φ) Ψ:=fun hne=>by
  show aA _ (.cons (.ret (.call (.glob "_law_put" (.ref 374)) (.cons (.var "root") (.cons (.var "way") (.cons (.list (.cons (.call (.glob "_law_box" (.ref 348)) (.cons (.var "axis") (.cons (.var "pair") .nil))) .nil)) .nil))))) .nil) _ _ _ _
  simp[↓exe s1,↓exe s3,↓exe s4,↓exe s5]
  refine law_box_spec (d:=d) (s:=axK ax) (l:=l) h (axK2 ax) bb bP npa bl hpa fun m5 ℓ2 he5 mv2 h5=> ⟨by simp[LIM],fun la hla=> ?_⟩
  have e6:=(Ext.refl m5).new hla (some (.list [.ref (ℓ2 (6,b))]))
  have h6:=h5.ext e6
  have q6:upd m5 la (some (.list [.ref (ℓ2 (6,b))])) la=some (.list (bx (addB y ℓ2 b ⟨axK ax,0,0,0,0⟩ l) [b])):=aj _ _ _
  have nla:=h5.nl hla
  have hw6:=((hw.ext he5).ext e6).loc (z':=addB y ℓ2 b ⟨axK ax,0,0,0,0⟩ l) fun e he'=>mv2.six (ne_mem (hwL e he') bb)
  generalize upd m5 la (some (.list [.ref (ℓ2 (6,b))]))=m6 at *
  rw[←mv2.six (ne_mem hrt bb)]
  simp
  by_cases w0:way= []
  ·have:=hB m6 ℓ2 hne mv2 _ (fun _=>rfl) (fun w' p n e=>absurd (e▸w0:w'++ [(p,n)]= []) (by simp)) h6
   rw[if_pos w0] at this
   rw[w0] at hw6
   exact law_put_root (d:=d) hw6 q6 (by decide) this
  ·refine q9 (snoc_of w0) fun w' p n we=> ?_
   refine q2 (hway w' p n we) fun u_ g2 g3=> ?_
   have pL:p∈y.L:=hwL (p,n) (we▸List.mem_append_right _ m1)
   rw[we] at hw6
   have ePp:(addB y ℓ2 b ⟨axK ax,0,0,0,0⟩ l).P p=y.P p:=af _ _ fun e=>bb (e▸pL)
   refine law_put_spec (d:=d) (l:= [b]) h6 hw6 (by rw[we] at hwl;simp at hwl;lia) (.tail _ pL) (by rw[ePp];exact g2) (by rw[ePp];lia) (Nat.le_add_left _ 89) q6 (fun e=>nla _ (live7 (z:=addB y ℓ2 b ⟨axK ax,0,0,0,0⟩ l) (.tail _ pL)) e.symm) fun m7 h7=> ?_
   rw[ePp] at h7
   have:=hB m7 ℓ2 hne mv2 _ (fun e=>absurd e w0) (fun w2 p2 n2 e=> ?_) h7
   ·rw[if_neg w0] at this;exact this
   ·refine q0 (snoc_inj (we.symm.trans e)) fun e1 e2=> ?_
    rw[←e1,←e2];rfl
 show aA _ (.cons (.ite (.boolop true (.neNil false (.var "way")) (.cmp .eq (.item (.item (.item (.var "way") (.neg (.cst (.int 1)))) (.cst (.int 0))) (.cst (.str (Str.ofString "sort")))) (.var "axis"))) (.cons (.ret (.call (.glob "_law_put" (.ref 374)) (.cons (.var "root") (.cons (.var "way") (.cons (.var "pair") .nil))))) .nil) .nil) (aJ 8 b7.body)) _ _ _ _
 rw[ev_cons]
 simp[↓exe s3,↓exf (aE x1)]
 by_cases w0:way= []
 ·have x0:xs.isEmpty=true:=by rw[x2,w0];rfl
  simp[x0]
  exact boxed fun w' p n e=>by rw[w0] at e;simp at e
 ·refine q9 (snoc_of w0) fun w' p n we=> ?_
  refine q2 (hway w' p n we) fun g1 g2 g3=> ?_
  have pL:p∈y.L:=hwL (p,n) (we▸List.mem_append_right _ m1)
  have x0:xs.isEmpty=false:=by rw[x2,we];cases w' <;> rfl
  have hw':=hw
  rw[we] at hw'
  have wl:w'.length < 900:=by rw[we] at hwl;simp at hwl;lia
  refine q17 (hw'.last (by lia)) fun t t1 t2=> ?_
  simp[x0,axN,kind_eq (.inr g1) (axK3 ax),↓exe t1,↓exe (tup0 t2),↓exe (h.bSort pL),↓exe s3,↓exe s4]
  by_cases e:(y.bd p).kind=axK ax
  ·rw[kE_iteS_p e]
   simp[↓exe s1,↓exe s3,↓exe s5]
   exact law_put_spec (d:=d) h hw' wl pL g2 (by lia) ll hpa (fun e=>npa _ (live7 pL) e.symm) fun m7 h7=>hA m7 w' p n we e h7
  ·rw[kE_iteS_n e]
   refine boxed fun w2 p2 n2 e2=> ?_
   rw[←(snoc_inj (we.symm.trans e2)).1]
   exact e
theorem ls_mid{y:Z}{ρ:ao}{w:Addr}{way:Way}{x rt n1 ax old new:Int}{ah:Bool}(h:R μ y)(hw:WayAt y μ w way)(hx:x∈y.L)(hx0:(y.bd x).kind=0)(nL:n1∈y.L)(hxn:x≠n1)(hbn:y.bn < 9990)(hold:axB ax (y.bd x) - new=old)
  (r1:ρ "root"=some (.ref (y.loc (6,rt)))) (r2:ρ "own"=some (.ref (y.loc (6,x)))) (r3:ρ "way"=some (.ref w)) (r4:ρ "axis"=some (.str (axN ax))) (r5:ρ "is_ahead"=some (.bool ah)) (r7:ρ "later"=some (.int new)) (r8:ρ "fresh"=some (.ref (y.loc (6,n1))))
  (k:∀m pa ρ',R m {y with bd:=upd (upd y.bd x (setBx ax old (y.bd x))) n1 (setBx ax new (y.bd n1)),bn:=y.bn+2}→WayAt y m w way→Nl y pa→m pa=some (.list (bx y (prL x n1 ah)))→ρ' "root"=some (.ref (y.loc (6,rt)))→ρ' "way"=some (.ref w)→ρ' "axis"=some (.str (axN ax))→ρ' "pair"=some (.ref pa)→aA (az tab (d+1)) (aJ 7 b7.body) ρ' m (bf Φ) Ψ):
  aA (az tab (d+1)) (aJ 5 b7.body) ρ μ (bf Φ) Ψ:=by
 show aA _ (.cons (.multi [(.item (.var "own") (.var "axis")),(.item (.var "fresh") (.var "axis"))] (.cons (.bin .sub (.item (.var "own") (.var "axis")) (.var "later")) (.cons (.var "later") .nil))) (.cons (.assign (.name "pair") (.ite (.var "is_ahead") (.list (.cons (.var "fresh") (.cons (.var "own") .nil))) (.list (.cons (.var "own") (.cons (.var "fresh") .nil))))) (aJ 7 b7.body))) _ _ _ _
 simp[hold,↓exe r2,↓exe r4,↓exe r7,↓exe r8,↓exe (h.bAx hx hx0 ax)]
 refine h.sAx hx (by lia) ax old fun m2 h2 o2=> ?_
 refine R.sAx h2 nL (show y.bn+1 < 9999 by lia) ax new fun m3 h3 o3=> ?_
 refine q20 (h.box x hx) fun fx cx qx u_=> ?_
 refine q20 (h2.box n1 nL) fun fn cn qn u_=> ?_
 have hw3:WayAt y m3 w way:=(hw.off qx o2).off qn o3
 dsimp only at h3
 rw[af _ _ hxn.symm] at h3
 have go:∀pa,m3 pa=none→aA (az tab (d+1)) (aJ 7 b7.body) (upd ρ "pair" (some (.ref pa))) (upd m3 pa (some (.list (bx y (prL x n1 ah))))) (bf Φ) Ψ:=fun pa hpa=>
  have e4:=(Ext.refl m3).new hpa (some (.list (bx y (prL x n1 ah))))
  k _ pa (upd ρ "pair" (some (.ref pa))) (h3.ext e4) (hw3.ext e4) (h3.nl hpa) (aj _ _ _) r1 r3 r4 rfl
 cases ah with
 |true=>
  simp[↓exe r5,↓exe r2,↓exe r8]
  exact⟨by decide,go⟩
 |false=>
  simp[↓exe r5,↓exe r2,↓exe r8]
  exact⟨by decide,go⟩
theorem ls_tail{ρ:ao}{w:Addr}{way:Way}{x rt n1 b ax old new num:Int}{ah:Bool}(h:R μ z)(hx:x∈z.L)(hx0:(z.bd x).kind=0)(hwl:way.length < 400)(hw:WayAt z μ w way)(hwL:∀e∈way,e.1∈z.L)
  (hway:∀w' p n,way=w'++ [(p,n)]→((z.bd p).kind=1∨(z.bd p).kind=2)∧n < (z.P p).length∧(z.P p).length≤80)
  (hn:n1∉z.L) (hb:b∉z.L) (hnb:n1≠b) (hP:∀i∈z.L,n1∉z.P i∧b∉z.P i) (hbn:z.bn < 9000) (hrt:rt∈z.L)
  (r1:ρ "root"=some (.ref (z.loc (6,rt)))) (r2:ρ "own"=some (.ref (z.loc (6,x)))) (r3:ρ "way"=some (.ref w)) (r4:ρ "axis"=some (.str (axN ax))) (r5:ρ "is_ahead"=some (.bool ah)) (r6:ρ "number"=some (.int num)) (r7:ρ "later"=some (.int new)) (hold:axB ax (z.bd x) - new=old)
  (hA:∀m ℓ B w' p n,way=w'++ [(p,n)]→(z.bd p).kind=axK ax→MovL z ℓ→B≤z.bn+20→R m (lsA z ℓ B x n1 ax old new num (upd (upd z.P n1 []) p ((z.P p).take n++prL x n1 ah++(z.P p).drop (n+1))))→Φ (.ref (ℓ (6,rt))) m)
  (hB:∀m ℓ B,(∀w' p n,way=w'++ [(p,n)]→(z.bd p).kind≠axK ax)→MovL z ℓ→B≤z.bn+20→∀PP,(way= []→PP=upd (upd z.P n1 []) b (prL x n1 ah))→(∀w' p n,way=w'++ [(p,n)]→PP=upd (upd (upd z.P n1 []) b (prL x n1 ah)) p ((z.P p).take n++ [b]++(z.P p).drop (n+1)))→R m (lsB z ℓ B x n1 b ax old new num PP)→Φ (.ref (ℓ (6,if way= [] then b else rt))) m):
  aA (az tab (d+1)) (aJ 4 b7.body) ρ μ (bf Φ) Ψ:=by
 show aA _ (.cons (.assign (.name "fresh") (.call (.glob "_law_leaf" (.ref 355)) (.cons (.item (.var "own") (.cst (.str (Str.ofString "row")))) (.cons (.item (.var "own") (.cst (.str (Str.ofString "column")))) (.cons (.item (.var "own") (.cst (.str (Str.ofString "buffer")))) (.cons (.var "number") .nil)))))) (aJ 5 b7.body)) _ _ _ _
 have hxn:x≠n1:=fun e=>hn (e▸hx)
 have gne:∀{w' p n},way=w'++ [(p,n)]→p≠n1∧p≠x:=fun e=>by
  have pL:=hwL _ (e▸List.mem_append_right _ (.head _))
  refine⟨fun q=>hn (q▸pL),fun q=> ?_⟩
  have:=(hway _ _ _ e).1
  rw[show _=x from q,hx0] at this;lia
 have gP:∀{w' p n},way=w'++ [(p,n)]→upd z.P n1 [] p=z.P p:=fun e=>af _ _ (gne e).1
 have gb:∀{w' p n},way=w'++ [(p,n)]→upd (upd z.bd n1 (newB z x ax new num)) x (setBx ax old (z.bd x)) p=z.bd p:=fun e=> (af _ _ (gne e).2).trans (af _ _ (gne e).1)
 have xb:x≠b:=fun e=>hb (e▸hx)
 have bpr:b∉prL x n1 ah:=by unfold prL;split <;> simp <;> exact⟨fun e=>by first |exact hnb e.symm |exact xb e.symm,fun e=>by first |exact hnb e.symm |exact xb e.symm⟩
 have lpr:(prL x n1 ah).length≤90:=by unfold prL;split <;> simp
 simp[↓exe r2,↓exe r6,↓exe (h.bRow hx hx0),↓exe (h.bCol hx hx0),↓exe (h.bBuf hx hx0)]
 refine law_leaf_spec (d:=d) h hn (fun i hi=> (hP i hi).1) fun m1 ℓ he mv h1=> ?_
 have bdx:∀D,upd z.bd n1 D x=z.bd x:=fun D=>af _ _ hxn
 refine ls_mid (d:=d) (way:=way) (w:=w) (rt:=rt) (ax:=ax) (new:=new) (old:=old) (ah:=ah) h1 ((hw.ext he).loc fun e he'=>mv.six (ne_mem (hwL e he') hn)) (.tail _ hx) (show(upd z.bd n1 _ x).kind=0 by rw[bdx];exact hx0) (.head _) hxn (show z.bn+6 < 9990 by lia) (show axB ax (upd z.bd n1 _ x) - new=old by rw[bdx];exact hold)
  (r1.trans (by rw[←mv.six (ne_mem hrt hn)];rfl)) (r2.trans (by rw[←mv.six hxn];rfl)) r3 r4 r5 r7 rfl fun m4 pa ρ' h4 hw4 npa hpa s1 s3 s4 s5=> ?_
 have h5:R m4 (lsA z ℓ (z.bn+8) x n1 ax old new num (upd z.P n1 [])):=by
  refine h4.eq ?_
  unfold lsA addB newB
  congr 1
  dsimp only
  rw[aj,bdx]
  funext j
  by_cases q1:j=n1
  ·rw[q1];rw[aj,af _ _ hxn.symm,aj]
  ·rw[af _ _ q1]
   by_cases q2:j=x
   ·rw[q2];rw[aj,aj]
   ·rw[af _ _ q2,af _ _ q2,af _ _ q1,af _ _ q1]
 clear h4
 refine ls_end (d:=d) h5 hw4 hwl (fun e he=> .tail _ (hwL e he)) (fun w' p n e=> ?_) (fun q=> ?_) (fun i hi=> ?_) bpr lpr (.tail _ hrt) npa hpa s1 s3 s4 s5 (fun m w' p n e hk hm=> ?_) fun m ℓ2 hne mv2 PP p1 p2 hm=> ?_
 ·have:=hway w' p n e
  rw[←gb e,←gP e] at this
  exact this
 ·rcases List.mem_cons.mp q with q |q
  ·exact hnb q.symm
  ·exact hb q
 ·rcases List.mem_cons.mp hi with rfl |hi
  ·exact fun q=>nem (aj z.P i []▸q:b∈([]:List Int))
  ·exact fun q=> (hP i hi).2 ((af z.P [] (ne_mem hi hn))▸q)
 ·replace hk:(upd (upd z.bd n1 (newB z x ax new num)) x (setBx ax old (z.bd x)) p).kind=axK ax:=hk
  rw[gb e] at hk
  unfold lsA at hm
  dsimp only at hm
  rw[gP e] at hm
  exact hA m ℓ (z.bn+8) w' p n e hk ⟨fun s hs=>mv.low hs,fun j hj=>mv.six (ne_mem hj hn)⟩ (by lia) hm
 ·refine hB m ℓ2 (z.bn+14) (fun w' p n e=> ?_) ⟨fun s hs=> ((mv2.low hs).trans (mv.low hs)),fun j hj=> (mv2.six (ne_mem hj hb)).trans (mv.six (ne_mem hj hn))⟩ (by lia) PP p1 (fun w' p n e=> ?_) hm
  ·have:=hne w' p n e
   rw[show(lsA z ℓ (z.bn+8) x n1 ax old new num (upd z.P n1 [])).bd p=z.bd p from gb e] at this
   exact this
  ·have:=p2 w' p n e
   rw[show(lsA z ℓ (z.bn+8) x n1 ax old new num (upd z.P n1 [])).P p=z.P p from gP e] at this
   exact this
end
section
variable{μ μ':MH}{z:Z}{i:Int}{Φ:Pst}{Ψ:Exc}{d:Nat}
theorem law_split_spec{way:Way}{x rt n1 b ax num:Int}{nth:Nat}{k:F}{sz:Option Int}{ah:Bool}(h:R μ z)(hk:Lk z (.node rt k .nil))(hf:av k < 300)(hlw:(lw [] rt k)[nth]? =some (x,way))(hll:(lw [] rt k).length < 1000)(hx:x∈z.L)(hx0:(z.bd x).kind=0)(hwl:way.length < 400)(hwL:∀e∈way,e.1∈z.L)
  (hway:∀w' p n,way=w'++ [(p,n)]→((z.bd p).kind=1∨(z.bd p).kind=2)∧n < (z.P p).length∧(z.P p).length≤80)
  (hn:n1∉z.L) (hb:b∉z.L) (hnb:n1≠b) (hP:∀i∈z.L,n1∉z.P i∧b∉z.P i) (hbn:z.bn < 9000)
  (hN:∀m,Ext μ m→tooSmall ax (axB ax (z.bd x)) sz→Φ .none m)
  (hA:∀m ℓ B w' p n,¬tooSmall ax (axB ax (z.bd x)) sz→way=w'++ [(p,n)]→(z.bd p).kind=axK ax→MovL z ℓ→B≤z.bn+20→R m (lsA z ℓ B x n1 ax (axB ax (z.bd x) - newSz (axB ax (z.bd x)) sz) (newSz (axB ax (z.bd x)) sz) num (upd (upd z.P n1 []) p ((z.P p).take n++prL x n1 ah++(z.P p).drop (n+1))))→Φ (.ref (ℓ (6,rt))) m)
  (hB:∀m ℓ B,¬tooSmall ax (axB ax (z.bd x)) sz→(∀w' p n,way=w'++ [(p,n)]→(z.bd p).kind≠axK ax)→MovL z ℓ→B≤z.bn+20→∀PP,(way= []→PP=upd (upd z.P n1 []) b (prL x n1 ah))→(∀w' p n,way=w'++ [(p,n)]→PP=upd (upd (upd z.P n1 []) b (prL x n1 ah)) p ((z.P p).take n++ [b]++(z.P p).drop (n+1)))→R m (lsB z ℓ B x n1 b ax (axB ax (z.bd x) - newSz (axB ax (z.bd x)) sz) (newSz (axB ax (z.bd x)) sz) num PP)→Φ (.ref (ℓ (6,if way= [] then b else rt))) m):
  az tab (d+2) 381 [.ref (z.loc (6,rt)), .int nth,optV sz, .str (axN ax), .bool ah, .int num] μ Φ Ψ:=by
 refine call_of (fn:=b7) rfl rfl ?_
 have g1:bindM b7.params [.ref (z.loc (6,rt)), .int nth,optV sz, .str (axN ax), .bool ah, .int num] "root"=some (.ref (z.loc (6,rt))):=rfl
 have g2:bindM b7.params [.ref (z.loc (6,rt)), .int nth,optV sz, .str (axN ax), .bool ah, .int num] "nth"=some (.int nth):=rfl
 have g3:bindM b7.params [.ref (z.loc (6,rt)), .int nth,optV sz, .str (axN ax), .bool ah, .int num] "size"=some (optV sz):=rfl
 have g4:bindM b7.params [.ref (z.loc (6,rt)), .int nth,optV sz, .str (axN ax), .bool ah, .int num] "axis"=some (.str (axN ax)):=rfl
 have g5:bindM b7.params [.ref (z.loc (6,rt)), .int nth,optV sz, .str (axN ax), .bool ah, .int num] "is_ahead"=some (.bool ah):=rfl
 have g6:bindM b7.params [.ref (z.loc (6,rt)), .int nth,optV sz, .str (axN ax), .bool ah, .int num] "number"=some (.int num):=rfl
 generalize bindM b7.params [.ref (z.loc (6,rt)), .int nth,optV sz, .str (axN ax), .bool ah, .int num]=ρ0 at *
 show aA _ (.cons (.unpack [(.name "own"),(.name "way")] (.item (.call (.glob "_law_leaves" (.ref 341)) (.cons (.var "root") .nil)) (.var "nth"))) (.cons (.assign (.name "later") (.ite (.isNone true (.var "size")) (.bin .fdiv (.item (.var "own") (.var "axis")) (.cst (.int 2))) (.ite (.cmp .gt (.var "size") (.cst (.int 0))) (.bin .sub (.item (.var "own") (.var "axis")) (.var "size")) (.bin .sub (.cst (.int 0)) (.var "size"))))) (aJ 2 b7.body))) _ _ _ _
 simp[g1]
 refine law_leaves_spec (d:=d) h hk (by lia) fun m fa as he hfa hF=> ?_
 refine q18 (hF.get hlw) fun a w ga gt gw=> ?_
 have hm:=h.ext he
 have it:itemOf m (.ref fa) (.int nth)=some (.ref a):=item_list hfa (by rw[List.getElem?_map,ga];rfl) (by rw[List.length_map,hF.len];unfold LIM;lia)
 simp[↓exe g2,↓exe it,↓exf (tuple_ref gt)]
 have bax:=hm.bAx hx hx0 ax
 generalize hwh:axB ax (z.bd x)=whole at *
 have rest:∀ρ,ρ "root"=some (.ref (z.loc (6,rt)))→ρ "own"=some (.ref (z.loc (6,x)))→ρ "way"=some (.ref w)→ρ "axis"=some (.str (axN ax))→ρ "is_ahead"=some (.bool ah)→ρ "number"=some (.int num)→ρ "later"=some (.int (newSz whole sz))→
   aA (az tab (d+1)) (aJ 2 b7.body) ρ m (bf Φ) Ψ:=fun ρ r1 r2 r3 r4 r5 r6 r7=>by
  show aA _ (.cons (.assign (.name "least") (.ite (.cmp .eq (.var "axis") (.cst (.str (Str.ofString "row")))) (.cst (.int 3)) (.cst (.int 2)))) (.cons (.ite (.boolop false (.cmp .lt (.bin .sub (.item (.var "own") (.var "axis")) (.var "later")) (.var "least")) (.cmp .lt (.var "later") (.var "least"))) (.cons (.ret (.cst .none)) .nil) .nil) (aJ 4 b7.body))) _ _ _ _
  have rest2:∀ρ,ρ "root"=some (.ref (z.loc (6,rt)))→ρ "own"=some (.ref (z.loc (6,x)))→ρ "way"=some (.ref w)→ρ "axis"=some (.str (axN ax))→ρ "is_ahead"=some (.bool ah)→ρ "number"=some (.int num)→ρ "later"=some (.int (newSz whole sz))→ρ "least"=some (.int (least ax))→
    aA (az tab (d+1)) (.cons (.ite (.boolop false (.cmp .lt (.bin .sub (.item (.var "own") (.var "axis")) (.var "later")) (.var "least")) (.cmp .lt (.var "later") (.var "least"))) (.cons (.ret (.cst .none)) .nil) .nil) (aJ 4 b7.body)) ρ m (bf Φ) Ψ:=fun ρ r1 r2 r3 r4 r5 r6 r7 r8=>by
   have tail:¬tooSmall ax whole sz→aA (az tab (d+1)) (aJ 4 b7.body) ρ m (bf Φ) Ψ:=fun hs=>by
    refine ls_tail (d:=d) hm hx hx0 hwl gw hwL hway hn hb hnb hP hbn hk.1 r1 r2 r3 r4 r5 r6 r7 (old:=whole - newSz whole sz) (by rw[hwh]) (fun m' ℓ B w' p n e1 e2 e3 e4 h'=>hA m' ℓ B w' p n hs e1 e2 e3 e4 h') fun m' ℓ B e1 e2 e3 PP p1 p2 h'=>hB m' ℓ B hs e1 e2 e3 PP p1 p2 h'
   simp[↓exe r2,↓exe r4,↓exe r7,↓exe r8,↓exe bax]
   by_cases q1:whole - newSz whole sz < least ax
   ·simp[q1];exact hN m he (.inl q1)
   ·simp only[q1,decide_false]
    by_cases q2:newSz whole sz < least ax
    ·simp[q2,↓exe r7,↓exe r8];exact hN m he (.inr q2)
    ·simp[q2,↓exe r7,↓exe r8]
     exact tail fun q=>q.elim q1 q2
  rw[ev_cons]
  simp[↓exe r4]
  by_cases q:ax=0
  ·have:(axN ax==Str.ofString "row")=true:=by rw[q];rfl
   rw[this,kE_ite_t];exact rest2 (upd ρ "least" (some (.int 3))) r1 r2 r3 r4 r5 r6 r7 (by simp[least,q])
  ·have:(axN ax==Str.ofString "row")=false:=by unfold axN axK;rw[if_neg q];rfl
   rw[this,kE_ite_f];exact rest2 (upd ρ "least" (some (.int 2))) r1 r2 r3 r4 r5 r6 r7 (by simp[least,q])
 cases sz with
 |none=>
  simp[none_n,none_i,none_r,optV,↓exe g3,↓exe g4,↓exe bax]
  rw[k_of (show binOf .fdiv (.int whole) (.int 2)=some (.int (whole.fdiv 2)) from rfl)]
  exact rest (upd (upd (upd ρ0 "own" (some (MV.ref (z.loc (6,x))))) "way" (some (MV.ref w))) "later" (some (.int (whole.fdiv 2)))) g1 rfl rfl g4 g5 g6 (by simp[newSz])
 |some s=>
  simp[none_n,none_i,none_r,optV,↓exe g3]
  by_cases q:0 < s
  ·simp[q,optV,↓exe g3,↓exe g4,↓exe bax]
   exact rest (upd (upd (upd ρ0 "own" (some (MV.ref (z.loc (6,x))))) "way" (some (MV.ref w))) "later" (some (.int (whole - s)))) g1 rfl rfl g4 g5 g6 (by simp[newSz,q])
  ·simp[q,optV,↓exe g3]
   exact rest (upd (upd (upd ρ0 "own" (some (MV.ref (z.loc (6,x))))) "way" (some (MV.ref w))) "later" (some (.int (-s)))) g1 rfl rfl g4 g5 g6 (by simp[newSz,q])
end
section
variable{μ μ':MH}{z:Z}{i:Int}{Φ:Pst}{Ψ:Exc}{d:Nat}
theorem setBx_idem(ax v:Int)(b:BD):setBx ax v (setBx ax v b)=setBx ax v b:=by unfold setBx;split <;> rfl
theorem lg_scan{T:MH→Prop}{μ0:MH}(h:R μ0 z){a sa:Addr}(ha:μ0 a=none){cs:List Int}(hsa:μ0 sa=some (.list (bx z cs)))(hl:cs.length < 900)(hc:∀c∈cs,c∈z.L∧((z.bd c).kind=0∨(z.bd c).kind=1∨(z.bd c).kind=2)):
  ∀(rs dn:List Int) (μ:MH),cs=dn++rs→Ext μ0 μ→μ a=some (.list (bx z (dn.filter fun c=>decide ((z.bd c).kind≠0))))→
  (∀m,Ext μ0 m→m a=some (.list (bx z (cs.filter fun c=>decide ((z.bd c).kind≠0))))→T m)→cmpG sa (tIf (Str.ofString "sort") (Str.ofString "leaf") a) T (rs.length+1) dn.length μ:=by
 intro rs
 induction rs with
 |nil=>
  intro dn μ e he q hT
  rw[List.length_nil,cmpG_succ]
  refine⟨_,he _ _ hsa,?_⟩
  have:(bx z cs)[dn.length]? =none:=by rw[e];simp[bx]
  rw[this]
  exact hT μ he (by rw[e];simpa using q)
 |cons c rs ih=>
  intro dn μ e he q hT
  rw[List.length_cons,cmpG_succ]
  refine⟨_,he _ _ hsa,?_⟩
  have:(bx z cs)[dn.length]? =some (.ref (z.loc (6,c))):=by rw[e];simp[bx]
  rw[this]
  obtain⟨cL,ck⟩:=hc c (by rw[e];simp)
  have hm:=h.ext he
  have el:dn.length+1=(dn++ [c]).length:=by simp
  have hfl:(bx z (dn.filter fun c=>decide ((z.bd c).kind≠0))).length < LIM:=by
   have:=List.length_filter_le (fun c=>decide ((z.bd c).kind≠0)) dn
   rw[e] at hl;simp at hl
   simp only[bx,List.length_map,LIM];lia
  refine⟨_,hm.bSort cL,?_⟩
  by_cases k0:(z.bd c).kind=0
  ·refine⟨false,by rw[k0];decide,_,q,hfl,?_⟩
   rw[el]
   exact ih (dn++ [c]) μ (by rw[e];simp) he (by rw[q,List.filter_append];simp[k0]) hT
  ·refine⟨true,?_,_,q,hfl,?_⟩
   ·rcases ck with k |k |k
    ·exact absurd k k0
    ·rw[k];decide
    ·rw[k];decide
   rw[el]
   show cmpG _ _ _ _ _ (upd μ a _)
   exact ih (dn++ [c]) _ (by rw[e];simp) (he.chg ha fun x hx=>af _ _ hx) (by rw[aj,List.filter_append];simp[k0,bx]) hT
theorem lg_for{C:aB}{T:FPst}{sa:Addr}{cs:List Int}{ax v:Int}(hl:cs.length < 900):∀(rs dn:List Int) (z:Z) (ρ:ao) (μ:MH),cs=dn++rs→R μ z→z.bn+rs.length < 9900→μ sa=some (.list (bx z cs))→(∀c∈cs,c∈z.L∧sa≠z.loc (6,c))→
  ρ "axis"=some (.str (axN ax))→ρ "size"=some (.int v)→
  (∀ρ' m B,R m {z with bd:=fun j=>if j∈rs then setBx ax v (z.bd j) else z.bd j,bn:=B}→B≤z.bn+rs.length→(∀x,(∀c∈rs,x≠z.loc (6,c))→m x=μ x)→(∀x,x≠"part"→ρ' x=ρ x)→T .next ρ' m)→
  foL C sa "part" (.cons (.assign (.item (.var "part") (.var "axis")) (.var "size")) .nil) T (rs.length+1) dn.length ρ μ:=by
 intro rs
 induction rs with
 |nil=>
  intro dn z ρ μ e h hb q hc r1 r2 hT
  rw[List.length_nil,foL_succ]
  refine⟨_,q,?_⟩
  have:(bx z cs)[dn.length]? =none:=by rw[e];simp[bx]
  rw[this]
  exact hT ρ μ z.bn h (by simp) (fun u_ u_=>rfl) fun u_ u_=>rfl
 |cons c rs ih=>
  intro dn z ρ μ e h hb q hc r1 r2 hT
  rw[List.length_cons,foL_succ]
  refine⟨_,q,?_⟩
  have:(bx z cs)[dn.length]? =some (.ref (z.loc (6,c))):=by rw[e];simp[bx]
  rw[this]
  obtain⟨cL,cne⟩:=hc c (by rw[e];simp)
  simp[↓exe r1,↓exe r2]
  refine h.sAx cL (by simp at hb;lia) ax v fun m h1 o1=> ?_
  have el:dn.length+1=(dn++ [c]).length:=by simp
  rw[el]
  refine ih (dn++ [c]) {z with bd:=upd z.bd c (setBx ax v (z.bd c)),bn:=z.bn+1} _ m (by rw[e];simp) h1 (by simp at hb⊢;lia) ((o1 sa cne).trans q) hc r1 r2 fun ρ' m' B h2 hB o2 hρ=>hT ρ' m' B (h2.eq ?_) (by simp at hB⊢;lia) (fun x hx=> ?_) fun x hx=> ((hρ x hx).trans ((af _ _ hx)))
  ·congr 1
   funext j
   dsimp only
   by_cases e1:j=c
   ·rw[e1];rw[aj];simp[setBx_idem]
   ·rw[af _ _ e1];simp[e1]
  ·rw[o2 x fun c' hc'=>hx c' (.tail _ hc'),o1 x (hx c (.head _))]
end
theorem eraseIdx_mapf{α β:Type}(f:α→β)(l:List α)(n:Nat):(l.map f).eraseIdx n=(l.eraseIdx n).map f:=by
 induction l generalizing n with
 |nil=>rfl
 |cons a r ih=>cases n with
  |zero=>rfl
  |succ n=>simp[ih]
theorem L2.init{Q:Addr→Prop}{μ:MH}:∀{as:List Addr} {ts:List (List MV)},L2 Q μ as ts→L2 Q μ as.dropLast ts.dropLast
 |_,_, .nil=> .nil
 |_,_, .cons q e .nil=> .nil
 |_,_, .cons q e (.cons q' e' r)=> .cons q e (L2.init (.cons q' e' r))
section
variable{μ μ':MH}{z:Z}{i:Int}{Φ:Pst}{Ψ:Exc}{d:Nat}
theorem WayAt.ne{w:Addr}{way:Way}(h:R μ z)(hw:WayAt z μ w way)(h0:way≠[]){p:Int}(hp:p∈z.L)(hc:∀c∈z.P p,c∈z.L):w≠z.loc (7,p):=fun e=>by
 refine q17 hw fun ts h1 h2=> ?_
 cases way with
 |nil=>exact h0 rfl
 |cons e0 way=>
  cases h2 with
  |cons _ ht r=>
   rw[e,h.parts p hp] at h1
   cases hP:z.P p with
   |nil=>rw[hP] at h1;simp at h1
   |cons c l=>
    rw[hP] at h1
    simp at h1
    obtain⟨f,n,e1,_⟩:=h.box c (hc c (by rw[hP];simp))
    rw[h1.1,ht] at e1;cases e1
theorem WayAt.init{w:Addr}{way:Way}{e:Int×Nat}(hw:WayAt z μ w (way++ [e])){w2:Addr}{xs:List MV}(hx:μ w=some (.list xs)){m:MH}(he:Ext μ m)(h2:m w2=some (.list xs.dropLast)):WayAt z m w2 way:=by
 refine q17 hw fun ts h1 hl=> ?_
 rw[h1] at hx;cases hx
 refine⟨ts.dropLast,by rw[h2,List.map_dropLast],?_⟩
 have:=hl.init
 rw[List.map_append,List.map_cons,List.map_nil,List.dropLast_concat] at this
 exact this.chg fun x t u_ q=> (he _ _ q).trans q.symm
noncomputable def csOf(z:Z)(q:Int):List Int:=if z.P q= [] then [q] else z.P q
noncomputable def lgZ(z:Z)(B:Nat)(q ax v:Int)(PP:Int→List Int):Z:={z with P:=PP,bd:=fun j=>if j∈csOf z q then setBx ax v (z.bd j) else z.bd j,bn:=B}
noncomputable def qOf(l:List Int)(n:Nat):Int:=l.getD (if 0 < n then n - 1 else 1) 0
theorem lg_end{y:Z}{ρ:ao}{w:Addr}{w':Way}{rt p q:Int}{n:Nat}(h:R μ y)(hw:WayAt y μ w (w'++ [(p,n)]))(hp:p∈y.L)(hq:q∈y.L)(hwl:w'.length < 300)(hpl:(y.P p).length≤80)(hql:(y.P q).length≤80)(hqk:(y.bd q).kind=0∨(y.bd q).kind=1∨(y.bd q).kind=2)
  (hway2:∀w'' g u,w'=w''++ [(g,u)]→g∈y.L∧((y.bd g).kind=1∨(y.bd g).kind=2)∧u < (y.P g).length∧(y.P g).length≤80∧g≠q)
  (s1:ρ "root"=some (.ref (y.loc (6,rt)))) (s3:ρ "way"=some (.ref w)) (s5:ρ "around"=some (.ref (y.loc (6,p)))) (s7:ρ "other"=some (.ref (y.loc (6,q))))
  (hK:1 < (y.P p).length→Φ (.ref (y.loc (6,rt))) μ)
  (hR:∀m,¬1 < (y.P p).length→w'= []→R m y→Φ (.ref (y.loc (6,q))) m)
  (hU:∀m w'' g u,¬1 < (y.P p).length→w'=w''++ [(g,u)]→R m {y with P:=upd y.P g ((y.P g).take u++(if(y.bd g).kind=(y.bd q).kind then y.P q else [q])++(y.P g).drop (u+1))}→Φ (.ref (y.loc (6,rt))) m):
  aA (az tab (d+1)) (aJ 9 cH.body) ρ μ (bf Φ) Ψ:=by
 have lp:=aE (h.parts p hp)
 show aA _ (.cons (.ite (.cmp .gt (.len (.item (.var "around") (.cst (.str (Str.ofString "parts"))))) (.cst (.int 1))) (.cons (.ret (.var "root")) .nil) .nil) (aJ 10 cH.body)) _ _ _ _
 rw[ev_cons]
 simp[↓exe s5,↓exe (h.bParts hp),↓exf lp]
 refine⟨by unfold LIM;lia,?_⟩
 by_cases h3l:1 < (y.P p).length
 ·rw[kE_iteS_p (by lia)]
  simp[↓exe s1]
  exact hK h3l
 rw[kE_iteS_n (by lia)]
 refine q19 hw.list fun xs x1 x2 x3=> ?_
 have fin:∀(mg:Bool),(w'= []→mg=false)→(∀w'' g u,w'=w''++ [(g,u)]→mg=decide ((y.bd g).kind=(y.bd q).kind))→
   aA (az tab (d+1)) (aJ 11 cH.body) (upd ρ "is_merged" (some (.bool mg))) μ (bf Φ) Ψ:=fun mg m0 m1'=>by
  show aA _ (.cons (.ret (.call (.glob "_law_put" (.ref 374)) (.cons (.var "root") (.cons (.init (.var "way")) (.cons (.ite (.var "is_merged") (.item (.var "other") (.cst (.str (Str.ofString "parts")))) (.list (.cons (.var "other") .nil))) .nil))))) .nil) _ _ _ _
  simp[↓exe s1,↓exe s3,↓exf (aE x1)]
  refine⟨by rw[x3];simp[LIM];lia,fun w2 hw2=> ?_⟩
  have e5:=(Ext.refl μ).new hw2 (some (.list xs.dropLast))
  have hw5:=hw.init x1 e5 (aj _ _ _)
  have h5:=h.ext e5
  generalize upd μ w2 (some (.list xs.dropLast))=m5 at *
  have putit:∀m6 q6 l,Ext m5 m6→(w'= []→l= [q])→(∀w'' g u,w'=w''++ [(g,u)]→l=(if(y.bd g).kind=(y.bd q).kind then y.P q else [q])∧l.length≤80∧q6≠y.loc (7,g))→m6 q6=some (.list (bx y l))→
    az tab (d+1) 374 [.ref (y.loc (6,rt)), .ref w2, .ref q6] m6 Φ Ψ:=fun m6 q6 l e6 l0 l1 hq6=>by
   have h6:=h5.ext e6
   have hw6:=hw5.ext e6
   by_cases w0:w'= []
   ·subst w0
    rw[l0 rfl] at hq6
    exact law_put_root (d:=d) hw6 hq6 ((by decide)) (hR m6 h3l rfl h6)
   ·refine q9 (snoc_of w0) fun w'' g u rf3=> ?_
    subst rf3
    refine q3 (hway2 w'' g u rfl) fun gL gk gu g80 gq=> ?_
    refine q2 (l1 w'' g u rfl) fun la lb lc=> ?_
    refine law_put_spec (d:=d) h6 hw6 (by simp at hwl;lia) gL gu (by lia) (by lia) hq6 lc fun m7 h7=> ?_
    rw[la] at h7
    exact hU m7 w'' g u h3l rfl h7
  cases mg with
  |true=>
   have wn:w'≠[]:=fun e=>by simpa using m0 e
   simp[↓exe s7,↓exe (h5.bParts hq)]
   refine putit m5 _ (y.P q) (Ext.refl m5) (fun e=>absurd e wn) (fun w'' g u e=> ?_) (h5.parts q hq)
   refine q3 (hway2 w'' g u e) fun gL gk gu g80 gq=> ?_
   exact⟨(if_pos (of_decide_eq_true (m1' w'' g u e).symm)).symm,hql,h.ne (live7 hq) (live7 gL) (by simp[Ne.symm gq])⟩
  |false=>
   simp[↓exe s7]
   refine⟨by decide,fun q6 hq6=> ?_⟩
   have n6:=h5.nl hq6
   refine putit _ q6 [q] ((Ext.refl m5).new hq6 _) (fun u_=>rfl) (fun w'' g u e=> ?_) (by rw[aj];rfl)
   exact⟨(if_neg (of_decide_eq_false (m1' w'' g u e).symm)).symm,(Nat.zero_lt_succ _),fun e'=>n6 _ (live7 (hway2 w'' g u e).1) e'.symm⟩
 show aA _ (.cons (.assign (.name "is_merged") (.boolop true (.cmp .gt (.len (.var "way")) (.cst (.int 1))) (.cmp .eq (.item (.item (.item (.var "way") (.neg (.cst (.int 2)))) (.cst (.int 0))) (.cst (.str (Str.ofString "sort")))) (.item (.var "other") (.cst (.str (Str.ofString "sort"))))))) (aJ 11 cH.body)) _ _ _ _
 rw[ev_cons]
 simp[↓exe s3,↓exf (aE x1)]
 refine⟨by rw[x3];simp[LIM];lia,?_⟩
 by_cases w0:w'= []
 ·subst w0
  have:decide (1 < (xs.length:Int))=false:=by rw[x3];rfl
  simp[this]
  exact fin false (fun u_=>rfl) fun w'' g u e=>by simp at e
 ·refine q9 (snoc_of w0) fun w'' g u rf3=> ?_
  subst rf3
  refine q3 (hway2 w'' g u rfl) fun gL gk gu g80 gq=> ?_
  obtain⟨t,t1,t2⟩:=hw.last2 (by simp at hwl;lia)
  have:decide (1 < (xs.length:Int))=true:=by rw[x3];simp;lia
  simp[this,↓exe s3,↓exe t1,↓exe (tup0 t2),↓exe (h.bSort gL),↓exe s7,↓exe (h.bSort hq),kind_eq (.inr gk) hqk]
  refine fin _ (fun e=>by simp at e) fun w2 g2 u2 e=> ?_
  refine q0 (List.append_inj' e rfl) fun u_ e=> ?_
  simp at e
  refine q0 e fun rf0 rf1=> ?_
  subst rf0
  subst rf1
  rfl
theorem lg_tail{ρ:ao}{w sa:Addr}{w':Way}{x rt p q ax:Int}{n:Nat}{kq:F}{sz:Int→Int}(h:R μ z)(hx:x∈z.L)(hx0:(z.bd x).kind=0)(hwl:w'.length < 300)(hw:WayAt z μ w (w'++ [(p,n)]))
  (hp:p∈z.L) (hpk:(z.bd p).kind=axK ax) (hn:n < (z.P p).length) (h2:2≤(z.P p).length) (h80:(z.P p).length≤80) (hpc:∀c∈z.P p,c∈z.L) (hqp:q≠p) (hkq:Lk z (.node q kq .nil)) (hfq:av kq≤d) (hls:∀e∈nodes (.node q kq .nil),LS z ax sz e.1 e.2) (hbn:z.bn < 9000) (hq90:(csOf z q).length≤80) (hqc:∀c∈csOf z q,c∈z.L∧((z.bd c).kind=0∨(z.bd c).kind=1∨(z.bd c).kind=2))
  (hsa:μ sa=some (.list (bx z (csOf z q)))) (hsa2:∀c∈z.L,sa≠z.loc (6,c)) (hsa3:sa≠z.loc (7,p))
  (hway2:∀w'' g u,w'=w''++ [(g,u)]→g∈z.L∧((z.bd g).kind=1∨(z.bd g).kind=2)∧u < (z.P g).length∧(z.P g).length≤80∧g≠p∧g≠q∧g∉csOf z q)
  (r1:ρ "root"=some (.ref (z.loc (6,rt)))) (r2:ρ "own"=some (.ref (z.loc (6,x)))) (r3:ρ "way"=some (.ref w)) (r4:ρ "axis"=some (.str (axN ax))) (r5:ρ "around"=some (.ref (z.loc (6,p)))) (r6:ρ "at"=some (.int n)) (r7:ρ "other"=some (.ref (z.loc (6,q)))) (r8:ρ "some"=some (.ref sa))
  (hN:∀m,Ext μ m→Φ .none m)
  (hK:∀m B,3≤(z.P p).length→(∀c∈csOf z q,(z.bd c).kind=0)→B≤z.bn+100→R m (lgZ z B q ax (sz q+axB ax (z.bd x)) (upd z.P p ((z.P p).eraseIdx n)))→Φ (.ref (z.loc (6,rt))) m)
  (hR:∀m B,(z.P p).length=2→w'= []→(∀c∈csOf z q,(z.bd c).kind=0)→B≤z.bn+100→R m (lgZ z B q ax (sz q+axB ax (z.bd x)) (upd z.P p ((z.P p).eraseIdx n)))→Φ (.ref (z.loc (6,q))) m)
  (hU:∀m B w'' g u,(z.P p).length=2→w'=w''++ [(g,u)]→(∀c∈csOf z q,(z.bd c).kind=0)→B≤z.bn+100→R m (lgZ z B q ax (sz q+axB ax (z.bd x)) (upd (upd z.P p ((z.P p).eraseIdx n)) g ((z.P g).take u++(if(z.bd g).kind=(z.bd q).kind then z.P q else [q])++(z.P g).drop (u+1))))→Φ (.ref (z.loc (6,rt))) m):
  aA (az tab (d+1)) (aJ 5 cH.body) ρ μ (bf Φ) Ψ:=by
 show aA _ (.cons (.ite (.neNil false (.compIf "part" (Str.ofString "sort") (Str.ofString "leaf") (.var "some"))) (.cons (.ret (.cst .none)) .nil) .nil) (.cons (.assign (.name "size") (.bin .add (.call (.glob "_law_size" (.ref 360)) (.cons (.var "other") (.cons (.var "axis") .nil))) (.item (.var "own") (.var "axis")))) (.cons (.expr (.bm .popAt (.item (.var "around") (.cst (.str (Str.ofString "parts")))) (.cons (.var "at") .nil))) (.cons (.for "part" (.var "some") (.cons (.assign (.item (.var "part") (.var "axis")) (.var "size")) .nil)) (aJ 9 cH.body))))) _ _ _ _
 rw[ev_cons]
 simp[e_compIf,↓exe r8]
 refine⟨_,(csOf z q).length+1,_,rfl,hsa,fun a ha=> ?_⟩
 refine lg_scan h ha hsa (by lia) hqc (csOf z q) [] _ rfl ((Ext.refl μ).new ha _) (by rw[aj];rfl) fun m he hma=> ⟨_,aE hma,?_⟩
 by_cases hal:∀c∈csOf z q,(z.bd c).kind=0
 case neg=>
  have:(bx z ((csOf z q).filter fun c=>decide ((z.bd c).kind≠0))).isEmpty=false:=by
   rw[List.isEmpty_eq_false_iff]
   intro e
   refine hal fun c hc=>Classical.byContradiction fun k0=> ?_
   have hf:c∈(csOf z q).filter fun c=>decide ((z.bd c).kind≠0):=List.mem_filter.mpr ⟨hc,by simpa using k0⟩
   have:(csOf z q).filter (fun c=>decide ((z.bd c).kind≠0))= []:=List.map_eq_nil_iff.mp e
   rw[this] at hf;cases hf
  rw[this]
  simp
  exact hN m he
 have:(csOf z q).filter (fun c=>decide ((z.bd c).kind≠0))= []:=List.filter_eq_nil_iff.mpr fun c hc=>by simp[hal c hc]
 rw[this]
 have hm:=h.ext he
 have hwm:=hw.ext he
 simp[bx,↓exe r7,↓exe r4]
 refine law_size_spec (z:=z) (ax:=ax) (sz:=sz) d q kq m _ _ hm hkq hls hfq fun m1 he1=> ?_
 have h1:=hm.ext he1
 have hw1:=hwm.ext he1
 have sa1:=he1 _ _ (he _ _ hsa)
 simp[↓exe r2,↓exe r4,↓exe (h1.bAx hx hx0 ax),ok_popAt,aE (h1.parts p hp),↓exe r5,↓exe r6,↓exe (h1.bParts hp)]
 rw[p_popAt]
 have e7:pyIdx (n:Int) ((z.P p).map fun j=>MV.ref (z.loc (6,j))).length=some n:=by
  unfold pyIdx
  rw[if_neg (by simp[LIM];lia),if_pos ⟨by lia,by simpa using hn⟩];simp
 refine⟨_,n,_,aE (h1.parts p hp),by simp[LIM];lia,e7,by rw[List.getElem?_map,List.getElem?_eq_getElem hn];rfl,?_⟩
 have er:((z.P p).map fun j=>MV.ref (z.loc (6,j))).eraseIdx n=((z.P p).eraseIdx n).map fun j=>MV.ref (z.loc (6,j)):=eraseIdx_mapf _ _ _
 rw[er]
 have h3:=h1.setP hp ((z.P p).eraseIdx n)
 have o3:∀y,y≠z.loc (7,p)→upd m1 (z.loc (7,p)) (some (MO.list (((z.P p).eraseIdx n).map fun j=>MV.ref (z.loc (6,j))))) y=m1 y:=fun y hy=>af _ _ hy
 generalize upd m1 (z.loc (7,p)) (some (MO.list (((z.P p).eraseIdx n).map fun j=>MV.ref (z.loc (6,j)))))=m3 at *
 have wne:=hw1.ne h1 (by simp) hp hpc
 have hw3:WayAt z m3 w (w'++ [(p,n)]):=hw1.keep fun y o e c=>by
  rw[o3 y fun q=> ?_]
  ·exact e
  ·rcases c with c |⟨t,c⟩
   ·exact wne (c.symm.trans q)
   ·rw[q,h1.parts p hp,c] at e;cases e
 have sa3:=(o3 sa hsa3).trans sa1
 simp[↓exe r8]
 refine⟨(csOf z q).length+1,?_⟩
 refine lg_for (ax:=ax) (v:=sz q+axB ax (z.bd x)) (cs:=csOf z q) (by lia) (csOf z q) [] {z with P:=upd z.P p ((z.P p).eraseIdx n)} _ m3 rfl h3 (by show z.bn+_ < _;lia) sa3 (fun c hc=> ⟨(hqc c hc).1,hsa2 c (hqc c hc).1⟩) r4 rfl fun ρ4 m4 B h4 hB o4 hρ=> ?_
 have h4':R m4 (lgZ z B q ax (sz q+axB ax (z.bd x)) (upd z.P p ((z.P p).eraseIdx n))):=h4
 have hw4:WayAt z m4 w (w'++ [(p,n)]):=hw3.keep fun y o e c=>by
  by_cases q:∀c∈csOf z q,y≠z.loc (6,c)
  ·rw[o4 y q];exact e
  ·exfalso
   simp at q
   refine q17 q fun c' hc' q=> ?_
   refine q20 (h3.box c' (hqc c' hc').1) fun f nn e6 u_=> ?_
   skip
   rcases c with c |⟨t,c⟩
   ·refine q17 hw3.list fun xs x1 u_=> ?_
    rw[c] at q
    rw[←q,x1] at e6;cases e6
   ·rw[←q,e,c] at e6;cases e6
 have hB':B≤z.bn+100:=by dsimp only at hB;lia
 have s1:ρ4 "root"=some (.ref (z.loc (6,rt))):=by rw[hρ _ ((by decide))];simpa using r1
 have s3:ρ4 "way"=some (.ref w):=by rw[hρ _ ((by decide))];simpa using r3
 have s5:ρ4 "around"=some (.ref (z.loc (6,p))):=by rw[hρ _ ((by decide))];simpa using r5
 have s7:ρ4 "other"=some (.ref (z.loc (6,q))):=by rw[hρ _ ((by decide))];simpa using r7
 have ePp:(upd z.P p ((z.P p).eraseIdx n)) p=(z.P p).eraseIdx n:=aj _ _ _
 have llen:((z.P p).eraseIdx n).length=(z.P p).length - 1:=by rw[List.length_eraseIdx];simp[hn]
 have ePq:(upd z.P p ((z.P p).eraseIdx n)) q=z.P q:=af _ _ hqp
 have qk2:((if q∈csOf z q then setBx ax (sz q+axB ax (z.bd x)) (z.bd q) else z.bd q)).kind=(z.bd q).kind:=by
  split
  ·rw[setBx_kind]
  ·rfl
 have eg:∀{w'' g u},w'=w''++ [(g,u)]→(upd z.P p ((z.P p).eraseIdx n)) g=z.P g∧(if g∈csOf z q then setBx ax (sz q+axB ax (z.bd x)) (z.bd g) else z.bd g)=z.bd g:=fun e=>
  ⟨af _ _ (hway2 _ _ _ e).2.2.2.2.1,if_neg (hway2 _ _ _ e).2.2.2.2.2.2⟩
 refine lg_end h4' hw4 hp hkq.1 hwl (show List.length (upd _ _ _ p)≤80 by rw[ePp];lia) (show List.length (upd _ _ _ q)≤80 from ?_) (show BD.kind (ite _ _ _)=0∨BD.kind (ite _ _ _)=1∨BD.kind (ite _ _ _)=2 by rw[qk2];exact srt3 hkq.2.2.1) (fun w'' g u e=> ?_) s1 s3 s5 s7 (fun c=>hK m4 B ?_ hal hB' h4') (fun m c w0 hm=>hR m B ?_ w0 hal hB' hm) fun m w'' g u c w0 hm=>hU m B w'' g u ?_ w0 hal hB' ?_
 ·rw[ePq];unfold csOf at hq90
  split at hq90
  ·rename_i e0;rw[e0];simp
  ·exact hq90
 ·refine q43 (hway2 w'' g u e) fun gL gk gu g80 gp gq gc=> ?_
  refine⟨gL,show BD.kind (ite _ _ _)=1∨BD.kind (ite _ _ _)=2 from ?_,show u < List.length (upd _ _ _ g) from ?_,show List.length (upd _ _ _ g)≤80 from ?_,gq⟩
  ·rw[(eg e).2];exact gk
  ·rw[(eg e).1];exact gu
  ·rw[(eg e).1];exact g80
 ·replace c:1 < (upd z.P p ((z.P p).eraseIdx n) p).length:=c
  rw[ePp] at c;lia
 ·replace c:¬1 < (upd z.P p ((z.P p).eraseIdx n) p).length:=c
  rw[ePp] at c;lia
 ·replace c:¬1 < (upd z.P p ((z.P p).eraseIdx n) p).length:=c
  rw[ePp] at c;lia
 ·unfold lgZ at hm
  skip
  simp only[(eg w0).1,(eg w0).2,qk2,ePq] at hm
  exact hm
end
structure GoneOk(z:Z)(d:Nat)(sz:Int→Int)(x:Int)(w':Way)(p:Int)(n:Nat)(q:Int)(kq:F):Prop where
 pL:p∈z.L
 pk:(z.bd p).kind=1∨(z.bd p).kind=2
 nl:n < (z.P p).length
 two:2≤(z.P p).length
 l80:(z.P p).length≤80
 pc:∀c∈z.P p,c∈z.L
 qd:q=qOf (z.P p) n
 qp:q≠p
 lk:Lk z (.node q kq .nil)
 fq:av kq≤d
 ls:∀e∈nodes (.node q kq .nil),LS z (axOf (z.bd p).kind) sz e.1 e.2
 c80:(csOf z q).length≤80
 qc:∀c∈csOf z q,c∈z.L∧((z.bd c).kind=0∨(z.bd c).kind=1∨(z.bd c).kind=2)
 gg:∀w'' g u,w'=w''++ [(g,u)]→g∈z.L∧((z.bd g).kind=1∨(z.bd g).kind=2)∧u < (z.P g).length∧(z.P g).length≤80∧g≠p∧g≠q∧g∉csOf z q
theorem axK_axOf{s:Int}(h:s=1∨s=2):axK (axOf s)=s:=by rcases h with rfl |rfl <;> rfl
section
variable{μ μ':MH}{z:Z}{i:Int}{Φ:Pst}{Ψ:Exc}{d:Nat}
theorem law_gone_spec{way:Way}{x rt star:Int}{nth:Nat}{k:F}{sz:Int→Int}(h:R μ z)(hk:Lk z (.node rt k .nil))(hf:av k < 300)(hlw:(lw [] rt k)[nth]? =some (x,way))(hll:(lw [] rt k).length < 1000)(hx:x∈z.L)(hx0:(z.bd x).kind=0)(hwl:way.length < 300)(hbn:z.bn < 9000)
  (hway:∀w' p n,way=w'++ [(p,n)]→∃kq,GoneOk z d sz x w' p n (qOf (z.P p) n) kq)
  (hN:∀m,Ext μ m→Φ .none m)
  (hK:∀m B w' p n,way=w'++ [(p,n)]→(z.bd x).num≠star→3≤(z.P p).length→(∀c∈csOf z (qOf (z.P p) n),(z.bd c).kind=0)→B≤z.bn+100→R m (lgZ z B (qOf (z.P p) n) (axOf (z.bd p).kind) (sz (qOf (z.P p) n)+axB (axOf (z.bd p).kind) (z.bd x)) (upd z.P p ((z.P p).eraseIdx n)))→Φ (.ref (z.loc (6,rt))) m)
  (hR:∀m B p n,way= [(p,n)]→(z.bd x).num≠star→(z.P p).length=2→(∀c∈csOf z (qOf (z.P p) n),(z.bd c).kind=0)→B≤z.bn+100→R m (lgZ z B (qOf (z.P p) n) (axOf (z.bd p).kind) (sz (qOf (z.P p) n)+axB (axOf (z.bd p).kind) (z.bd x)) (upd z.P p ((z.P p).eraseIdx n)))→Φ (.ref (z.loc (6,qOf (z.P p) n))) m)
  (hU:∀m B w'' g u p n,way=w''++ [(g,u)]++ [(p,n)]→(z.bd x).num≠star→(z.P p).length=2→(∀c∈csOf z (qOf (z.P p) n),(z.bd c).kind=0)→B≤z.bn+100→R m (lgZ z B (qOf (z.P p) n) (axOf (z.bd p).kind) (sz (qOf (z.P p) n)+axB (axOf (z.bd p).kind) (z.bd x)) (upd (upd z.P p ((z.P p).eraseIdx n)) g ((z.P g).take u++(if(z.bd g).kind=(z.bd (qOf (z.P p) n)).kind then z.P (qOf (z.P p) n) else [qOf (z.P p) n])++(z.P g).drop (u+1))))→Φ (.ref (z.loc (6,rt))) m):
  az tab (d+2) 386 [.ref (z.loc (6,rt)), .int nth, .int star] μ Φ Ψ:=by
 refine call_of (fn:=cH) rfl rfl ?_
 have g1:bindM cH.params [.ref (z.loc (6,rt)), .int nth, .int star] "root"=some (.ref (z.loc (6,rt))):=rfl
 have g2:bindM cH.params [.ref (z.loc (6,rt)), .int nth, .int star] "nth"=some (.int nth):=rfl
 have g3:bindM cH.params [.ref (z.loc (6,rt)), .int nth, .int star] "starred"=some (.int star):=rfl
 generalize bindM cH.params [.ref (z.loc (6,rt)), .int nth, .int star]=ρ0 at *
 show aA _ (.cons (.unpack [(.name "own"),(.name "way")] (.item (.call (.glob "_law_leaves" (.ref 341)) (.cons (.var "root") .nil)) (.var "nth"))) (.cons (.ite (.boolop false (.neNil true (.var "way")) (.cmp .eq (.item (.var "own") (.cst (.str (Str.ofString "number")))) (.var "starred"))) (.cons (.ret (.cst .none)) .nil) .nil) (aJ 2 cH.body))) _ _ _ _
 simp[g1]
 refine law_leaves_spec (d:=d) h hk (by lia) fun m fa as he hfa hF=> ?_
 refine q18 (hF.get hlw) fun a w ga gt gw=> ?_
 have hm:=h.ext he
 have it:itemOf m (.ref fa) (.int nth)=some (.ref a):=item_list hfa (by rw[List.getElem?_map,ga];rfl) (by rw[List.length_map,hF.len];unfold LIM;lia)
 refine q19 gw.list fun xs x1 x2 x3=> ?_
 simp[↓exe g2,↓exe it,↓exf (tuple_ref gt),↓exf (aE x1)]
 by_cases w0:way= []
 ·replace w0:=w0.symm;subst w0
  have x0:xs= []:=by simpa using x2
  simp[x0]
  exact hN m he
 have x0:xs≠[]:=fun e=>by rw[e] at x2;cases way <;> simp at x2 w0
 simp[x0,↓exe g3,↓exe (hm.bNum hx hx0)]
 by_cases st:(z.bd x).num=star
 ·rw[kE_iteS_p st]
  simp
  exact hN m he
 rw[kE_iteS_n st]
 refine q9 (snoc_of w0) fun w' p n rf3=> ?_
 subst rf3
 refine q1 (hway w' p n rfl) fun kq G=> ?_
 have wl':w'.length < 300:=by simp at hwl;lia
 obtain⟨t,t1,t2⟩:=gw.last (by lia)
 generalize hq:qOf (z.P p) n=q at *
 have eax:=axK_axOf G.pk
 generalize hρ:upd (upd ρ0 "own" (some (MV.ref (z.loc (6,x))))) "way" (some (MV.ref w))=ρ1
 have s1:ρ1 "root"=some (.ref (z.loc (6,rt))):=by rw[←hρ];exact g1
 have s2:ρ1 "own"=some (.ref (z.loc (6,x))):=by rw[←hρ];rfl
 have s3:ρ1 "way"=some (.ref w):=by rw[←hρ];rfl
 show aA _ (.cons (.unpack [(.name "around"),(.name "at")] (.item (.var "way") (.neg (.cst (.int 1))))) (.cons (.multi [(.name "other"),(.name "axis")] (.cons (.item (.item (.var "around") (.cst (.str (Str.ofString "parts")))) (.ite (.cmp .gt (.var "at") (.cst (.int 0))) (.bin .sub (.var "at") (.cst (.int 1))) (.cst (.int 1)))) (.cons (.item (.var "around") (.cst (.str (Str.ofString "sort")))) .nil))) (aJ 4 cH.body))) _ _ _ _
 have srt:itemOf m (.ref (z.loc (6,p))) (.str (Str.ofString "sort"))=some (.str (axN (axOf (z.bd p).kind))):=by rw[hm.bSort G.pL];unfold axN;rw[eax]
 have itq:itemOf m (.ref (z.loc (7,p))) (.int (if 0 < n then n - 1 else 1:Nat))=some (.ref (z.loc (6,q))):=by
  refine item_list (hm.parts p G.pL) ?_ (by rw[List.length_map];have:=G.l80;unfold LIM;lia)
  have hlt:(if 0 < n then n - 1 else 1) < (z.P p).length:=by have:=G.nl;have:=G.two;split <;> lia
  rw[List.getElem?_map,List.getElem?_eq_getElem hlt,←hq]
  simp[qOf,List.getD,List.getElem?_eq_getElem hlt]
 have hqL:=G.lk.1
 have rest:∀ρ2,ρ2 "root"=some (.ref (z.loc (6,rt)))→ρ2 "own"=some (.ref (z.loc (6,x)))→ρ2 "way"=some (.ref w)→ρ2 "axis"=some (.str (axN (axOf (z.bd p).kind)))→ρ2 "around"=some (.ref (z.loc (6,p)))→ρ2 "at"=some (.int n)→ρ2 "other"=some (.ref (z.loc (6,q)))→
   aA (az tab (d+1)) (aJ 4 cH.body) ρ2 m (bf Φ) Ψ:=fun ρ2 r1 r2 r3 r4 r5 r6 r7=>by
  have rest2:∀m2 sa,Ext m m2→m2 sa=some (.list (bx z (csOf z q)))→(∀c∈z.L,sa≠z.loc (6,c))→sa≠z.loc (7,p)→aA (az tab (d+1)) (aJ 5 cH.body) (upd ρ2 "some" (some (.ref sa))) m2 (bf Φ) Ψ:=fun m2 sa e2 q1 q2 q3=>by
   refine lg_tail (d:=d) (ax:=axOf (z.bd p).kind) (q:=q) (p:=p) (n:=n) (sz:=sz) (x:=x) (rt:=rt) (w:=w) (w':=w') (hm.ext e2) hx hx0 wl' (gw.ext e2) G.pL eax.symm G.nl G.two G.l80 G.pc G.qp G.lk G.fq G.ls hbn G.c80 G.qc q1 q2 q3 G.gg r1 r2 r3 r4 r5 r6 r7 rfl (fun m' e'=>hN m' ((he.trans e2).trans e')) (fun m' B a1 a2 a3 h'=> ?_) (fun m' B a1 a2 a3 a4 h'=> ?_) (fun m' B w'' g u a1 a2 a3 a4 h'=> ?_)
   ·have:=hK m' B w' p n rfl st a1
    rw[hq] at this
    exact this a2 a3 h'
   ·subst a2
    have:=hR m' B p n rfl st a1
    rw[hq] at this
    exact this a3 a4 h'
   ·replace a2:=a2.symm;subst a2
    have:=hU m' B w'' g u p n rfl st a1
    rw[hq] at this
    exact this a3 a4 h'
  show aA _ (.cons (.assign (.name "some") (.ite (.neNil false (.item (.var "other") (.cst (.str (Str.ofString "parts"))))) (.item (.var "other") (.cst (.str (Str.ofString "parts")))) (.list (.cons (.var "other") .nil)))) (aJ 5 cH.body)) _ _ _ _
  simp[↓exe r7,↓exe (hm.bParts hqL),↓exf (aE (hm.parts q hqL))]
  by_cases p0:z.P q= []
  ·simp[p0,↓exe r7]
   refine⟨by decide,fun sa hsa=> ?_⟩
   have nsa:=hm.nl hsa
   exact rest2 _ sa ((Ext.refl m).new hsa _) (by rw[aj,csOf,if_pos p0];rfl) (fun c hc e=>nsa _ (live6 hc) e.symm) (fun e=>nsa _ (live7 G.pL) e.symm)
  ·simp[isE_ne p0,↓exe r7,↓exe (hm.bParts hqL)]
   refine rest2 m _ (Ext.refl m) (by rw[csOf,if_neg p0];exact hm.parts q hqL) (fun c hc=>hm.ne (live7 hqL) (live6 hc) ((ne1 (by decide)))) (hm.ne (live7 hqL) (live7 G.pL) (by simpa using G.qp))
 rw[ev_cons]
 simp[↓exe s3,↓exe t1,↓exf (tuple_ref t2),↓exe (hm.bParts G.pL)]
 by_cases n0:0 < n
 ·rw[if_pos n0] at itq
  have en:((n:Int) - 1)=((n - 1:Nat):Int):=by lia
  simp[n0,en,↓exe itq,↓exe srt]
  exact rest _ s1 s2 s3 rfl rfl rfl rfl
 ·rw[if_neg n0] at itq
  have itq':itemOf m (.ref (z.loc (7,p))) (.int 1)=some (.ref (z.loc (6,q))):=itq
  simp[n0,↓exe itq',↓exe srt]
  exact rest _ s1 s2 s3 rfl rfl rfl rfl
end
end
section
open PySem PyProof.Rows
noncomputable def LN(z:Z)(star:Int)(i:Int)(l:List Int):Prop:=
 (z.bd i).kind=(z.wd i).sort∧((z.bd i).kind=0→(z.bd i).buf=(z.wd i).buf∧((z.bd i).num=star↔i=z.sel))∧Sml (z.wd i)∧LS z 0 (fun j=> (z.wd j).wid) i l∧LS z 1 (fun j=> (z.wd j).hei) i l
section
variable{μ μ':MH}{z:Z}{i:Int}{Φ:Pst}{Ψ:Exc}{d:Nat}
noncomputable def LinesAt(z:Z)(star:Int)(d:Nat):Prop:=∀(i:Int) (k:F) (dp l t:Int) (μ:MH) (Φ:Pst) (Ψ:Exc),R μ z→Lk z (.node i k .nil)→(∀e∈nodes (.node i k .nil),LN z star e.1 e.2)→av k+1≤d→0≤dp→dp+av k≤900→(z.wd i).lft=l→(z.wd i).top=t→Pl z.wd (z.wd i).sort l t k→
 (∀m a,Ext μ m→m a=some (.list ((lns z.wd z.sel dp (.node i k .nil)).map .str))→Φ (.ref a) m)→az tab (d+1) 367 [.ref (z.loc (6,i)), .int l, .int t, .int dp, .int star] μ Φ Ψ
theorem lines_loop{T:FPst}{μ0:MH}{star:Int}(h:R μ0 z){fa:Addr}(hfa:μ0 fa=none)(hi:i∈z.L)(hks:(z.bd i).kind=(z.wd i).sort)(hk3:(z.bd i).kind=0∨(z.bd i).kind=1∨(z.bd i).kind=2){dp:Int}(hdp:0≤dp)(hL:LinesAt z star d):
  ∀(r:F) (pre:List Int) (dn:List Str) (l t:Int) (ρ:ao) (μ:MH),Ext μ0 μ→z.P i=pre++tops r→pre.length+(tops r).length≤90→Lk z r→(∀e∈nodes r,LN z star e.1 e.2)→av r≤d→dp+1+av r≤901→dn.length+av r < 9000→Pl z.wd (z.wd i).sort l t r→μ fa=some (.list (dn.map .str))→
  ρ "found"=some (.ref fa)→ρ "own"=some (.ref (z.loc (6,i)))→ρ "left"=some (.int l)→ρ "top"=some (.int t)→ρ "deep"=some (.int dp)→ρ "starred"=some (.int star)→
  (∀ρ' m,Ext μ0 m→ρ' "found"=some (.ref fa)→m fa=some (.list ((dn++lns z.wd z.sel (dp+1) r).map .str))→T .next ρ' m)→foL (az tab (d+1)) (z.loc (7,i)) "part" lb__law_lines_0 T ((tops r).length+1) pre.length ρ μ:=by
 intro r
 induction r with
 |nil=>
  intro pre dn l t ρ μ he hP hp90 hk hn hf hdf hdl pl q r1 r2 r3 r4 r5 r6 hT
  rw[tops,List.length_nil,foL_succ]
  refine⟨_,(h.ext he).parts i hi,?_⟩
  rw[hP];simp[tops]
  exact hT ρ μ he r1 (by simpa[lns] using q)
 |node c k r _ ih=>
  intro pre dn l t ρ μ he hP hp90 hk hn hf hdf hdl pl q r1 r2 r3 r4 r5 r6 hT
  refine q4 hk fun hc hPc hs hl90 hk1 hk2=> ?_
  refine q6 pl fun p1 p2 p3 p4=> ?_
  simp only[av] at hf hdf hdl
  rw[tops,List.length_cons,foL_succ]
  refine⟨_,(h.ext he).parts i hi,?_⟩
  rw[hP]
  have:((pre++c::tops r).map fun j=>MV.ref (z.loc (6,j)))[pre.length]? =some (.ref (z.loc (6,c))):=by simp
  simp only[tops,this]
  have hck:Lk z (.node c k .nil):=⟨hc,hPc,hs,hl90,hk1,trivial⟩
  have hcn:∀e∈nodes (.node c k .nil),LN z star e.1 e.2:=fun e he=>hn e (by simp[nodes] at he⊢;rcases he with he |he <;> simp[he])
  show aA _ (.cons (.expr (.bm .extend (.var "found") (.cons (.call (.glob "_law_lines" (.ref 367)) (.cons (.var "part") (.cons (.var "left") (.cons (.var "top") (.cons (.bin .add (.var "deep") (.cst (.int 1))) (.cons (.var "starred") .nil)))))) .nil))) (.cons (.ite (.cmp .eq (.item (.var "own") (.cst (.str (Str.ofString "sort")))) (.cst (.str (Str.ofString "row")))) (.cons (.assign (.name "left") (.bin .add (.var "left") (.call (.glob "_law_size" (.ref 360)) (.cons (.var "part") (.cons (.cst (.str (Str.ofString "row"))) .nil))))) .nil) (.cons (.assign (.name "top") (.bin .add (.var "top") (.call (.glob "_law_size" (.ref 360)) (.cons (.var "part") (.cons (.cst (.str (Str.ofString "column"))) .nil))))) .nil)) .nil)) _ _ _ _
  simp[ok_extend,aE q,↓exe r1,↓exe r3,↓exe r4,↓exe r5,↓exe r6]
  refine hL c k (dp+1) l t μ _ _ (h.ext he) hck hcn (by lia) (by lia) (by lia) p1 p2 p3 fun m ra hm hra=> ?_
  have q1:=hm _ _ q
  have ln:=lns_len z.wd z.sel (dp+1) (.node c k .nil)
  simp only[av] at ln
  refine st_extend q1 hra (by simp[LIM];lia) (by simp[LIM];lia) fun m2 f2 o2=> ?_
  have he2:=(he.trans hm).chg hfa o2
  have h2:=h.ext he2
  have go:∀ρ' m3 l' t',l'=l+(if(z.wd i).sort=2 then(z.wd c).wid else 0)→t'=t+(if(z.wd i).sort=2 then 0 else(z.wd c).hei)→Ext m2 m3→ρ' "found"=some (.ref fa)→ρ' "own"=some (.ref (z.loc (6,i)))→ρ' "left"=some (.int l')→ρ' "top"=some (.int t')→ρ' "deep"=some (.int dp)→ρ' "starred"=some (.int star)→
    foL (az tab (d+1)) (z.loc (7,i)) "part" lb__law_lines_0 T ((tops r).length+1) (pre.length+1) ρ' m3:=fun ρ' m3 l' t' el et e3 v1 v2 v3 v4 v5 v6=>by
   have e:(pre++ [c]).length=pre.length+1:=by simp
   rw[←e]
   refine ih (pre++ [c]) (dn++lns z.wd z.sel (dp+1) (.node c k .nil)) l' t' ρ' m3 (he2.trans e3) (by rw[hP];simp[tops]) (by simp[tops] at hp90⊢;lia) hk2 (fun e he=>hn e (by simp[nodes,he])) (by lia) (by lia) (by rw[List.length_append,ln];lia) (by rw[el,et];exact p4) (by rw[e3 _ _ f2];simp) v1 v2 v3 v4 v5 v6 fun ρ'' m4 u1 u2 u3=>hT ρ'' m4 u1 u2 (by rw[u3];simp[lns])
  simp[kind_row hk3,↓exe r2,↓exe (h2.bSort hi)]
  rw[hks]
  by_cases e:(z.wd i).sort=2
  ·rw[kE_iteS_p e]
   simp[↓exe r3]
   refine law_size_spec (z:=z) (ax:=0) (sz:=fun j=> (z.wd j).wid) d c k m2 _ _ h2 hck (fun e he=> (hcn e he).2.2.2.1) (by lia) fun m3 hm3=> ?_
   simp
   exact go _ m3 (l+(z.wd c).wid) t (by simp[e]) (by simp[e]) hm3 r1 r2 rfl r4 r5 r6
  ·rw[kE_iteS_n e]
   simp[↓exe r4]
   refine law_size_spec (z:=z) (ax:=1) (sz:=fun j=> (z.wd j).hei) d c k m2 _ _ h2 hck (fun e he=> (hcn e he).2.2.2.2) (by lia) fun m3 hm3=> ?_
   simp
   exact go _ m3 l (t+(z.wd c).hei) (by simp[e]) (by simp[e]) hm3 r1 r2 r3 rfl r5 r6
end
section
variable{μ μ':MH}{z:Z}{i:Int}{Φ:Pst}{Ψ:Exc}{d:Nat}
theorem law_lines_spec{star:Int}:∀d,LinesAt z star d:=by
 intro d
 induction d with
 |zero=>intro i k dp l t μ Φ Ψ h hk hn hf;lia
 |succ d ih=>
  intro i k dp l t μ Φ Ψ h hk hn hf hd1 hd2 hl ht pl hΦ
  refine q3 (hn _ (.head _)) fun n1 n2 n3 n4 n5=> ?_
  dsimp only at n1 n2 n3 n4 n5
  refine q3 (id n3) fun s1 s2 s3 s4 s5=> ?_
  have hk3:=srt3 hk.2.2.1
  have hi:=hk.1
  have hl90:=hk.2.2.2.1
  have a1:=mul_len (n:=dp) (by lia)
  have a2:=itext_len s1;have a3:=itext_len s2;have a4:=itext_len s3;have a5:=itext_len s4;have a6:=itext_len s5
  have lk:=kind_len (z.wd i).sort
  refine q43 one_len fun c1 c2 c3 c4 c5 u_ c7=> ?_
  refine call_of (fn:=f__law_lines) rfl rfl ?_
  have g1:bindM f__law_lines.params [.ref (z.loc (6,i)), .int l, .int t, .int dp, .int star] "own"=some (.ref (z.loc (6,i))):=rfl
  have g2:bindM f__law_lines.params [.ref (z.loc (6,i)), .int l, .int t, .int dp, .int star] "left"=some (.int l):=rfl
  have g3:bindM f__law_lines.params [.ref (z.loc (6,i)), .int l, .int t, .int dp, .int star] "top"=some (.int t):=rfl
  have g4:bindM f__law_lines.params [.ref (z.loc (6,i)), .int l, .int t, .int dp, .int star] "deep"=some (.int dp):=rfl
  have g5:bindM f__law_lines.params [.ref (z.loc (6,i)), .int l, .int t, .int dp, .int star] "starred"=some (.int star):=rfl
  generalize bindM f__law_lines.params [.ref (z.loc (6,i)), .int l, .int t, .int dp, .int star]=ρ0 at *
  show aA _ (.cons (.assign (.name "here") (.bin .add (.bin .add (.bin .add (.bin .add (.bin .add (.bin .mul (.cst (.str (Str.ofString "."))) (.var "deep")) (.item (.var "own") (.cst (.str (Str.ofString "sort"))))) (.cst (.str (Str.ofString " ")))) (.strOf (.call (.glob "_law_size" (.ref 360)) (.cons (.var "own") (.cons (.cst (.str (Str.ofString "row"))) .nil))))) (.cst (.str (Str.ofString "x")))) (.strOf (.call (.glob "_law_size" (.ref 360)) (.cons (.var "own") (.cons (.cst (.str (Str.ofString "column"))) .nil)))))) (.cons (.assign (.name "here") (.bin .add (.bin .add (.bin .add (.bin .add (.var "here") (.cst (.str (Str.ofString "+")))) (.strOf (.var "left"))) (.cst (.str (Str.ofString "+")))) (.strOf (.var "top")))) (aJ 2 f__law_lines.body))) _ _ _ _
  rw[hl] at s3 a4
  rw[ht] at s4 a5
  simp[↓exe g1,↓exe g4,k_of (b_mul hd1 (by lia:dp≤1000)),↓exe (h.bSort hi),n1]
  refine kadd a1 lk (by decide) fun x1 y1 q1=> ?_
  simp
  refine kadd q1 (Nat.le_of_eq c1) (by decide) fun x2 y2 q2=> ?_
  simp[↓exe g1]
  refine law_size_spec (z:=z) (ax:=0) (sz:=fun j=> (z.wd j).wid) d i k μ _ _ h hk (fun e he=> (hn e he).2.2.2.1) (by lia) fun m1 hm1=> ?_
  have h1:=h.ext hm1
  simp[kE_str s1]
  refine kadd q2 a2 (by decide) fun x3 y3 q3=> ?_
  simp
  refine kadd q3 (Nat.le_of_eq c2) (by decide) fun x4 y4 q4=> ?_
  simp[↓exe g1]
  refine law_size_spec (z:=z) (ax:=1) (sz:=fun j=> (z.wd j).hei) d i k m1 _ _ h1 hk (fun e he=> (hn e he).2.2.2.2) (by lia) fun m2 hm2=> ?_
  have h2:=h1.ext hm2
  have e02:=hm1.trans hm2
  simp[kE_str s2]
  refine kadd q4 a3 (by decide) fun x5 y5 q5=> ?_
  simp
  refine kadd q5 (Nat.le_of_eq c3) (by decide) fun x6 y6 q6=> ?_
  simp[↓exe g2,kE_str s3]
  refine kadd q6 a4 (by decide) fun x7 y7 q7=> ?_
  simp
  refine kadd q7 (Nat.le_of_eq c3) (by decide) fun x8 y8 q8=> ?_
  simp[↓exe g3,kE_str s4]
  refine kadd q8 a5 (by decide) fun x9 y9 q9=> ?_
  have e9:∀t,x9++t=lineStr dp (z.wd i).sort (z.wd i).wid (z.wd i).hei (z.wd i).lft (z.wd i).top t:=fun t=>by
   rw[y9,y8,y7,y6,y5,y4,y3,y2,y1,lineStr,hl,ht]
   simp only[Str.append_assoc]
  clear y9 y8 y7 y6 y5 y4 y3 y2 y1 q1 q2 q3 q4 q5 q6 q7 q8 a1 a2 a3 a4 a5 lk
  have fin:∀ρ' X,X=lineStr dp (z.wd i).sort (z.wd i).wid (z.wd i).hei (z.wd i).lft (z.wd i).top (tailStr (z.wd i).sort (z.wd i).buf (decide (i=z.sel)))→ρ' "here"=some (.str X)→ρ' "own"=some (.ref (z.loc (6,i)))→ρ' "left"=some (.int l)→ρ' "top"=some (.int t)→ρ' "deep"=some (.int dp)→ρ' "starred"=some (.int star)→
    aA (az tab (d+1)) (aJ 3 f__law_lines.body) ρ' m2 (bf Φ) Ψ:=fun ρ' X hX v0 v1 v2 v3 v4 v5=>by
   show aA _ (.cons (.assign (.name "found") (.list (.cons (.var "here") .nil))) (.cons (.for "part" (.item (.var "own") (.cst (.str (Str.ofString "parts")))) lb__law_lines_0) (.cons (.ret (.var "found")) .nil))) _ _ _ _
   simp[↓exe v0]
   refine⟨by simp[LIM],fun fa hfa=> ?_⟩
   have f3:(upd m2 fa (some (.list [.str X]))) fa=some (.list [.str X]):=aj _ _ _
   have e3:Ext m2 (upd m2 fa (some (.list [.str X]))):=(Ext.refl m2).new hfa _
   generalize upd m2 fa (some (.list [.str X]))=m3 at *
   have h3:=h2.ext e3
   simp[↓exe v1,↓exe (h3.bParts hi)]
   refine⟨(tops k).length+1,?_⟩
   refine lines_loop (d:=d) (μ0:=m2) (star:=star) h2 hfa hi n1 hk3 hd1 ih k [] [_] l t _ m3 e3 hk.2.1 (by simpa using hl90) hk.2.2.2.2.1 (fun e he=>hn e (by simp[nodes,he])) (by lia) (by lia) (by simp;lia) pl f3 (rfl) v1 v2 v3 v4 v5 fun ρ4 m4 u1 u2 u3=> ?_
   simp[↓exe u2]
   exact hΦ m4 fa (e02.trans u1) (by rw[u3,hX];simp[lns])
  show aA _ (.cons (.ite (.cmp .eq (.item (.var "own") (.cst (.str (Str.ofString "sort")))) (.cst (.str (Str.ofString "leaf")))) (.cons (.assign (.name "here") (.bin .add (.bin .add (.bin .add (.var "here") (.cst (.str (Str.ofString " ")))) (.strOf (.item (.var "own") (.cst (.str (Str.ofString "buffer")))))) (.ite (.cmp .eq (.item (.var "own") (.cst (.str (Str.ofString "number")))) (.var "starred")) (.cst (.str (Str.ofString "*"))) (.cst (.str (Str.ofString "")))))) .nil) .nil) (aJ 3 f__law_lines.body)) _ _ _ _
  simp[↓exe g1,↓exe (h2.bSort hi),kind_leaf hk3]
  by_cases k0:(z.bd i).kind=0
  ·rw[kE_iteS_p k0]
   refine q0 (n2 k0) fun b1 b2=> ?_
   have s0:(z.wd i).sort=0:=n1▸k0
   simp
   refine kadd q9 (Nat.le_of_eq c1) (by decide) fun x1 y1 q1=> ?_
   simp[↓exe g1,↓exe (h2.bBuf hi k0),b1,kE_str s5]
   refine kadd q1 a6 (by decide) fun x2 y2 q2=> ?_
   simp[↓exe g1,↓exe g5,↓exe (h2.bNum hi k0)]
   by_cases st:(z.bd i).num=star
   ·rw[kE_ite_p st]
    simp
    refine kadd q2 (Nat.le_of_eq c4) (by decide) fun x3 y3 q3=> ?_
    refine fin _ x3 ?_ (aj _ _ _) g1 g2 g3 g4 g5
    rw[decide_eq_true (b2.mp st),tailStr,if_pos s0,if_pos rfl,←e9,y3,y2,y1]
    simp only[Str.append_assoc]
   ·rw[kE_ite_n st]
    simp
    refine kadd q2 (Nat.le_of_eq c5) (by decide) fun x3 y3 q3=> ?_
    refine fin _ x3 ?_ (aj _ _ _) g1 g2 g3 g4 g5
    rw[decide_eq_false fun e=>st (b2.mpr e),tailStr,if_pos s0,if_neg nofun,←e9,y3,y2,y1]
    simp only[Str.append_assoc]
  ·rw[kE_iteS_n k0]
   refine fin _ x9 ?_ (aj _ _ _) g1 g2 g3 g4 g5
   rw[tailStr,if_neg fun e=>k0 (n1.trans e),←e9,emp']
end
end
section
open PySem
noncomputable def spl(x:Int)(m l:List Int):List Int:=l.flatMap fun c=>if c=x then m else [c]
theorem bW{x:Int}{m l:List Int}(h:x∉l):spl x m l=l:=by
 unfold spl
 induction l with
 |nil=>rfl
 |cons a r ih=>
  rw[List.flatMap_cons,if_neg (fun e=>h (by rw[e];exact .head _)),ih fun q=>h (.tail _ q)];rfl
theorem spl_append(x:Int)(m a b:List Int):spl x m (a++b)=spl x m a++spl x m b:=by unfold spl;rw[List.flatMap_append]
theorem spl_mid{x:Int}{m a b:List Int}(ha:x∉a)(hb:x∉b):spl x m (a++x::b)=a++m++b:=by
 have e:a++x::b=a++([x]++b):=rfl
 rw[e,spl_append,spl_append,bW ha,bW hb]
 simp[spl]
theorem mid_of{x:Int}{l:List Int}(hx:x∈l)(nd:l.Nodup):∃a b,l=a++x::b∧x∉a∧x∉b:=by
 induction l with
 |nil=>cases hx
 |cons c r ih=>
  rw[List.nodup_cons] at nd
  rcases List.mem_cons.mp hx with rfl |hx
  ·exact⟨[],r,rfl,by simp,nd.1⟩
  ·refine q18 (ih hx nd.2) fun a b e h1 h2=> ?_
   refine⟨c::a,b,by rw[e];rfl,fun q=> ?_,h2⟩
   rcases List.mem_cons.mp q with q |q
   ·exact nd.1 (q▸hx)
   ·exact h1 q
theorem idxOf_mid{x:Int}{a b:List Int}(ha:x∉a):(a++x::b).idxOf x=a.length:=by
 induction a with
 |nil=>simp
 |cons c r ih=>
  have hc:(c==x)=false:=by
   have:c≠x:=fun e=>ha (by rw[e];exact .head _)
   simpa using this
  rw[List.cons_append,List.idxOf_cons,hc,ih fun q=>ha (.tail _ q)];simp
theorem take_mid{x:Int}{a b:List Int}:(a++x::b).take a.length=a∧(a++x::b).take (a.length+1)=a++ [x]∧(a++x::b).drop a.length=x::b∧(a++x::b).drop (a.length+1)=b:=by
 induction a with
 |nil=>simp
 |cons c r ih=>simpa using ih
theorem insL_spl{x n:Int}{l:List Int}(hx:x∈l)(nd:l.Nodup)(ah:Bool):insL l x n ah=spl x (prL x n ah) l:=by
 refine q18 (mid_of hx nd) fun a b rf2 h1 h2=> ?_
 subst rf2
 refine q6 (take_mid (x:=x) (a:=a) (b:=b)) fun t1 t2 t3 t4=> ?_
 rw[spl_mid h1 h2]
 unfold insL prL
 rw[idxOf_mid h1]
 cases ah <;> simp[t1,t2,t3,t4]
theorem nth_mid{x:Int}{l:List Int}{n:Nat}(hn:l[n]? =some x)(nd:l.Nodup):∃a b,l=a++x::b∧x∉a∧x∉b∧n=a.length:=by
 induction l generalizing n with
 |nil=>simp at hn
 |cons c r ih=>
  rw[List.nodup_cons] at nd
  cases n with
  |zero=>
   simp at hn;replace hn:=hn.symm;subst hn
   exact⟨[],r,rfl,by simp,nd.1,rfl⟩
  |succ n=>
   refine q22 (ih hn nd.2) fun a b e h1 h2 h3=> ?_
   refine⟨c::a,b,by rw[e];rfl,fun q=> ?_,h2,by simp[h3]⟩
   rcases List.mem_cons.mp q with q |q
   ·refine nd.1 ?_;rw[←q,e];simp
   ·exact h1 q
theorem put_spl{x:Int}{l m:List Int}{n:Nat}(hn:l[n]? =some x)(nd:l.Nodup):l.take n++m++l.drop (n+1)=spl x m l:=by
 refine q22 (nth_mid hn nd) fun a b rf2 h1 h2 rf5=> ?_
 rw[rf2]
 subst rf5
 refine q6 (take_mid (x:=x) (a:=a) (b:=b)) fun t1 t2 t3 t4=> ?_
 rw[spl_mid h1 h2,t1,t4]
theorem erase_spl{x:Int}{l:List Int}{n:Nat}(hn:l[n]? =some x)(nd:l.Nodup):l.eraseIdx n=spl x [] l:=by
 refine q22 (nth_mid hn nd) fun a b rf2 h1 h2 rf5=> ?_
 subst rf2
 subst rf5
 rw[spl_mid h1 h2]
 clear hn nd h1
 induction a with
 |nil=>simp
 |cons c r ih=>simp at ih⊢;exact ih
theorem idx_nth{x:Int}{l:List Int}(hx:x∈l):l[l.idxOf x]? =some x:=by
 have:=List.idxOf_lt_length_iff.mpr hx
 rw[List.getElem?_eq_getElem this];simp
theorem nth_idx{x:Int}{l:List Int}{n:Nat}(hn:l[n]? =some x)(nd:l.Nodup):l.idxOf x=n:=by
 refine q22 (nth_mid hn nd) fun a b rf2 h1 h2 rf5=> ?_
 subst rf2
 subst rf5
 exact idxOf_mid h1
theorem set_spl{x q:Int}{l:List Int}(hx:x∈l)(nd:l.Nodup):l.set (l.idxOf x) q=spl x [q] l:=by
 refine q18 (mid_of hx nd) fun a b rf2 h1 h2=> ?_
 subst rf2
 rw[spl_mid h1 h2,idxOf_mid h1]
 clear nd hx h1
 induction a with
 |nil=>simp
 |cons c r ih=>simp at ih⊢
theorem mem_spl{x c:Int}{m l:List Int}:c∈spl x m l↔(c∈l∧c≠x)∨(x∈l∧c∈m):=by
 unfold spl
 rw[List.mem_flatMap]
 constructor
 ·rintro ⟨a,ha,h⟩
  split at h
  ·rename_i e;subst e;exact .inr ⟨ha,h⟩
  ·rename_i e
   have:=List.mem_singleton.mp h
   rw[this];exact .inl ⟨ha,e⟩
 ·rintro (⟨h,e⟩ |⟨h,hm⟩)
  ·exact⟨c,h,by rw[if_neg e];simp⟩
  ·exact⟨x,h,by rw[if_pos rfl];exact hm⟩
theorem sum_spl{x:Int}{m l:List Int}(hx:x∈l)(nd:l.Nodup)(g:Int→Int):((spl x m l).map g).sum=(l.map g).sum - g x+(m.map g).sum:=by
 refine q18 (mid_of hx nd) fun a b rf2 h1 h2=> ?_
 subst rf2
 rw[spl_mid h1 h2]
 simp only[List.map_append,List.sum_append,List.map_cons,List.sum_cons]
 lia
theorem len_spl{x:Int}{m l:List Int}(hx:x∈l)(nd:l.Nodup):(spl x m l).length+1=l.length+m.length:=by
 refine q18 (mid_of hx nd) fun a b rf2 h1 h2=> ?_
 subst rf2
 rw[spl_mid h1 h2];simp;lia
theorem nodes_app(f g:F):nodes (app f g)=nodes f++nodes g:=by
 induction f with
 |nil=>rfl
 |node i k r _ ih=>simp[app,nodes,ih]
theorem bA{f:F}{e:Int×List Int}(h:e∈nodes f):e.1∈ids f∧(∀c∈e.2,c∈ids f)∧e.2.length < av f:=by
 have tids:∀k:F,∀c∈tops k,c∈ids k:=fun k=>by
  induction k with
  |nil=>intro c hc;cases hc
  |node i k r _ ih=>
   intro c hc
   rcases List.mem_cons.mp hc with rfl |hc
   ·exact .head _
   ·exact .tail _ (List.mem_append_right _ (ih c hc))
 induction f with
 |nil=>cases h
 |node i k r h1 h2=>
  simp only[nodes,List.mem_cons,List.mem_append] at h
  simp only[ids,List.mem_cons,List.mem_append,av]
  rcases h with rfl |h |h
  ·exact⟨.inl rfl,fun c hc=> .inr (.inl (tids k c hc)),by have:=tops_le k;dsimp only;lia⟩
  ·refine q2 (h1 h) fun a b c=> ?_
   exact⟨.inr (.inl a),fun c hc=> .inr (.inl (b c hc)),by lia⟩
  ·refine q2 (h2 h) fun a b c=> ?_
   exact⟨.inr (.inr a),fun c hc=> .inr (.inr (b c hc)),by lia⟩
theorem ids_nodes{f:F}{i:Int}(h:i∈ids f):∃l,(i,l)∈nodes f:=by
 induction f with
 |nil=>cases h
 |node j k r h1 h2=>
  simp only[ids,List.mem_cons,List.mem_append] at h
  simp only[nodes,List.mem_cons,List.mem_append]
  rcases h with rfl |h |h
  ·exact⟨_, .inl rfl⟩
  ·refine q1 (h1 h) fun l hl=> ?_
   exact⟨l, .inr (.inl hl)⟩
  ·refine q1 (h2 h) fun l hl=> ?_
   exact⟨l, .inr (.inr hl)⟩
theorem tops_sub(f:F):(tops f).Sublist (ids f):=by
 induction f with
 |nil=>exact List.Sublist.slnil
 |node i k r _ ih=>exact List.Sublist.cons_cons i (ih.trans (List.sublist_append_right _ _))
theorem nodes_nd{f:F}(nd:(ids f).Nodup){e:Int×List Int}(h:e∈nodes f):e.2.Nodup:=by
 induction f with
 |nil=>cases h
 |node i k r h1 h2=>
  simp only[ids,List.nodup_cons,List.nodup_append] at nd
  simp only[nodes,List.mem_cons,List.mem_append] at h
  rcases h with rfl |h |h
  ·exact List.Nodup.sublist (tops_sub k) nd.2.1
  ·exact h1 nd.2.1 h
  ·exact h2 nd.2.2.1 h
theorem tops_nil{k:F}:tops k= []↔k= .nil:=by cases k <;> simp[tops]
noncomputable def rep(x:Int)(h:F→F):F→F
 | .nil=> .nil
 | .node i k r=>if i=x then app (h k) r else .node i (rep x h k) (rep x h r)
noncomputable def kof(x:Int):F→F
 | .nil=> .nil
 | .node i k r=>if i=x then k else if x∈ids k then kof x k else kof x r
theorem rep_none{x:Int}{h:F→F}{f:F}(hx:x∉ids f):rep x h f=f:=by
 induction f with
 |nil=>rfl
 |node i k r h1 h2=>
  simp only[ids,List.mem_cons,List.mem_append] at hx
  rw[rep,if_neg fun e=>hx (.inl e.symm),h1 fun q=>hx (.inr (.inl q)),h2 fun q=>hx (.inr (.inr q))]
theorem tops_rep{x:Int}{h:F→F}{f:F}(nd:(ids f).Nodup)(hx:x∈ids f):tops (rep x h f)=spl x (tops (h (kof x f))) (tops f):=by
 induction f with
 |nil=>cases hx
 |node i k r h1 h2=>
  simp only[ids,List.nodup_cons,List.nodup_append,List.mem_append] at nd
  refine q6 nd fun n1 n2 n3 n4=> ?_
  rw[rep,kof]
  by_cases e:i=x
  ·subst e
   have:i∉tops r:=fun q=>n1 (.inr ((tops_sub r).subset q))
   rw[if_pos rfl,if_pos rfl,tops_app,tops]
   show _=spl i _ ([i]++tops r)
   rw[spl_append,bW this]
   simp[spl]
  ·rw[if_neg e,if_neg e,tops,tops]
   show _=spl x _ ([i]++tops r)
   rw[spl_append]
   have e1:∀m,spl x m [i]= [i]:=fun m=>by simp[spl,e]
   rw[e1]
   by_cases hk:x∈ids k
   ·have hr:x∉ids r:=fun q=>n4 x hk x q rfl
    rw[rep_none hr,bW fun q=>hr ((tops_sub r).subset q)];rfl
   ·rw[if_neg hk]
    have hr:x∈ids r:=by
     simp only[ids,List.mem_cons,List.mem_append] at hx
     rcases hx with q |q |q
     ·exact absurd q.symm e
     ·exact absurd q hk
     ·exact q
    rw[h2 n3 hr];rfl
theorem nodes_rep{x:Int}{h:F→F}{f:F}(nd:(ids f).Nodup)(hx:x∈ids f):∀e∈nodes (rep x h f),(∃l0,(e.1,l0)∈nodes f∧e.1≠x∧e.2=spl x (tops (h (kof x f))) l0)∨e∈nodes (h (kof x f)):=by
 have keep:∀(g:F) (m:List Int),x∉ids g→∀e∈nodes g,∃l0,(e.1,l0)∈nodes g∧e.1≠x∧e.2=spl x m l0:=fun g m hg e he=>by
  refine q2 (bA he) fun a b u_=> ?_
  exact⟨e.2,he,fun q=>hg (q▸a),(bW fun q=>hg (b x q)).symm⟩
 induction f with
 |nil=>cases hx
 |node i k r h1 h2=>
  simp only[ids,List.nodup_cons,List.nodup_append,List.mem_append] at nd
  refine q6 nd fun n1 n2 n3 n4=> ?_
  intro e he
  rw[rep] at he
  rw[kof]
  simp only[nodes,List.mem_cons,List.mem_append]
  by_cases q:i=x
  ·replace q:=q.symm;subst q
   rw[if_pos rfl,nodes_app] at he
   rw[if_pos rfl]
   rcases List.mem_append.mp he with he |he
   ·exact .inr he
   ·refine q19 (keep r (tops (h k)) (fun q=>n1 (.inr q)) e he) fun l0 a b c=> ?_
    exact .inl ⟨l0, .inr (.inr a),b,c⟩
  ·rw[if_neg q] at he
   rw[if_neg q]
   simp only[nodes,List.mem_cons,List.mem_append] at he
   by_cases hk:x∈ids k
   ·have hr:x∉ids r:=fun q=>n4 x hk x q rfl
    rw[if_pos hk]
    rcases he with rfl |he |he
    ·exact .inl ⟨tops k, .inl rfl,q,tops_rep n2 hk⟩
    ·rcases h1 n2 hk e he with⟨l0,a,b,c⟩ |a
     ·exact .inl ⟨l0, .inr (.inl a),b,c⟩
     ·exact .inr a
    ·rw[rep_none hr] at he
     refine q19 (keep r (tops (h (kof x k))) hr e he) fun l0 a b c=> ?_
     exact .inl ⟨l0, .inr (.inr a),b,c⟩
   ·rw[if_neg hk]
    have hr:x∈ids r:=by
     simp only[ids,List.mem_cons,List.mem_append] at hx
     rcases hx with p |p |p
     ·exact absurd p.symm q
     ·exact absurd p hk
     ·exact p
    rw[rep_none hk] at he
    rcases he with rfl |he |he
    ·exact .inl ⟨tops k, .inl rfl,q,(bW fun q=>hk ((tops_sub k).subset q)).symm⟩
    ·refine q19 (keep k (tops (h (kof x r))) hk e he) fun l0 a b c=> ?_
     exact .inl ⟨l0, .inr (.inl a),b,c⟩
    ·rcases h2 n3 hr e he with⟨l0,a,b,c⟩ |a
     ·exact .inl ⟨l0, .inr (.inr a),b,c⟩
     ·exact .inr a
theorem kof_node{x:Int}{f:F}(nd:(ids f).Nodup)(hx:x∈ids f):(x,tops (kof x f))∈nodes f∧∀e∈nodes (kof x f),e∈nodes f:=by
 induction f with
 |nil=>cases hx
 |node i k r h1 h2=>
  simp only[ids,List.nodup_cons,List.nodup_append,List.mem_append] at nd
  refine q6 nd fun n1 n2 n3 n4=> ?_
  rw[kof]
  simp only[nodes,List.mem_cons,List.mem_append]
  by_cases q:i=x
  ·rw[q]
   rw[if_pos rfl]
   exact⟨.inl rfl,fun e he=> .inr (.inl he)⟩
  ·rw[if_neg q]
   by_cases hk:x∈ids k
   ·rw[if_pos hk]
    refine q0 (h1 n2 hk) fun a b=> ?_
    exact⟨.inr (.inl a),fun e he=> .inr (.inl (b e he))⟩
   ·rw[if_neg hk]
    have hr:x∈ids r:=by
     simp only[ids,List.mem_cons,List.mem_append] at hx
     rcases hx with p |p |p
     ·exact absurd p.symm q
     ·exact absurd p hk
     ·exact p
    refine q0 (h2 n3 hr) fun a b=> ?_
    exact⟨.inr (.inr a),fun e he=> .inr (.inr (b e he))⟩
theorem rep_nodes{x:Int}{h:F→F}{f:F}(nd:(ids f).Nodup)(hx:x∈ids f){i:Int}{l:List Int}(hi:(i,l)∈nodes f)(hix:i≠x):(i,l)∈nodes (kof x f)∨(i,spl x (tops (h (kof x f))) l)∈nodes (rep x h f):=by
 have keep:∀(g:F) (m:List Int),x∉ids g→(i,l)∈nodes g→(i,spl x m l)∈nodes g:=fun g m hg he=>by
  refine q2 (bA he) fun a b u_=> ?_
  rw[bW fun q=>hg (b x q)];exact he
 induction f with
 |nil=>cases hx
 |node j k r h1 h2=>
  simp only[ids,List.nodup_cons,List.nodup_append,List.mem_append] at nd
  refine q6 nd fun n1 n2 n3 n4=> ?_
  rw[rep,kof]
  simp only[nodes,List.mem_cons,List.mem_append,Prod.mk.injEq] at hi
  by_cases q:j=x
  ·replace q:=q.symm;subst q
   rw[if_pos rfl,if_pos rfl,nodes_app]
   rcases hi with⟨e,_⟩ |hi |hi
   ·exact absurd e hix
   ·exact .inl hi
   ·exact .inr (List.mem_append_right _ (keep r _ (fun q=>n1 (.inr q)) hi))
  ·rw[if_neg q,if_neg q]
   simp only[nodes,List.mem_cons,List.mem_append,Prod.mk.injEq]
   by_cases hk:x∈ids k
   ·have hr:x∉ids r:=fun q=>n4 x hk x q rfl
    rw[if_pos hk]
    rcases hi with⟨rfl,rfl⟩ |hi |hi
    ·exact .inr (.inl ⟨rfl,(tops_rep n2 hk).symm⟩)
    ·rcases h1 n2 hk hi with a |a
     ·exact .inl a
     ·exact .inr (.inr (.inl a))
    ·refine .inr (.inr (.inr ?_))
     rw[rep_none hr]
     exact keep r _ hr hi
   ·rw[if_neg hk]
    have hr:x∈ids r:=by
     simp only[ids,List.mem_cons,List.mem_append] at hx
     rcases hx with p |p |p
     ·exact absurd p.symm q
     ·exact absurd p hk
     ·exact p
    rcases hi with⟨rfl,rfl⟩ |hi |hi
    ·refine .inr (.inl ⟨rfl,?_⟩)
     rw[rep_none hk,bW fun q=>hk ((tops_sub k).subset q)]
    ·refine .inr (.inr (.inl ?_))
     rw[rep_none hk]
     exact keep k _ hk hi
    ·rcases h2 n3 hr hi with a |a
     ·exact .inl a
     ·exact .inr (.inr (.inr a))
theorem rep_new{x:Int}{h:F→F}{f:F}(nd:(ids f).Nodup)(hx:x∈ids f){e:Int×List Int}(he:e∈nodes (h (kof x f))):e∈nodes (rep x h f):=by
 induction f with
 |nil=>cases hx
 |node j k r h1 h2=>
  simp only[ids,List.nodup_cons,List.nodup_append,List.mem_append] at nd
  refine q6 nd fun n1 n2 n3 n4=> ?_
  rw[rep]
  rw[kof] at he
  by_cases q:j=x
  ·replace q:=q.symm;subst q
   rw[if_pos rfl,nodes_app]
   rw[if_pos rfl] at he
   exact List.mem_append_left _ he
  ·rw[if_neg q]
   rw[if_neg q] at he
   simp only[nodes,List.mem_cons,List.mem_append]
   by_cases hk:x∈ids k
   ·rw[if_pos hk] at he
    exact .inr (.inl (h1 n2 hk he))
   ·rw[if_neg hk] at he
    have hr:x∈ids r:=by
     simp only[ids,List.mem_cons,List.mem_append] at hx
     rcases hx with p |p |p
     ·exact absurd p.symm q
     ·exact absurd p hk
     ·exact p
    exact .inr (.inr (h2 n3 hr he))
theorem count_rep{x:Int}{h:F→F}{f:F}(nd:(ids f).Nodup)(hx:x∈ids f)(j:Int):(ids (rep x h f)).count j+(x::ids (kof x f)).count j=(ids f).count j+(ids (h (kof x f))).count j:=by
 induction f with
 |nil=>cases hx
 |node i k r h1 h2=>
  simp only[ids,List.nodup_cons,List.nodup_append,List.mem_append] at nd
  refine q6 nd fun n1 n2 n3 n4=> ?_
  rw[rep,kof]
  by_cases q:i=x
  ·subst q
   rw[if_pos rfl,if_pos rfl,ids_app]
   simp only[ids,List.count_append,List.count_cons];lia
  ·rw[if_neg q,if_neg q]
   by_cases hk:x∈ids k
   ·have hr:x∉ids r:=fun q=>n4 x hk x q rfl
    have:=h1 n2 hk
    rw[if_pos hk,rep_none hr]
    simp only[ids,List.count_append,List.count_cons] at this⊢;lia
   ·rw[if_neg hk]
    have hr:x∈ids r:=by
     simp only[ids,List.mem_cons,List.mem_append] at hx
     rcases hx with p |p |p
     ·exact absurd p.symm q
     ·exact absurd p hk
     ·exact p
    have:=h2 n3 hr
    rw[rep_none hk]
    simp only[ids,List.count_append,List.count_cons] at this⊢;lia
theorem fsize_rep{x:Int}{h:F→F}{f:F}(nd:(ids f).Nodup)(hx:x∈ids f):av (rep x h f)+1+av (kof x f)=av f+av (h (kof x f)):=by
 induction f with
 |nil=>cases hx
 |node i k r h1 h2=>
  simp only[ids,List.nodup_cons,List.nodup_append,List.mem_append] at nd
  refine q6 nd fun n1 n2 n3 n4=> ?_
  rw[rep,kof]
  by_cases q:i=x
  ·rw[q]
   rw[if_pos rfl,if_pos rfl,fsize_app]
   simp only[av];lia
  ·rw[if_neg q,if_neg q]
   by_cases hk:x∈ids k
   ·have hr:x∉ids r:=fun q=>n4 x hk x q rfl
    have:=h1 n2 hk
    rw[if_pos hk,rep_none hr]
    simp only[av];lia
   ·rw[if_neg hk]
    have hr:x∈ids r:=by
     simp only[ids,List.mem_cons,List.mem_append] at hx
     rcases hx with p |p |p
     ·exact absurd p.symm q
     ·exact absurd p hk
     ·exact p
    have:=h2 n3 hr
    rw[rep_none hk]
    simp only[av];lia
inductive Pth(N:List (Int×List Int))(rt:Int):Way→Int→Prop
 |nil:Pth N rt [] rt
 |snoc {w:Way} {p x:Int} {l:List Int} {n:Nat}:Pth N rt w p→(p,l)∈N→l[n]? =some x→Pth N rt (w++ [(p,n)]) x
theorem lvw_path{N:List (Int×List Int)}{rt:Int}(k:F):∀(w:Way) (p:Int) (n:Nat) (l:List Int),Pth N rt w p→(p,l)∈N→l.drop n=tops k→(∀e∈nodes k,e∈N)→∀e∈lvw w p n k,Pth N rt e.2 e.1∧(e.1,[])∈N∧e.2.length≤w.length+av k:=by
 induction k with
 |nil=>intro w p n l hw hp hl hN e he;cases he
 |node i kk r h1 h2=>
  intro w p n l hw hp hl hN e he
  rw[lvw_node] at he
  have hi:l[n]? =some i:=by
   have:(l.drop n)[0]? =some i:=by rw[hl];rfl
   simpa using this
  have hr:l.drop (n+1)=tops r:=by
   have:(l.drop n).drop 1=tops r:=by rw[hl];rfl
   rw[List.drop_drop] at this;exact this
  have pi:Pth N rt (w++ [(p,n)]) i:= .snoc hw hp hi
  rcases List.mem_append.mp he with he |he
  ·cases kk with
   |nil=>
    simp[lw] at he
    rw[he]
    exact⟨pi,hN _ (.head _),by simp[av]⟩
   |node j k2 s2=>
    have:=h1 (w++ [(p,n)]) i 0 (tops (.node j k2 s2)) pi (hN _ (.head _)) rfl (fun e he=>hN e (by simp only[nodes,List.mem_cons,List.mem_append] at he⊢;exact .inr (.inl he))) e (by simpa[lw] using he)
    refine⟨this.1,this.2.1,?_⟩
    have:=this.2.2
    simp only[List.length_append,List.length_singleton] at this
    show _≤w.length+(1+av (.node j k2 s2)+av r)
    lia
  ·have:=h2 w p (n+1) l hw hp hr (fun e he=>hN e (by simp only[nodes,List.mem_cons,List.mem_append];exact .inr (.inr he))) e he
   refine⟨this.1,this.2.1,?_⟩
   have:=this.2.2
   simp only[av];lia
theorem lw_path{k:F}{rt:Int}{e:Int×Way}(he:e∈lw [] rt k):Pth (nodes (.node rt k .nil)) rt e.2 e.1∧(e.1,[])∈nodes (.node rt k .nil)∧e.2.length≤av k:=by
 cases k with
 |nil=>
  simp[lw] at he
  subst he
  exact⟨.nil, .head _,by simp⟩
 |node j k2 s2=>
  have:=lvw_path (N:=nodes (.node rt (.node j k2 s2) .nil)) (rt:=rt) (.node j k2 s2) [] rt 0 (tops (.node j k2 s2)) .nil (.head _) rfl (fun e he=>by simp only[nodes,List.mem_cons,List.mem_append] at he⊢;exact .inr (.inl he)) e (by simpa[lw] using he)
  exact⟨this.1,this.2.1,by simpa using this.2.2⟩
theorem lvw_fst(k:F):∀(w:Way) (p:Int) (n:Nat),(lvw w p n k).map (·.1)=lvs k:=by
 induction k with
 |nil=>intro w p n;rfl
 |node i kk r h1 h2=>
  intro w p n
  rw[lvw_node,lvs_node,List.map_append,h2]
  congr 1
  cases kk with
  |nil=>rfl
  |node j k2 s2=>simpa[lw] using h1 (w++ [(p,n)]) i 0
theorem lw_fst(rt:Int)(k:F):(lw [] rt k).map (·.1)=lvs (.node rt k .nil):=by
 cases k with
 |nil=>rfl
 |node j k2 s2=>simpa[lw,lvs] using lvw_fst (.node j k2 s2) [] rt 0
theorem Wk_of{z:Z}{f:F}(h:∀e∈nodes f,e.1∈z.S∧z.K e.1=e.2∧((e.2= []∧(z.wd e.1).sort=0)∨(e.2≠[]∧((z.wd e.1).sort=1∨(z.wd e.1).sort=2)))):Wk z f:=by
 induction f with
 |nil=>trivial
 |node i k r h1 h2=>
  refine q2 (h _ (.head _)) fun a b c=> ?_
  refine⟨a,b,?_,h1 fun e he=>h e ?_,h2 fun e he=>h e ?_⟩
  ·dsimp only at c
   cases k with
   |nil=>simpa[tops,SrtOk] using c
   |node=>simpa[tops,SrtOk] using c
  ·simp only[nodes,List.mem_cons,List.mem_append];exact .inr (.inl he)
  ·simp only[nodes,List.mem_cons,List.mem_append];exact .inr (.inr he)
theorem Lk_of{z:Z}{f:F}(h:∀e∈nodes f,e.1∈z.L∧z.P e.1=e.2∧e.2.length≤90∧((e.2= []∧(z.bd e.1).kind=0)∨(e.2≠[]∧((z.bd e.1).kind=1∨(z.bd e.1).kind=2)))):Lk z f:=by
 induction f with
 |nil=>trivial
 |node i k r h1 h2=>
  refine q6 (h _ (.head _)) fun a b l c=> ?_
  refine⟨a,b,?_,l,h1 fun e he=>h e ?_,h2 fun e he=>h e ?_⟩
  ·dsimp only at c
   cases k with
   |nil=>simpa[tops,SrtOk] using c
   |node=>simpa[tops,SrtOk] using c
  ·simp only[nodes,List.mem_cons,List.mem_append];exact .inr (.inl he)
  ·simp only[nodes,List.mem_cons,List.mem_append];exact .inr (.inr he)
structure NN(z:Z)(B:Int)(i:Int)(l:List Int):Prop where
 S:i∈z.S
 L:i∈z.L
 K:z.K i=l
 P:z.P i=l
 kind:(z.bd i).kind=(z.wd i).sort
 srt:(l= []∧(z.wd i).sort=0)∨(2≤l.length∧((z.wd i).sort=1∨(z.wd i).sort=2))
 leaf:l= []→(z.bd i).row=(z.wd i).wid∧(z.bd i).col=(z.wd i).hei∧(z.bd i).buf=(z.wd i).buf
 kid:∀c∈l,(z.wd c).par=i∧(z.wd c).sort≠(z.wd i).sort
 sum:l≠[]→axSz (axOf (z.wd i).sort) (z.wd i)=(l.map fun c=>axSz (axOf (z.wd i).sort) (z.wd c)).sum
 eq:l≠[]→∀c∈l,axSz (1 - axOf (z.wd i).sort) (z.wd c)=axSz (1 - axOf (z.wd i).sort) (z.wd i)
 bnd:0≤(z.wd i).wid∧(z.wd i).wid≤B∧0≤(z.wd i).hei∧(z.wd i).hei≤B∧0≤(z.wd i).buf∧(z.wd i).buf≤10
noncomputable def SameW(a b:WD):Prop:=a.sort=b.sort∧a.par=b.par∧a.wid=b.wid∧a.hei=b.hei∧a.buf=b.buf
theorem SameW.rfl'{a:WD}:SameW a a:=⟨rfl,rfl,rfl,rfl,rfl⟩
theorem SameW.ax{a b:WD}(h:SameW a b)(ax:Int):axSz ax a=axSz ax b:=by unfold axSz;rw[h.2.2.1,h.2.2.2.1]
theorem NN.congr{z z':Z}{B B':Int}{i:Int}{l:List Int}(h:NN z B i l)(hS:i∈z'.S)(hL:i∈z'.L)(hK:z'.K i=z.K i)(hP:z'.P i=z.P i)(hi:SameW (z'.wd i) (z.wd i))(hl:∀c∈l,SameW (z'.wd c) (z.wd c))(hb:z'.bd i=z.bd i)(hB:B≤B'):NN z' B' i l:=by
 refine q3 (id hi) fun i1 i2 i3 i4 i5=> ?_
 refine⟨hS,hL,hK.trans h.K,hP.trans h.P,by rw[hb,i1];exact h.kind,by rw[i1];exact h.srt,fun e=>by rw[hb,i3,i4,i5];exact h.leaf e,fun c hc=> ?_,fun e=> ?_,fun e c hc=> ?_,?_⟩
 ·rw[(hl c hc).2.1,(hl c hc).1,i1];exact h.kid c hc
 ·rw[i1,hi.ax,h.sum e]
  congr 1
  exact List.map_congr_left fun c hc=> ((hl c hc).ax _).symm
 ·rw[i1,hi.ax,(hl c hc).ax];exact h.eq e c hc
 ·refine q4 h.bnd fun b1 b2 b3 b4 b5 b6=> ?_
  rw[i3,i4,i5];exact⟨b1,by lia,b3,by lia,b5,b6⟩
noncomputable abbrev fr(z:Z)(k:F):F:= .node z.root k .nil
noncomputable def BB(n:Nat):Int:=100 * 2 ^ n
theorem BB_succ(n:Nat):BB (n+1)=2 * BB n:=by unfold BB;rw[Int.pow_succ];lia
theorem BB_pos(n:Nat):0 < BB n:=by
 induction n with
 |zero=>decide
 |succ n ih=>rw[BB_succ];lia
theorem BB_mono{n m:Nat}(h:n≤m):BB n≤BB m:=by
 induction h with
 |refl=>lia
 |step _ ih=>rw[BB_succ];have:=BB_pos n;lia
theorem BB_le{n:Nat}(h:n≤8):BB n≤25600:=by have:=BB_mono h;exact this
structure InvP(z:Z)(k:F)(star:Int)(n:Nat):Prop where
 nd:(ids (fr z k)).Nodup
 all:∀e∈nodes (fr z k),NN z (BB n) e.1 e.2
 rp:(z.wd z.root).par=0
 Sb:∀i∈z.S,0 < i∧i≤z.last
 Lb:∀i∈z.L,i≤z.last
 PL:∀i∈z.L,∀j∈z.P i,j∈z.L
 sel:(z.sel,[])∈nodes (fr z k)
 star:(z.bd z.sel).num=star
 nums:∀i j,(i,[])∈nodes (fr z k)→(j,[])∈nodes (fr z k)→(z.bd i).num=(z.bd j).num→i=j
 numb:∀i,(i,[])∈nodes (fr z k)→(z.bd i).num≤n
 fs:av k≤2 * n
 gn:z.gn≤1+2 * n
 bn:z.bn≤10+120 * n
 deck:z.deck.length≤63
section
variable{z:Z}{k:F}{star:Int}{n:Nat}
theorem InvP.mono(h:InvP z k star n){m:Nat}(hm:n≤m):InvP z k star m where
 nd:=h.nd
 all:=fun e he=> (h.all e he).congr (h.all e he).S (h.all e he).L rfl rfl .rfl' (fun u_ u_=> .rfl') rfl (BB_mono hm)
 rp:=h.rp
 Sb:=h.Sb
 Lb:=h.Lb
 PL:=h.PL
 sel:=h.sel
 star:=h.star
 nums:=h.nums
 numb:=fun i hi=>by have:=h.numb i hi;lia
 fs:=by have:=h.fs;lia
 gn:=by have:=h.gn;lia
 bn:=by have:=h.bn;lia
 deck:=h.deck
theorem InvP.only(h:InvP z k star n){wd':Int→WD}(ho:only z.wd wd'):InvP {z with wd:=wd'} k star n where
 nd:=h.nd
 all:=fun e he=>by
  have sw:∀j,SameW (wd' j) (z.wd j):=fun j=>by rw[ho j];exact⟨rfl,rfl,rfl,rfl,rfl⟩
  exact(h.all e he).congr (h.all e he).S (h.all e he).L rfl rfl (sw _) (fun c u_=>sw c) rfl (Int.le_refl _)
 rp:=by show(wd' z.root).par=0;rw[ho];exact h.rp
 Sb:=h.Sb
 Lb:=h.Lb
 PL:=h.PL
 sel:=h.sel
 star:=h.star
 nums:=h.nums
 numb:=h.numb
 fs:=h.fs
 gn:=h.gn
 bn:=h.bn
 deck:=h.deck
theorem InvP.loc(h:InvP z k star n)(ℓ:Slot→Addr):InvP {z with loc:=ℓ} k star n:=⟨h.nd,fun e he=> (h.all e he).congr (h.all e he).S (h.all e he).L rfl rfl .rfl' (fun u_ u_=> .rfl') rfl (Int.le_refl _),h.rp,h.Sb,h.Lb,h.PL,h.sel,h.star,h.nums,h.numb,h.fs,h.gn,h.bn,h.deck⟩
theorem InvP.deck_(h:InvP z k star n){r:List Int}(hr:r.length≤63):InvP {z with deck:=r} k star n:=⟨h.nd,fun e he=> (h.all e he).congr (h.all e he).S (h.all e he).L rfl rfl .rfl' (fun u_ u_=> .rfl') rfl (Int.le_refl _),h.rp,h.Sb,h.Lb,h.PL,h.sel,h.star,h.nums,h.numb,h.fs,h.gn,h.bn,hr⟩
theorem InvP.wk(h:InvP z k star n):Wk z (fr z k):=Wk_of fun e he=>by
 have a:=h.all e he
 refine⟨a.S,a.K,a.srt.imp id fun q=> ⟨fun e=>by rw[e] at q;simp at q,q.2⟩⟩
theorem InvP.lk(h:InvP z k star n)(hn:n≤20):Lk z (fr z k):=Lk_of fun e he=>by
 have a:=h.all e he
 have:=(bA he).2.2
 have fs:=h.fs
 simp only[av] at this
 refine⟨a.L,a.P,by lia,?_⟩
 rw[a.kind]
 exact a.srt.imp id fun q=> ⟨fun e=>by rw[e] at q;simp at q,q.2⟩
theorem InvP.len(h:InvP z k star n)(hn:n≤20){e:Int×List Int}(he:e∈nodes (fr z k)):e.2.length≤40:=by
 have:=(bA he).2.2
 have fs:=h.fs
 simp only[av] at this
 lia
theorem InvP.one(h:InvP z k star n){i:Int}{l l':List Int}(h1:(i,l)∈nodes (fr z k))(h2:(i,l')∈nodes (fr z k)):l=l':=(h.all _ h1).K.symm.trans (h.all _ h2).K
theorem InvP.up(h:InvP z k star n){i p c:Int}{l l':List Int}(h1:(i,l)∈nodes (fr z k))(h2:(p,l')∈nodes (fr z k))(c1:c∈l)(c2:c∈l'):i=p:=((h.all _ h1).kid c c1).1.symm.trans ((h.all _ h2).kid c c2).1
theorem InvP.top(h:InvP z k star n){i:Int}{l:List Int}(h1:(i,l)∈nodes (fr z k)):z.root∉l:=fun q=>by
 have a:=((h.all _ h1).kid _ q).1
 rw[h.rp] at a
 have:=(h.Sb i (h.all _ h1).S).1
 dsimp only at a;lia
theorem InvP.self(h:InvP z k star n){i:Int}{l:List Int}(h1:(i,l)∈nodes (fr z k)):i∉l:=fun q=> ((h.all _ h1).kid _ q).2 rfl
theorem InvP.child(h:InvP z k star n){i c:Int}{l:List Int}(h1:(i,l)∈nodes (fr z k))(hc:c∈l):∃l',(c,l')∈nodes (fr z k):=ids_nodes ((bA h1).2.1 c hc)
end
theorem ax_set1{ax:Int}(h:ax=0∨ax=1)(v:Int)(w:WD):axSz ax (aK ax v w)=v:=by rcases h with rfl |rfl <;> rfl
theorem ax_set2{ax:Int}(h:ax=0∨ax=1)(v:Int)(w:WD):axSz (1 - ax) (aK ax v w)=axSz (1 - ax) w:=by rcases h with rfl |rfl <;> rfl
theorem bM(ax v:Int)(w:WD):(aK ax v w).sort=w.sort∧(aK ax v w).par=w.par∧(aK ax v w).buf=w.buf:=by unfold aK;split <;> exact⟨rfl,rfl,rfl⟩
theorem setBx_same(ax v:Int)(b:BD):(setBx ax v b).kind=b.kind∧(setBx ax v b).buf=b.buf∧(setBx ax v b).num=b.num:=by unfold setBx;split <;> exact⟨rfl,rfl,rfl⟩
theorem set_agree{ax v:Int}{w:WD}{b:BD}(h1:b.row=w.wid)(h2:b.col=w.hei):(setBx ax v b).row=(aK ax v w).wid∧(setBx ax v b).col=(aK ax v w).hei:=by
 unfold setBx aK;split <;> exact⟨by first |rfl |exact h1,by first |rfl |exact h2⟩
theorem set_bnd{ax v B:Int}{w:WD}(h1:0≤w.wid)(h2:w.wid≤B)(h3:0≤w.hei)(h4:w.hei≤B)(v0:0≤v)(v1:v≤B):0≤(aK ax v w).wid∧(aK ax v w).wid≤B∧0≤(aK ax v w).hei∧(aK ax v w).hei≤B:=by
 unfold aK;split <;> exact⟨by assumption,by assumption,by assumption,by assumption⟩
theorem axSz_bnd{ax B:Int}{w:WD}(h1:0≤w.wid)(h2:w.wid≤B)(h3:0≤w.hei)(h4:w.hei≤B):0≤axSz ax w∧axSz ax w≤B:=by
 unfold axSz;split <;> exact⟨by assumption,by assumption⟩
theorem axOf_axK{ax:Int}(h:ax=0∨ax=1):axOf (axK ax)=ax:=by rcases h with rfl |rfl <;> rfl
theorem axOf01(s:Int):axOf s=0∨axOf s=1:=by unfold axOf;split <;> simp
theorem sum_chg{x:Int}{l:List Int}(hx:x∈l)(nd:l.Nodup){g g':Int→Int}(h:∀c∈l,c≠x→g' c=g c):(l.map g').sum=(l.map g).sum - g x+g' x:=by
 refine q18 (mid_of hx nd) fun a b rf2 h1 h2=> ?_
 subst rf2
 have e1:a.map g'=a.map g:=List.map_congr_left fun c hc=>h c (by simp[hc]) fun e=>h1 (e▸hc)
 have e2:b.map g'=b.map g:=List.map_congr_left fun c hc=>h c (by simp[hc]) fun e=>h2 (e▸hc)
 simp only[List.map_append,List.sum_append,List.map_cons,List.sum_cons,e1,e2];lia
section
variable{z z':Z}{k:F}{star:Int}{n:Nat}
theorem leafNN{z:Z}{B i:Int}(hS:i∈z.S)(hL:i∈z.L)(hK:z.K i= [])(hP:z.P i= [])(hs:(z.wd i).sort=0)(hk:(z.bd i).kind=0)(hr:(z.bd i).row=(z.wd i).wid)(hc:(z.bd i).col=(z.wd i).hei)(hb:(z.bd i).buf=(z.wd i).buf)(hB:0≤(z.wd i).wid∧(z.wd i).wid≤B∧0≤(z.wd i).hei∧(z.wd i).hei≤B∧0≤(z.wd i).buf∧(z.wd i).buf≤10):NN z B i []:=
 ⟨hS,hL,hK,hP,hk.trans hs.symm, .inl ⟨rfl,hs⟩,fun u_=> ⟨hr,hc,hb⟩,fun c hc=> (nomatch hc),fun e=>absurd rfl e,fun e=>absurd rfl e,hB⟩
theorem InvP.leaf0(D:InvP z k star n){x:Int}(hx:(x,[])∈nodes (fr z k)):(z.wd x).sort=0∧(z.bd x).kind=0:=by
 have a:=D.all _ hx
 rcases a.srt with⟨_,b⟩ |⟨b,_⟩
 ·exact⟨b,a.kind.trans b⟩
 ·simp at b
theorem InvP.box0(D:InvP z k star n){x:Int}{l:List Int}(hx:(x,l)∈nodes (fr z k))(hl:l≠[]):2≤l.length∧((z.wd x).sort=1∨(z.wd x).sort=2):=by
 have a:=D.all _ hx
 rcases a.srt with⟨b,_⟩ |b
 ·exact absurd b hl
 ·exact b
theorem InvP.kofl(D:InvP z k star n){x:Int}(hx:(x,[])∈nodes (fr z k)):kof x (fr z k)= .nil:=by
 have:=(kof_node D.nd (bA hx).1).1
 exact tops_nil.mp (D.one this hx)
theorem putInv(D:InvP z k star n){x N1:Int}{new:List Int}{k':F}{h:F→F}(hx:(x,[])∈nodes (fr z k))(hf:fr z' k'=rep x h (fr z k))(hN1:N1∈new)(hnew:∀j∈new,j∉z.S∧j∉ids (fr z k))(hnd:new.Nodup)
  (hc:∀j,(ids (h .nil)).count j=(x::new).count j) (hlv:∀i,(i,[])∈nodes (h .nil)→i=x∨i=N1) (hxn:(x,[])∈nodes (h .nil)) (hfs:av (h .nil)≤3)
  (hall:∀e∈nodes (fr z' k'),NN z' (BB (n+1)) e.1 e.2) (rp:(z'.wd z'.root).par=0) (Sb:∀i∈z'.S,0 < i∧i≤z'.last) (Lb:∀i∈z'.L,i≤z'.last) (PL:∀i∈z'.L,∀j∈z'.P i,j∈z'.L)
  (sel:z'.sel=z.sel) (numN:(z'.bd N1).num=n+1) (numo:∀j,j∈z.S→(z'.bd j).num=(z.bd j).num) (gn:z'.gn≤z.gn+2) (bn:z'.bn≤z.bn+20) (deck:z'.deck.length≤63):InvP z' k' star (n+1):=by
 have xi:=(bA hx).1
 have kx:=D.kofl hx
 have lv:∀i,(i,[])∈nodes (fr z' k')→i=N1∨(i,[])∈nodes (fr z k):=fun i hi=>by
  rw[hf] at hi
  rcases nodes_rep D.nd xi _ hi with⟨l0,a,b,c⟩ |a
  ·dsimp only at a b c
   rw[kx] at c
   by_cases q:x∈l0
   ·exfalso
    have:∀t∈tops (h .nil),t∈([]:List Int):=fun t ht=>by rw[c];exact mem_spl.mpr (.inr ⟨q,ht⟩)
    have t0:h .nil= .nil:=by
     cases e:h .nil with
     |nil=>rfl
     |node a b c=>rw[e] at this;exact absurd (this a (.head _)) (by simp)
    rw[t0] at hxn;cases hxn
   ·rw[bW q] at c;rw[c];exact .inr a
  ·rw[kx] at a
   rcases hlv i a with e |e
   ·rw[e];exact .inr hx
   ·exact .inl e
 have N1S:=hnew N1 hN1
 have hfs':av (fr z' k')+1+0=av (fr z k)+av (h .nil):=by
  rw[hf];have:=fsize_rep (h:=h) D.nd xi;rw[kx] at this;exact this
 have fs:=D.fs
 refine⟨?_,hall,rp,Sb,Lb,PL,?_,?_,fun i j hi hj e=> ?_,fun i hi=> ?_,?_,?_,?_,deck⟩
 ·rw[List.nodup_iff_count]
  intro j
  have c1:=count_rep (h:=h) D.nd xi j
  rw[←hf,kx,hc j] at c1
  have c2:=List.nodup_iff_count.mp D.nd j
  have c3:=List.nodup_iff_count.mp hnd j
  simp only[ids,List.count_cons,List.count_nil] at c1
  by_cases q:j∈new
  ·have:=List.count_eq_zero.mpr (hnew j q).2
   simp only[ids,List.count_cons] at this⊢
   simp only[ids,List.count_cons] at c1 c2
   lia
  ·have:=List.count_eq_zero.mpr q
   simp only[ids,List.count_cons] at c1 c2⊢
   lia
 ·rw[sel,hf]
  by_cases q:z.sel=x
  ·rw[q];exact rep_new D.nd xi (by rw[kx];exact hxn)
  ·rcases rep_nodes (h:=h) D.nd xi D.sel q with a |a
   ·rw[kx] at a;cases a
   ·rw[bW (by simp)] at a;exact a
 ·rw[sel,numo _ (D.all _ D.sel).S];exact D.star
 ·have old:∀i,(i,[])∈nodes (fr z k)→(z'.bd i).num=(z.bd i).num∧(z.bd i).num≤n:=fun i hi=> ⟨numo i (D.all _ hi).S,D.numb i hi⟩
  rcases lv i hi with rfl |hi' <;> rcases lv j hj with rfl |hj'
  ·rfl
  ·have:=old j hj';rw[numN] at e;lia
  ·have:=old i hi';rw[numN] at e;lia
  ·rw[(old i hi').1,(old j hj').1] at e;exact D.nums i j hi' hj' e
 ·rcases lv i hi with rfl |hi'
  ·rw[numN];push_cast;lia
  ·rw[numo i (D.all _ hi').S];have:=D.numb i hi';lia
 ·simp only[av] at hfs';lia
 ·have:=D.gn;lia
 ·have:=D.bn;lia
noncomputable def besF(x n:Int)(ah:Bool)(kk:F):F:=if ah then .node n .nil (.node x kk .nil) else .node x kk (.node n .nil .nil)
theorem besF_tops(x n:Int)(ah:Bool)(kk:F):tops (besF x n ah kk)=prL x n ah:=by unfold besF prL;split <;> rfl
theorem besF_nodes{x n:Int}{ah:Bool}{e:Int×List Int}(h:e∈nodes (besF x n ah .nil)):e=(x,[])∨e=(n,[]):=by
 unfold besF at h;split at h <;> simp[nodes,tops] at h <;> rcases h with h |h <;> simp[h]
theorem besF_x(x n:Int)(ah:Bool):(x,[])∈nodes (besF x n ah .nil):=by unfold besF;split <;> simp[nodes,tops]
theorem besF_count(x n:Int)(ah:Bool)(j:Int):(ids (besF x n ah .nil)).count j= [x,n].count j:=by
 unfold besF;split <;> simp only[ids,List.count_cons,List.count_nil,List.nil_append,List.append_nil] <;> lia
theorem mem_prL{x n c:Int}{ah:Bool}:c∈prL x n ah↔c=x∨c=n:=by unfold prL;split <;> simp <;> exact or_comm
theorem prL_len(x n:Int)(ah:Bool):(prL x n ah).length=2:=by unfold prL;split <;> rfl
theorem prL_sum(x n:Int)(ah:Bool)(g:Int→Int):((prL x n ah).map g).sum=g x+g n:=by unfold prL;split <;> simp;lia
theorem besideNN(D:InvP z k star n){x p N1 ax old new num:Int}{l:List Int}{nn:Nat}{ah:Bool}(hx:(x,[])∈nodes (fr z k))(hp:(p,l)∈nodes (fr z k))(hnn:l[nn]? =some x)(hN:N1∉z.S)(hax:ax=0∨ax=1)(hs:(z.wd p).sort=axK ax)(h0:0≤old)(h1:0≤new)(hsum:old+new=axSz ax (z.wd x))
  (hS:∀i,i∈z.S∨i=N1→i∈z'.S) (hL:∀i,i∈z.L∨i=N1→i∈z'.L) (wN:z'.wd N1=aK ax new ⟨0,p,0,0,(z.wd x).wid,(z.wd x).hei,(z.wd x).buf⟩) (wx:z'.wd x=aK ax old (z.wd x)) (wo:∀j,j≠N1→j≠x→z'.wd j=z.wd j)
  (kN:z'.K N1= []) (kp:z'.K p=spl x (prL x N1 ah) l) (ko:∀j,j≠N1→j≠p→z'.K j=z.K j) (pN:z'.P N1= []) (pp:z'.P p=spl x (prL x N1 ah) l) (po:∀j,j≠N1→j≠p→z'.P j=z.P j)
  (bN:z'.bd N1=newB z x ax new num) (bx':z'.bd x=setBx ax old (z.bd x)) (bo:∀j,j≠N1→j≠x→z'.bd j=z.bd j):∀e∈nodes (rep x (besF x N1 ah) (fr z k)),NN z' (BB (n+1)) e.1 e.2:=by
 have xi:=(bA hx).1
 have kx:=D.kofl hx
 have nx:=D.all _ hx
 have np:=D.all _ hp
 dsimp only at nx np
 have xl:x∈l:=List.mem_of_getElem? hnn
 have lnd:=nodes_nd D.nd hp
 dsimp only at lnd
 refine q0 (D.leaf0 hx) fun x0 xk=> ?_
 have l0:l≠[]:=fun e=>by rw[e] at xl;cases xl
 have pxne:p≠x:=fun e=>D.self hp (e▸xl)
 have hNx:x≠N1:=fun e=>hN (e▸nx.S)
 have hNp:p≠N1:=fun e=>hN (e▸np.S)
 have notN:∀{i l},(i,l)∈nodes (fr z k)→i≠N1∧∀c∈l,c≠N1:=fun{i l} h=> ⟨fun e=>hN (e▸(D.all _ h).S),fun c hc e=>by
  refine q1 (D.child h hc) fun l' hl'=> ?_
  exact hN (e▸(D.all _ hl').S)⟩
 refine q4 nx.bnd fun b1 b2 b3 b4 b5 b6=> ?_
 have B2:=BB_succ n
 have Bp:=BB_pos n
 refine q0 (axSz_bnd (ax:=ax) b1 b2 b3 b4) fun a1 a2=> ?_
 refine q2 (nx.leaf rfl) fun r1 r2 r3=> ?_
 intro e he
 obtain⟨i,l'⟩:=e
 rcases nodes_rep D.nd xi _ he with⟨l0',a,b,c⟩ |a
 ·dsimp only at a b c⊢
  rw[kx,besF_tops] at c
  by_cases q:x∈l0'
  ·have ip:i=p:=D.up a hp q xl
   subst ip
   have:=D.one a hp
   subst this
   subst c
   have axp:axOf (z'.wd i).sort=ax:=by rw[wo i hNp pxne,hs];exact axOf_axK hax
   have srt:(z'.wd i).sort=axK ax:=by rw[wo i hNp pxne];exact hs
   have len:=len_spl (m:=prL x N1 ah) xl lnd
   rw[prL_len] at len
   have l2:=(D.box0 hp l0).1
   have wsz:∀c∈l0',c≠x→axSz ax (z'.wd c)=axSz ax (z.wd c):=fun c hc hcx=> (congrArg _ (wo c ((notN hp).2 c hc) hcx))
   refine⟨hS _ (.inl np.S),hL _ (.inl np.L),kp,pp,?_, .inr ⟨by lia,by rw[srt];exact axK2 ax⟩,fun e=> ?_,fun c hc=> ?_,fun u_=> ?_,fun u_ c hc=> ?_,?_⟩
   ·rw[bo i hNp pxne,wo i hNp pxne];exact np.kind
   ·rw[e] at len;simp at len
   ·rw[srt]
    rcases mem_spl.mp hc with⟨h1,h2⟩ |⟨_,h1⟩
    ·rw[wo c ((notN hp).2 c h1) h2,←hs];exact np.kid c h1
    ·have ak:=axK2 ax
     rcases mem_prL.mp h1 with rfl |rfl
     ·rw[wx,(bM _ _ _).1,(bM _ _ _).2.1,x0]
      exact⟨(np.kid _ xl).1,by lia⟩
     ·rw[wN,(bM _ _ _).1,(bM _ _ _).2.1]
      exact⟨rfl,by show(0:Int)≠_;lia⟩
   ·rw[axp,sum_spl xl lnd,prL_sum,sum_chg xl lnd (g:=fun c=>axSz ax (z.wd c)) wsz,wo i hNp pxne]
    have:=np.sum l0
    rw[hs,axOf_axK hax] at this
    rw[this,wx,wN,ax_set1 hax,ax_set1 hax];lia
   ·rw[axp,wo i hNp pxne]
    have eqp:=np.eq l0
    rw[hs,axOf_axK hax] at eqp
    rcases mem_spl.mp hc with⟨h1,h2⟩ |⟨_,h1⟩
    ·rw[wo c ((notN hp).2 c h1) h2];exact eqp c h1
    ·rcases mem_prL.mp h1 with rfl |rfl
     ·rw[wx,ax_set2 hax];exact eqp _ xl
     ·rw[wN,ax_set2 hax,←eqp x xl];rfl
   ·rw[wo i hNp pxne]
    refine q4 np.bnd fun c1 c2 c3 c4 c5 c6=> ?_
    exact⟨c1,by lia,c3,by lia,c5,c6⟩
  ·rw[bW q] at c
   rw[c]
   have ni:=D.all _ a
   have ip:i≠p:=fun e=>by replace e:=e.symm;subst e;rw[D.one a hp] at q;exact q xl
   have inn:=notN a
   exact ni.congr (hS _ (.inl ni.S)) (hL _ (.inl ni.L)) (ko i inn.1 ip) (po i inn.1 ip) (by rw[wo i inn.1 b];exact .rfl') (fun c hc=>by rw[wo c (inn.2 c hc) fun e=>q (e▸hc)];exact .rfl') (bo i inn.1 b) (by lia)
 ·rw[kx] at a
  rcases besF_nodes a with e |e
  ·refine q0 (Prod.mk.inj e) fun rf0 rf1=> ?_
   rw[rf0]
   rw[rf1]
   have ag:=set_agree (ax:=ax) (v:=old) r1 r2
   refine leafNN (hS _ (.inl nx.S)) (hL _ (.inl nx.L)) ((ko _ hNx (Ne.symm pxne)).trans nx.K) ((po _ hNx (Ne.symm pxne)).trans nx.P) (by rw[wx,(bM _ _ _).1];exact x0) (by rw[bx',(setBx_same _ _ _).1];exact xk) (by rw[bx',wx];exact ag.1) (by rw[bx',wx];exact ag.2) (by rw[bx',wx,(setBx_same _ _ _).2.1,(bM _ _ _).2.2];exact r3) ?_
   rw[wx]
   have sb:=set_bnd (ax:=ax) (v:=old) (B:=BB (n+1)) b1 (by lia) b3 (by lia) h0 (by lia)
   rw[(bM _ _ _).2.2]
   exact⟨sb.1,sb.2.1,sb.2.2.1,sb.2.2.2,b5,b6⟩
  ·refine q0 (Prod.mk.inj e) fun rf0 rf1=> ?_
   rw[rf0]
   rw[rf1]
   have ag:=set_agree (ax:=ax) (v:=new) (w:=⟨0,p,0,0,(z.wd x).wid,(z.wd x).hei,(z.wd x).buf⟩) (b:=⟨0,(z.bd x).row,(z.bd x).col,(z.bd x).buf,num⟩) r1 r2
   refine leafNN (hS _ (.inr rfl)) (hL _ (.inr rfl)) kN pN (by rw[wN,(bM _ _ _).1]) (by rw[bN,newB,(setBx_same _ _ _).1]) (by rw[bN,wN];exact ag.1) (by rw[bN,wN];exact ag.2) (by rw[bN,wN,newB,(setBx_same _ _ _).2.1,(bM _ _ _).2.2];exact r3) ?_
   rw[wN]
   have sb:=set_bnd (ax:=ax) (v:=new) (B:=BB (n+1)) (w:=⟨0,p,0,0,(z.wd x).wid,(z.wd x).hei,(z.wd x).buf⟩) b1 (by dsimp only;lia) b3 (by dsimp only;lia) h1 (by lia)
   rw[(bM _ _ _).2.2]
   exact⟨sb.1,sb.2.1,sb.2.2.1,sb.2.2.2,b5,b6⟩
end
section
variable{z z':Z}{k:F}{star:Int}{n:Nat}
noncomputable def wrapF(x b n:Int)(ah:Bool)(kk:F):F:= .node b (besF x n ah kk) .nil
theorem wrapF_tops(x b n:Int)(ah:Bool)(kk:F):tops (wrapF x b n ah kk)= [b]:=rfl
theorem wrapF_nodes{x b n:Int}{ah:Bool}{e:Int×List Int}(h:e∈nodes (wrapF x b n ah .nil)):e=(b,prL x n ah)∨e=(x,[])∨e=(n,[]):=by
 unfold wrapF at h
 simp only[nodes,List.mem_cons,List.mem_append,besF_tops] at h
 rcases h with h |h |h
 ·exact .inl h
 ·exact .inr (besF_nodes h)
 ·simp at h
theorem wrapF_count(x b n:Int)(ah:Bool)(j:Int):(ids (wrapF x b n ah .nil)).count j= [x,b,n].count j:=by
 have:=besF_count x n ah j
 unfold wrapF
 simp only[ids,List.append_nil,List.count_cons,List.count_nil] at this⊢
 lia
theorem wrapNN(D:InvP z k star n){x b N1 ax old new num:Int}{ah:Bool}(hx:(x,[])∈nodes (fr z k))(hN:N1∉z.S)(hb:b∉z.S)(hbN:b≠N1)(hax:ax=0∨ax=1)(h0:0≤old)(h1:0≤new)(hsum:old+new=axSz ax (z.wd x))
  (hp:∀p l,(p,l)∈nodes (fr z k)→x∈l→(z.wd p).sort≠axK ax∧z'.K p=spl x [b] l∧z'.P p=spl x [b] l)
  (ko:∀j l,(j,l)∈nodes (fr z k)→x∉l→z'.K j=z.K j∧z'.P j=z.P j)
  (hS:∀i,i∈z.S∨i=N1∨i=b→i∈z'.S) (hL:∀i,i∈z.L∨i=N1∨i=b→i∈z'.L)
  (wb:z'.wd b=⟨axK ax,(z.wd x).par,(z.wd x).lft,(z.wd x).top,(z.wd x).wid,(z.wd x).hei,0⟩) (wN:z'.wd N1=aK ax new ⟨0,b,0,0,(z.wd x).wid,(z.wd x).hei,(z.wd x).buf⟩) (wx:z'.wd x=aK ax old {z.wd x with par:=b}) (wo:∀j,j≠N1→j≠x→j≠b→z'.wd j=z.wd j)
  (kb:z'.K b=prL x N1 ah) (kN:z'.K N1= []) (pb:z'.P b=prL x N1 ah) (pN:z'.P N1= [])
  (bb:z'.bd b=⟨axK ax,0,0,0,0⟩) (bN:z'.bd N1=newB z x ax new num) (bx':z'.bd x=setBx ax old (z.bd x)) (bo:∀j,j≠N1→j≠x→j≠b→z'.bd j=z.bd j):∀e∈nodes (rep x (wrapF x b N1 ah) (fr z k)),NN z' (BB (n+1)) e.1 e.2:=by
 have xi:=(bA hx).1
 have kx:=D.kofl hx
 have nx:=D.all _ hx
 dsimp only at nx
 refine q0 (D.leaf0 hx) fun x0 xk=> ?_
 have hNx:x≠N1:=fun e=>hN (e▸nx.S)
 have hbx:x≠b:=fun e=>hb (e▸nx.S)
 have notN:∀{i l},(i,l)∈nodes (fr z k)→i≠N1∧i≠b∧∀c∈l,c≠N1∧c≠b:=fun{i l} h=> ⟨fun e=>hN (e▸(D.all _ h).S),fun e=>hb (e▸(D.all _ h).S),fun c hc=>by
  refine q1 (D.child h hc) fun l' hl'=> ?_
  exact⟨fun e=>hN (e▸(D.all _ hl').S),fun e=>hb (e▸(D.all _ hl').S)⟩⟩
 refine q4 nx.bnd fun b1 b2 b3 b4 b5 b6=> ?_
 have B2:=BB_succ n
 have Bp:=BB_pos n
 refine q0 (axSz_bnd (ax:=ax) b1 b2 b3 b4) fun a1 a2=> ?_
 refine q2 (nx.leaf rfl) fun r1 r2 r3=> ?_
 have szb:∀a,axSz a (z'.wd b)=axSz a (z.wd x):=fun a=>by rw[wb];rfl
 have ak:=axK2 ax
 obtain⟨kx',px'⟩:=ko x [] hx (by simp)
 intro e he
 obtain⟨i,l'⟩:=e
 rcases nodes_rep D.nd xi _ he with⟨l0',a,bb',c⟩ |a
 ·dsimp only at a bb' c⊢
  rw[kx,wrapF_tops] at c
  have ni:=D.all _ a
  dsimp only at ni
  refine q2 (notN a) fun in1 in2 in3=> ?_
  by_cases q:x∈l0'
  ·refine q2 (hp i l0' a q) fun sp kp pp=> ?_
   subst c
   have lnd:=nodes_nd D.nd a
   dsimp only at lnd
   have l0:l0'≠[]:=fun e=>by rw[e] at q;cases q
   have len:=len_spl (m:= [b]) q lnd
   rw[show([b]:List Int).length=1 from rfl] at len
   refine q0 (D.box0 a l0) fun l2 s12=> ?_
   have wi:z'.wd i=z.wd i:=wo i in1 bb' in2
   refine⟨hS _ (.inl ni.S),hL _ (.inl ni.L),kp,pp,?_, .inr ⟨by lia,by rw[wi];exact s12⟩,fun e=> ?_,fun c hc=> ?_,fun u_=> ?_,fun u_ c hc=> ?_,?_⟩
   ·rw[bo i in1 bb' in2,wi];exact ni.kind
   ·rw[e,List.length_nil] at len;lia
   ·rw[wi]
    rcases mem_spl.mp hc with⟨h1,h2⟩ |⟨_,h1⟩
    ·refine q0 (in3 c h1) fun c1 c2=> ?_
     rw[wo c c1 h2 c2];exact ni.kid c h1
    ·have:=List.mem_singleton.mp h1
     rw[this]
     rw[wb]
     exact⟨(ni.kid _ q).1,Ne.symm sp⟩
   ·rw[wi,sum_spl q lnd,sum_chg q lnd (g:=fun c=>axSz (axOf (z.wd i).sort) (z.wd c)) (fun c hc hcx=> (congrArg _ (wo c (in3 c hc).1 hcx (in3 c hc).2)))]
    rw[←ni.sum l0]
    simp only[List.map_cons,List.map_nil,List.sum_cons,List.sum_nil,szb]
    lia
   ·rw[wi]
    rcases mem_spl.mp hc with⟨h1,h2⟩ |⟨_,h1⟩
    ·refine q0 (in3 c h1) fun c1 c2=> ?_
     rw[wo c c1 h2 c2];exact ni.eq l0 c h1
    ·have:=List.mem_singleton.mp h1
     rw[this]
     rw[szb];exact ni.eq l0 x q
   ·rw[wi]
    refine q4 ni.bnd fun c1 c2 c3 c4 c5 c6=> ?_
    exact⟨c1,by lia,c3,by lia,c5,c6⟩
  ·rw[bW q] at c
   subst c
   refine q0 (ko i l' a q) fun ko1 ko2=> ?_
   exact ni.congr (hS _ (.inl ni.S)) (hL _ (.inl ni.L)) ko1 ko2 (by rw[wo i in1 bb' in2];exact .rfl') (fun c hc=>by rw[wo c (in3 c hc).1 (fun e=>q (e▸hc)) (in3 c hc).2];exact .rfl') (bo i in1 bb' in2) (by lia)
 ·rw[kx] at a
  rcases wrapF_nodes a with e |e |e
  ·refine q0 (Prod.mk.inj e) fun rf0 rf1=> ?_
   subst rf0
   rw[rf1]
   dsimp only
   have l0:prL x N1 ah≠[]:=fun e=>by have:=prL_len x N1 ah;rw[e] at this;simp at this
   have sb:(z'.wd i).sort=axK ax:=(congrArg _ wb)
   refine⟨hS _ (.inr (.inr rfl)),hL _ (.inr (.inr rfl)),kb,pb,by rw[bb,wb], .inr ⟨by rw[prL_len];exact Nat.le_refl _,by rw[sb];exact ak⟩,fun e=>absurd e l0,fun c hc=> ?_,fun u_=> ?_,fun u_ c hc=> ?_,?_⟩
   ·rw[sb]
    rcases mem_prL.mp hc with rfl |rfl
    ·rw[wx,(bM _ _ _).1,(bM _ _ _).2.1]
     exact⟨rfl,by show(z.wd c).sort≠_;lia⟩
    ·rw[wN,(bM _ _ _).1,(bM _ _ _).2.1]
     exact⟨rfl,by show(0:Int)≠_;lia⟩
   ·rw[sb,axOf_axK hax,prL_sum,szb,wx,wN,ax_set1 hax,ax_set1 hax];lia
   ·rw[sb,axOf_axK hax,szb]
    rcases mem_prL.mp hc with rfl |rfl
    ·rw[wx,ax_set2 hax];rfl
    ·rw[wN,ax_set2 hax];rfl
   ·rw[wb]
    exact⟨b1,by dsimp only;lia,b3,by dsimp only;lia,by dsimp only;lia,by dsimp only;lia⟩
  ·refine q0 (Prod.mk.inj e) fun rf0 rf1=> ?_
   subst rf0
   rw[rf1]
   have ag:=set_agree (ax:=ax) (v:=old) (w:={z.wd i with par:=b}) (b:=z.bd i) r1 r2
   refine leafNN (hS _ (.inl nx.S)) (hL _ (.inl nx.L)) (kx'.trans nx.K) (px'.trans nx.P) (by rw[wx,(bM _ _ _).1];exact x0) (by rw[bx',(setBx_same _ _ _).1];exact xk) (by rw[bx',wx];exact ag.1) (by rw[bx',wx];exact ag.2) (by rw[bx',wx,(setBx_same _ _ _).2.1,(bM _ _ _).2.2];exact r3) ?_
   rw[wx]
   have sb:=set_bnd (ax:=ax) (v:=old) (B:=BB (n+1)) (w:={z.wd i with par:=b}) b1 (by dsimp only;lia) b3 (by dsimp only;lia) h0 (by lia)
   rw[(bM _ _ _).2.2]
   exact⟨sb.1,sb.2.1,sb.2.2.1,sb.2.2.2,b5,b6⟩
  ·refine q0 (Prod.mk.inj e) fun rf0 rf1=> ?_
   rw[rf0]
   rw[rf1]
   have ag:=set_agree (ax:=ax) (v:=new) (w:=⟨0,b,0,0,(z.wd x).wid,(z.wd x).hei,(z.wd x).buf⟩) (b:=⟨0,(z.bd x).row,(z.bd x).col,(z.bd x).buf,num⟩) r1 r2
   refine leafNN (hS _ (.inr (.inl rfl))) (hL _ (.inr (.inl rfl))) kN pN (by rw[wN,(bM _ _ _).1]) (by rw[bN,newB,(setBx_same _ _ _).1]) (by rw[bN,wN];exact ag.1) (by rw[bN,wN];exact ag.2) (by rw[bN,wN,newB,(setBx_same _ _ _).2.1,(bM _ _ _).2.2];exact r3) ?_
   rw[wN]
   have sb:=set_bnd (ax:=ax) (v:=new) (B:=BB (n+1)) (w:=⟨0,b,0,0,(z.wd x).wid,(z.wd x).hei,(z.wd x).buf⟩) b1 (by dsimp only;lia) b3 (by dsimp only;lia) h1 (by lia)
   rw[(bM _ _ _).2.2]
   exact⟨sb.1,sb.2.1,sb.2.2.1,sb.2.2.2,b5,b6⟩
end
theorem axOf_other{s t:Int}(hs:s=1∨s=2)(ht:t=1∨t=2)(h:s≠t):axOf s=1 - axOf t:=by
 rcases hs with rfl |rfl <;> rcases ht with rfl |rfl
 ·exact absurd rfl h
 ·rfl
 ·rfl
 ·exact absurd rfl h
theorem app_nil(f:F):app f .nil=f:=by
 induction f with
 |nil=>rfl
 |node i k r _ ih=>rw[app,ih]
theorem nodes_fun{f:F}(nd:(ids f).Nodup){i:Int}{l l':List Int}(h:(i,l)∈nodes f)(h':(i,l')∈nodes f):l=l':=by
 induction f with
 |nil=>cases h
 |node j k r h1 h2=>
  simp only[ids,List.nodup_cons,List.nodup_append,List.mem_append] at nd
  refine q6 nd fun n1 n2 n3 n4=> ?_
  simp only[nodes,List.mem_cons,List.mem_append,Prod.mk.injEq] at h h'
  rcases h with⟨e,e2⟩ |h |h <;> rcases h' with⟨e',e2'⟩ |h' |h'
  ·rw[e2,e2']
  ·exact absurd (.inl (e▸(bA h').1)) n1
  ·exact absurd (.inr (e▸(bA h').1)) n1
  ·exact absurd (.inl (e'▸(bA h).1)) n1
  ·exact h1 n2 h h'
  ·exact absurd rfl (n4 i (bA h).1 i (bA h').1)
  ·exact absurd (.inr (e'▸(bA h).1)) n1
  ·exact absurd rfl (n4 i (bA h').1 i (bA h).1)
  ·exact h2 n3 h h'
theorem kof_not{y:Int}{f:F}(nd:(ids f).Nodup)(hy:y∈ids f):y∉ids (kof y f):=by
 induction f with
 |nil=>cases hy
 |node i k r h1 h2=>
  simp only[ids,List.nodup_cons,List.nodup_append,List.mem_append] at nd
  refine q6 nd fun n1 n2 n3 n4=> ?_
  rw[kof]
  by_cases q:i=y
  ·subst q;rw[if_pos rfl];exact fun q=>n1 (.inl q)
  ·rw[if_neg q]
   by_cases hk:y∈ids k
   ·rw[if_pos hk];exact h1 n2 hk
   ·rw[if_neg hk]
    have hr:y∈ids r:=by
     simp only[ids,List.mem_cons,List.mem_append] at hy
     rcases hy with p |p |p
     ·exact absurd p.symm q
     ·exact absurd p hk
     ·exact p
    exact h2 n3 hr
theorem dis_nodes{y:Int}{f:F}{m:List Int}(nd:(ids f).Nodup)(hy:(y,m)∈nodes f){e:Int×List Int}(he:e∈nodes (rep y id f)):∃l0,(e.1,l0)∈nodes f∧e.1≠y∧e.2=spl y m l0:=by
 have yi:=(bA hy).1
 have km:=nodes_fun nd (kof_node nd yi).1 hy
 rcases nodes_rep nd yi e he with⟨l0,a,b,c⟩ |a
 ·exact⟨l0,a,b,by rw[c];show spl y (tops (kof y f)) l0=_;rw[km]⟩
 ·have kn:=kof_not nd yi
  refine q2 (bA a) fun a1 a2 u_=> ?_
  exact⟨e.2,(kof_node nd yi).2 e a,fun q=>kn (q▸a1),(bW fun q=>kn (a2 y q)).symm⟩
theorem dis_nodes'{y:Int}{f:F}{m:List Int}(nd:(ids f).Nodup)(hy:(y,m)∈nodes f){i:Int}{l:List Int}(hi:(i,l)∈nodes f)(hiy:i≠y):(i,spl y m l)∈nodes (rep y id f):=by
 have yi:=(bA hy).1
 have km:=nodes_fun nd (kof_node nd yi).1 hy
 rcases rep_nodes (h:=id) nd yi hi hiy with a |a
 ·have kn:=kof_not nd yi
  refine q2 (bA a) fun a1 a2 u_=> ?_
  rw[bW fun q=>kn (a2 y q)]
  exact rep_new (h:=id) nd yi a
 ·have:tops (id (kof y f))=m:=km
  rw[this] at a;exact a
theorem dis_count{y:Int}{f:F}(nd:(ids f).Nodup)(hy:y∈ids f)(j:Int):(ids (rep y id f)).count j+ [y].count j=(ids f).count j:=by
 have:=count_rep (h:=id) nd hy j
 simp only[List.count_cons,List.count_nil,id_eq] at this⊢
 lia
theorem dis_nd{y:Int}{f:F}(nd:(ids f).Nodup)(hy:y∈ids f):(ids (rep y id f)).Nodup:=by
 rw[List.nodup_iff_count]
 intro j
 have:=dis_count nd hy j
 have:=List.nodup_iff_count.mp nd j
 lia
theorem dis_ids{y:Int}{f:F}(nd:(ids f).Nodup)(hy:y∈ids f){j:Int}:j∈ids (rep y id f)↔j∈ids f∧j≠y:=by
 have h1:=dis_count nd hy j
 have h2:=List.nodup_iff_count.mp nd j
 have e1:= @List.count_pos_iff Int _ _ j (ids (rep y id f))
 have e2:= @List.count_pos_iff Int _ _ j (ids f)
 rw[←e1,←e2]
 by_cases q:j=y
 ·subst q
  have: [j].count j=1:=by simp
  exact⟨fun h=>by lia,fun h=>absurd rfl h.2⟩
 ·have: [y].count j=0:=List.count_eq_zero.mpr (by simpa using q)
  exact⟨fun h=> ⟨by lia,q⟩,fun h=>by lia⟩
theorem dis_fsize{y:Int}{f:F}(nd:(ids f).Nodup)(hy:y∈ids f):av (rep y id f)+1=av f:=by
 have:=fsize_rep (h:=id) nd hy
 simp only[id_eq] at this;lia
section
variable{z z':Z}{k:F}{star:Int}{n:Nat}
structure Del(z:Z)(k:F)(x p q:Int)(l lq:List Int):Prop where
 xn:(x,[])∈nodes (fr z k)
 pn:(p,l)∈nodes (fr z k)
 xl:x∈l
 ql:q∈l
 qx:q≠x
 qn:(q,lq)∈nodes (fr z k)
 lv:∀c∈lq,(c,[])∈nodes (fr z k)
 sel:z.sel≠x
noncomputable def cs0(q:Int)(lq:List Int):List Int:=if lq= [] then [q] else lq
noncomputable def delV(z:Z)(x p q:Int):Int:=axSz (axOf (z.wd p).sort) (z.wd q)+axSz (axOf (z.wd p).sort) (z.wd x)
structure DelW(z z':Z)(x p q:Int)(lq:List Int):Prop where
 wd:∀j,z'.wd j={(if j=q∨j∈lq then aK (axOf (z.wd p).sort) (delV z x p q) (z.wd j) else z.wd j) with par:=(z'.wd j).par}
 bd:∀j,z'.bd j=if j∈cs0 q lq then setBx (axOf (z.wd p).sort) (delV z x p q) (z.bd j) else z.bd j
theorem DelW.sort{x p q:Int}{lq:List Int}(h:DelW z z' x p q lq)(j:Int):(z'.wd j).sort=(z.wd j).sort∧(z'.wd j).buf=(z.wd j).buf:=by
 rw[h.wd j]
 dsimp only
 split
 ·exact⟨(bM _ _ _).1,(bM _ _ _).2.2⟩
 ·exact⟨rfl,rfl⟩
theorem DelW.kind{x p q:Int}{lq:List Int}(h:DelW z z' x p q lq)(j:Int):(z'.bd j).kind=(z.bd j).kind∧(z'.bd j).num=(z.bd j).num:=by
 rw[h.bd j]
 split
 ·exact⟨(setBx_same _ _ _).1,(setBx_same _ _ _).2.2⟩
 ·exact⟨rfl,rfl⟩
theorem axSz_par(a:Int)(w:WD)(p:Int):axSz a {w with par:=p}=axSz a w:=rfl
theorem DelW.other{x p q:Int}{lq:List Int}(h:DelW z z' x p q lq){j:Int}(hj:j≠q)(hj':j∉lq)(a:Int):axSz a (z'.wd j)=axSz a (z.wd j)∧(z'.wd j).wid=(z.wd j).wid∧(z'.wd j).hei=(z.wd j).hei:=by
 rw[h.wd j,axSz_par,if_neg (by simp[hj,hj'])]
 exact⟨rfl,rfl,rfl⟩
theorem DelW.along{x p q:Int}{lq:List Int}(h:DelW z z' x p q lq){j:Int}(hj:j=q∨j∈lq):axSz (axOf (z.wd p).sort) (z'.wd j)=delV z x p q∧axSz (1 - axOf (z.wd p).sort) (z'.wd j)=axSz (1 - axOf (z.wd p).sort) (z.wd j):=by
 rw[h.wd j,axSz_par,axSz_par,if_pos hj]
 exact⟨ax_set1 (axOf01 _) _ _,ax_set2 (axOf01 _) _ _⟩
theorem Del.facts{x p q:Int}{l lq:List Int}(d:Del z k x p q l lq)(D:InvP z k star n):p≠x∧q≠p∧x∉lq∧p∉lq∧q∉lq∧l≠[]∧p≠0∧x≠z.root∧q≠z.root∧(z.wd x).par=p∧(z.wd q).par=p∧0≤delV z x p q∧delV z x p q≤BB (n+1):=by
 have px:p≠x:=fun e=>D.self d.pn (by rw[e];exact d.xl)
 have qp:q≠p:=fun e=>D.self d.pn (by rw[←e];exact d.ql)
 have xq:x∉lq:=fun h=>qp (D.up d.qn d.pn h d.xl)
 have qq:=D.self d.qn
 have pq:p∉lq:=fun h=>by
  have:=D.one (d.lv p h) d.pn
  have:=d.xl
  simp_all
 have l0:l≠[]:=fun e=>by have:=d.xl;rw[e] at this;cases this
 have np:=D.all _ d.pn
 refine q3 ((D.all _ d.xn).bnd) fun b1 b2 b3 b4 u_=> ?_
 refine q3 ((D.all _ d.qn).bnd) fun c1 c2 c3 c4 u_=> ?_
 have s1:=axSz_bnd (ax:=axOf (z.wd p).sort) b1 b2 b3 b4
 have s2:=axSz_bnd (ax:=axOf (z.wd p).sort) c1 c2 c3 c4
 have:=BB_succ n
 refine⟨px,qp,xq,pq,qq,l0,fun e=> ?_,fun e=>D.top d.pn (by rw[←e];exact d.xl),fun e=>D.top d.pn (by rw[←e];exact d.ql),(np.kid _ d.xl).1,(np.kid _ d.ql).1,?_,?_⟩
 ·have:=(D.Sb p np.S).1;lia
 ·unfold delV;dsimp only at s1 s2;lia
 ·unfold delV;dsimp only at s1 s2;lia
theorem delSame{x p q:Int}{l lq:List Int}(D:InvP z k star n)(d:Del z k x p q l lq)(w:DelW z z' x p q lq){i:Int}{l0:List Int}(hi:(i,l0)∈nodes (fr z k))(hip:i≠p)(hS:i∈z'.S)(hL:i∈z'.L)(hK:z'.K i=l0)(hP:z'.P i=l0)(hpar:∀c∈l0,(z'.wd c).par=i):NN z' (BB (n+1)) i l0:=by
 refine q21 (d.facts D) fun px qp xq pq qq ln p0 u_ u_ u_ u_ v0 v1=> ?_
 have ni:=D.all _ hi
 dsimp only at ni
 refine q0 (w.sort i) fun s1 s2=> ?_
 refine q0 (w.kind i) fun k1 k2=> ?_
 have B2:=BB_succ n
 have Bp:=BB_pos n
 refine q4 ni.bnd fun b1 b2 b3 b4 b5 b6=> ?_
 have bnd:0≤(z'.wd i).wid∧(z'.wd i).wid≤BB (n+1)∧0≤(z'.wd i).hei∧(z'.wd i).hei≤BB (n+1)∧0≤(z'.wd i).buf∧(z'.wd i).buf≤10:=by
  rw[w.wd i]
  dsimp only
  split
  ·have sb:=set_bnd (ax:=axOf (z.wd p).sort) (v:=delV z x p q) (B:=BB (n+1)) (w:=z.wd i) b1 (by lia) b3 (by lia) v0 v1
   rw[(bM _ _ _).2.2]
   exact⟨sb.1,sb.2.1,sb.2.2.1,sb.2.2.2,b5,b6⟩
  ·exact⟨b1,by lia,b3,by lia,b5,b6⟩
 refine⟨hS,hL,hK,hP,by rw[k1,s1];exact ni.kind,by rw[s1];exact ni.srt,fun e=> ?_,fun c hc=> ⟨hpar c hc,by rw[(w.sort c).1,s1];exact(ni.kid c hc).2⟩,fun e=> ?_,fun e c hc=> ?_,bnd⟩
 ·refine q2 (ni.leaf e) fun r1 r2 r3=> ?_
  have hb:(z'.bd i).buf=(z.bd i).buf:=by
   rw[w.bd i];split
   ·exact(setBx_same _ _ _).2.1
   ·rfl
  have hcs:i∈cs0 q lq↔(i=q∨i∈lq):=by
   unfold cs0
   by_cases e0:lq= []
   ·rw[if_pos e0,e0];simp
   ·rw[if_neg e0]
    refine⟨.inr,fun h=>h.resolve_left fun e1=> ?_⟩
    subst e1;subst e
    exact e0 (D.one d.qn hi)
  rw[hb,s2,r3]
  have hw:=w.wd i
  have hbd:=w.bd i
  rw[hw,hbd]
  dsimp only
  by_cases e1:i=q∨i∈lq
  ·rw[if_pos e1,if_pos (hcs.mpr e1)]
   have:=set_agree (ax:=axOf (z.wd p).sort) (v:=delV z x p q) r1 r2
   exact⟨this.1,this.2,rfl⟩
  ·rw[if_neg e1,if_neg (fun q=>e1 (hcs.mp q))]
   exact⟨r1,r2,rfl⟩
 ·rw[s1]
  by_cases e1:i=q
  ·subst e1
   have e2:=D.one hi d.qn
   replace e2:=e2.symm;subst e2
   have sp:=((D.all _ d.pn).kid i d.ql).2
   refine q0 (D.box0 d.qn e) fun u_ t1=> ?_
   refine q0 (D.box0 d.pn ln) fun u_ t2=> ?_
   have ea:axOf (z.wd i).sort=1 - axOf (z.wd p).sort:=axOf_other t1 t2 sp
   rw[ea,(w.along (.inl rfl)).2,←ea,ni.sum e]
   congr 1
   exact List.map_congr_left fun c hc=>by rw[ea,(w.along (.inr hc)).2]
  ·have e2:i∉lq:=fun h=>by rw[D.one hi (d.lv i h)] at e;exact e rfl
   rw[(w.other e1 e2 _).1,ni.sum e]
   congr 1
   refine List.map_congr_left fun c hc=> ((w.other ?_ ?_ _).1).symm
   ·exact fun h=>hip (D.up hi d.pn hc (h▸d.ql))
   ·exact fun h=>e1 (D.up hi d.qn hc h)
 ·rw[s1]
  by_cases e1:i=q
  ·subst e1
   have e2:=D.one hi d.qn
   subst e2
   have sp:=((D.all _ d.pn).kid i d.ql).2
   refine q0 (D.box0 d.qn e) fun u_ t1=> ?_
   refine q0 (D.box0 d.pn ln) fun u_ t2=> ?_
   have ea:1 - axOf (z.wd i).sort=axOf (z.wd p).sort:=by rw[axOf_other t1 t2 sp];lia
   rw[ea,(w.along (.inl rfl)).1,(w.along (.inr hc)).1]
  ·have e2:i∉lq:=fun h=>by rw[D.one hi (d.lv i h)] at e;exact e rfl
   rw[(w.other e1 e2 _).1,(w.other (j:=c) ?_ ?_ _).1]
   ·exact ni.eq e c hc
   ·exact fun h=>hip (D.up hi d.pn hc (h▸d.ql))
   ·exact fun h=>e1 (D.up hi d.qn hc h)
end
section
variable{z z':Z}{k:F}{star:Int}{n:Nat}
theorem delBnd{x p q:Int}{l lq:List Int}(D:InvP z k star n)(w:DelW z z' x p q lq){g:Int}{l0:List Int}(hg:(g,l0)∈nodes (fr z k))(h1:g≠q)(h2:g∉lq):0≤(z'.wd g).wid∧(z'.wd g).wid≤BB (n+1)∧0≤(z'.wd g).hei∧(z'.wd g).hei≤BB (n+1)∧0≤(z'.wd g).buf∧(z'.wd g).buf≤10:=by
 refine q4 ((D.all _ hg).bnd) fun b1 b2 b3 b4 b5 b6=> ?_
 refine q2 (w.other h1 h2 0) fun u_ e2 e3=> ?_
 have B2:=BB_succ n
 have Bp:=BB_pos n
 rw[e2,e3,(w.sort g).2]
 exact⟨b1,by dsimp only at b2;lia,b3,by dsimp only at b4;lia,b5,b6⟩
theorem delKeep{x p q:Int}{l lq:List Int}(D:InvP z k star n)(d:Del z k x p q l lq)(w:DelW z z' x p q lq)(h3:3≤l.length)(hS:p∈z'.S)(hL:p∈z'.L)(hK:z'.K p=spl x [] l)(hP:z'.P p=spl x [] l)(hpar:∀c∈l,(z'.wd c).par=p):NN z' (BB (n+1)) p (spl x [] l):=by
 refine q21 (d.facts D) fun px qp xq pq qq ln p0 u_ u_ u_ u_ v0 v1=> ?_
 have np:=D.all _ d.pn
 dsimp only at np
 have lnd:=nodes_nd D.nd d.pn
 dsimp only at lnd
 refine q0 (w.sort p) fun s1 s2=> ?_
 refine q0 (w.kind p) fun k1 k2=> ?_
 refine q2 (w.other (Ne.symm qp) pq (axOf (z.wd p).sort)) fun o1 u_ u_=> ?_
 refine q2 (w.other (Ne.symm qp) pq (1 - axOf (z.wd p).sort)) fun o2 u_ u_=> ?_
 have len:=len_spl (m:= []) d.xl lnd
 rw[List.length_nil] at len
 refine q0 (D.box0 d.pn ln) fun u_ t2=> ?_
 have notq:∀c∈l,c∉lq:=fun c hc h=>qp (D.up d.qn d.pn h hc)
 have sz:∀c∈l,c≠q→axSz (axOf (z.wd p).sort) (z'.wd c)=axSz (axOf (z.wd p).sort) (z.wd c):=fun c hc hcq=> (w.other hcq (notq c hc) _).1
 refine⟨hS,hL,hK,hP,by rw[k1,s1];exact np.kind, .inr ⟨by lia,by rw[s1];exact t2⟩,fun e=> ?_,fun c hc=> ?_,fun u_=> ?_,fun u_ c hc=> ?_,delBnd (l:=l) D w d.pn (Ne.symm qp) pq⟩
 ·rw[e,List.length_nil] at len;lia
 ·rcases mem_spl.mp hc with⟨h1,h2⟩ |⟨_,h1⟩
  ·exact⟨hpar c h1,by rw[(w.sort c).1,s1];exact(np.kid c h1).2⟩
  ·cases h1
 ·rw[s1,o1,np.sum ln,sum_spl d.xl lnd,sum_chg d.ql lnd (g:=fun c=>axSz (axOf (z.wd p).sort) (z.wd c)) sz,sz x d.xl (Ne.symm d.qx),(w.along (.inl rfl)).1]
  unfold delV
  simp only[List.map_nil,List.sum_nil];lia
 ·rw[s1,o2]
  rcases mem_spl.mp hc with⟨h1,h2⟩ |⟨_,h1⟩
  ·by_cases e:c=q
   ·subst e
    rw[(w.along (.inl rfl)).2];exact np.eq ln c h1
   ·rw[(w.other e (notq c h1) _).1];exact np.eq ln c h1
  ·cases h1
theorem delSizes{x p q:Int}{l lq:List Int}(D:InvP z k star n)(d:Del z k x p q l lq)(h2:spl x [] l= [q]):delV z x p q=axSz (axOf (z.wd p).sort) (z.wd p)∧axSz (1 - axOf (z.wd p).sort) (z.wd q)=axSz (1 - axOf (z.wd p).sort) (z.wd p):=by
 refine q21 (d.facts D) fun px qp xq pq qq ln p0 u_ u_ u_ u_ v0 v1=> ?_
 have np:=D.all _ d.pn
 dsimp only at np
 have lnd:=nodes_nd D.nd d.pn
 dsimp only at lnd
 have:=sum_spl (m:= []) d.xl lnd fun c=>axSz (axOf (z.wd p).sort) (z.wd c)
 rw[h2,←np.sum ln] at this
 simp only[List.map_nil,List.sum_nil,List.map_cons,List.sum_cons] at this
 refine⟨?_,np.eq ln q d.ql⟩
 unfold delV;lia
theorem ax01{a b:Int}(ha:a=0∨a=1)(hb:b=0∨b=1):b=a∨b=1 - a:=by lia
theorem delUp{x p q g:Int}{l lq l0:List Int}(D:InvP z k star n)(d:Del z k x p q l lq)(w:DelW z z' x p q lq)(h2:spl x [] l= [q])(hg:(g,l0)∈nodes (fr z k))(pg:p∈l0)(hs:(z.wd q).sort≠(z.wd g).sort)(hS:g∈z'.S)(hL:g∈z'.L)(hK:z'.K g=spl p [q] l0)(hP:z'.P g=spl p [q] l0)(hpar:∀c∈l0,c≠p→(z'.wd c).par=g)(hparq:(z'.wd q).par=g):NN z' (BB (n+1)) g (spl p [q] l0):=by
 refine q21 (d.facts D) fun px qp xq pq qq ln p0 u_ u_ u_ u_ v0 v1=> ?_
 refine q0 (delSizes D d h2) fun z1 z2=> ?_
 have ng:=D.all _ hg
 dsimp only at ng
 have lnd:=nodes_nd D.nd hg
 dsimp only at lnd
 refine q0 (w.sort g) fun s1 s2=> ?_
 refine q0 (w.kind g) fun k1 k2=> ?_
 have l0n:l0≠[]:=fun e=>by rw[e] at pg;cases pg
 have gq:g≠q:=fun e=>by replace e:=e.symm;subst e;rw[D.one hg d.qn] at pg;exact pq pg
 have glq:g∉lq:=fun h=>l0n (D.one hg (d.lv g h))
 have gp:g≠p:=fun e=>by subst e;exact D.self hg pg
 have len:=len_spl (m:= [q]) pg lnd
 rw[show([q]:List Int).length=1 from rfl] at len
 refine q0 (D.box0 hg l0n) fun g2 t2=> ?_
 have notq:∀c∈l0,c≠q∧c∉lq:=fun c hc=> ⟨fun h=>gp (D.up hg d.pn hc (h▸d.ql)),fun h=>gq (D.up hg d.qn hc h)⟩
 have qs:∀a,a=0∨a=1→axSz a (z'.wd q)=axSz a (z.wd p):=fun a ha=>by
  rcases ax01 (axOf01 (z.wd p).sort) ha with e |e
  ·rw[e,(w.along (.inl rfl)).1,z1]
  ·rw[e,(w.along (.inl rfl)).2,z2]
 have sz:∀a,∀c∈l0,axSz a (z'.wd c)=axSz a (z.wd c):=fun a c hc=> (w.other (notq c hc).1 (notq c hc).2 a).1
 refine⟨hS,hL,hK,hP,by rw[k1,s1];exact ng.kind, .inr ⟨by lia,by rw[s1];exact t2⟩,fun e=> ?_,fun c hc=> ?_,fun u_=> ?_,fun u_ c hc=> ?_,delBnd (l:=l) D w hg gq glq⟩
 ·rw[e,List.length_nil] at len;lia
 ·rcases mem_spl.mp hc with⟨h1,h2⟩ |⟨_,h1⟩
  ·exact⟨hpar c h1 h2,by rw[(w.sort c).1,s1];exact(ng.kid c h1).2⟩
  ·have:=List.mem_singleton.mp h1
   subst this
   exact⟨hparq,by rw[(w.sort c).1,s1];exact hs⟩
 ·rw[s1,(w.other gq glq _).1,ng.sum l0n,sum_spl pg lnd,List.map_congr_left (g:=fun c=>axSz (axOf (z.wd g).sort) (z.wd c)) (fun c hc=>sz _ c hc),sz _ p pg]
  simp only[List.map_nil,List.sum_nil,List.map_cons,List.sum_cons]
  rw[qs _ (axOf01 _)];lia
 ·rw[s1,(w.other gq glq _).1]
  rcases mem_spl.mp hc with⟨h1,h2⟩ |⟨_,h1⟩
  ·rw[sz _ c h1];exact ng.eq l0n c h1
  ·have:=List.mem_singleton.mp h1
   rw[this]
   rw[qs _ (by have:=axOf01 (z.wd g).sort;lia)];exact ng.eq l0n p pg
theorem delMerge{x p q g:Int}{l lq l0:List Int}(D:InvP z k star n)(d:Del z k x p q l lq)(w:DelW z z' x p q lq)(h2:spl x [] l= [q])(hg:(g,l0)∈nodes (fr z k))(pg:p∈l0)(hs:(z.wd q).sort=(z.wd g).sort)(hS:g∈z'.S)(hL:g∈z'.L)(hK:z'.K g=spl p lq l0)(hP:z'.P g=spl p lq l0)(hpar:∀c∈l0,c≠p→(z'.wd c).par=g)(hparq:∀c∈lq,(z'.wd c).par=g):NN z' (BB (n+1)) g (spl p lq l0):=by
 refine q21 (d.facts D) fun px qp xq pq qq ln p0 u_ u_ u_ u_ v0 v1=> ?_
 refine q0 (delSizes D d h2) fun z1 z2=> ?_
 have ng:=D.all _ hg
 have nq:=D.all _ d.qn
 dsimp only at ng nq
 have lnd:=nodes_nd D.nd hg
 dsimp only at lnd
 refine q0 (w.sort g) fun s1 s2=> ?_
 refine q0 (w.kind g) fun k1 k2=> ?_
 have l0n:l0≠[]:=fun e=>by rw[e] at pg;cases pg
 have gq:g≠q:=fun e=>by subst e;rw[D.one hg d.qn] at pg;exact pq pg
 have glq:g∉lq:=fun h=>l0n (D.one hg (d.lv g h))
 have gp:g≠p:=fun e=>by subst e;exact D.self hg pg
 refine q0 (D.box0 hg l0n) fun g2 t2=> ?_
 have lqn:lq≠[]:=fun e=>by
  rcases nq.srt with⟨_,h⟩ |⟨h,_⟩
  ·rw[hs] at h;lia
  ·rw[e] at h;simp at h
 have lq2:2≤lq.length:=(D.box0 d.qn lqn).1
 have len:=len_spl (m:=lq) pg lnd
 have notq:∀c∈l0,c≠q∧c∉lq:=fun c hc=> ⟨fun h=>gp (D.up hg d.pn hc (h▸d.ql)),fun h=>gq (D.up hg d.qn hc h)⟩
 have sz:∀a,∀c∈l0,axSz a (z'.wd c)=axSz a (z.wd c):=fun a c hc=> (w.other (notq c hc).1 (notq c hc).2 a).1
 have sp:=(ng.kid p pg).2
 refine q0 (D.box0 d.pn ln) fun u_ t3=> ?_
 have ea:axOf (z.wd g).sort=1 - axOf (z.wd p).sort:=axOf_other t2 t3 (Ne.symm sp)
 refine⟨hS,hL,hK,hP,by rw[k1,s1];exact ng.kind, .inr ⟨by lia,by rw[s1];exact t2⟩,fun e=> ?_,fun c hc=> ?_,fun u_=> ?_,fun u_ c hc=> ?_,delBnd (l:=l) D w hg gq glq⟩
 ·rw[e,List.length_nil] at len;lia
 ·rcases mem_spl.mp hc with⟨h1,h2⟩ |⟨_,h1⟩
  ·exact⟨hpar c h1 h2,by rw[(w.sort c).1,s1];exact(ng.kid c h1).2⟩
  ·exact⟨hparq c h1,by rw[(w.sort c).1,s1,(D.leaf0 (d.lv c h1)).1];lia⟩
 ·rw[s1,(w.other gq glq _).1,ng.sum l0n,sum_spl pg lnd,List.map_congr_left (g:=fun c=>axSz (axOf (z.wd g).sort) (z.wd c)) (fun c hc=>sz _ c hc),sz _ p pg]
  have e1:(lq.map fun c=>axSz (axOf (z.wd g).sort) (z'.wd c))=lq.map fun c=>axSz (axOf (z.wd g).sort) (z.wd c):=List.map_congr_left fun c hc=>by rw[ea,(w.along (.inr hc)).2]
  have e2:=nq.sum lqn
  rw[hs] at e2
  rw[e1,←e2,ea,z2];lia
 ·rw[s1,(w.other gq glq _).1]
  rcases mem_spl.mp hc with⟨h1,h2⟩ |⟨_,h1⟩
  ·rw[sz _ c h1];exact ng.eq l0n c h1
  ·have e3:=ng.eq l0n p pg
   have ea':1 - axOf (z.wd g).sort=axOf (z.wd p).sort:=by lia
   rw[ea'] at e3⊢
   rw[(w.along (.inr h1)).1,z1];exact e3
theorem delInv{x p q:Int}{l lq:List Int}{k':F}(D:InvP z k star n)(d:Del z k x p q l lq)(w:DelW z z' x p q lq)(nd:(ids (fr z' k')).Nodup)(hall:∀e∈nodes (fr z' k'),NN z' (BB (n+1)) e.1 e.2)(hsub:∀j∈ids (fr z' k'),j∈ids (fr z k))(hsel:(z.sel,[])∈nodes (fr z' k'))(hfs:av (fr z' k')≤av (fr z k))
  (rp:(z'.wd z'.root).par=0) (Sb:∀i∈z'.S,0 < i∧i≤z'.last) (Lb:∀i∈z'.L,i≤z'.last) (PL:∀i∈z'.L,∀j∈z'.P i,j∈z'.L) (sel:z'.sel=z.sel) (gn:z'.gn≤z.gn) (bn:z'.bn≤z.bn+100) (deck:z'.deck.length≤63):InvP z' k' star (n+1):=by
 have lv:∀i,(i,[])∈nodes (fr z' k')→(i,[])∈nodes (fr z k):=fun i hi=>by
  refine q1 (ids_nodes (hsub i (bA hi).1)) fun l1 h1=> ?_
  have s0:(z'.wd i).sort=0:=by
   rcases(hall _ hi).srt with⟨_,h⟩ |⟨h,_⟩
   ·exact h
   ·simp at h
  rw[(w.sort i).1] at s0
  have:l1= []:=by
   rcases(D.all _ h1).srt with⟨h,_⟩ |⟨_,h⟩
   ·exact h
   ·dsimp only at h;lia
  rw[←this];exact h1
 have fs:=D.fs
 have gn0:=D.gn
 have bn0:=D.bn
 refine⟨nd,hall,rp,Sb,Lb,PL,by rw[sel];exact hsel,by rw[sel,(w.kind _).2];exact D.star,fun i j hi hj e=> ?_,fun i hi=> ?_,?_,by lia,by lia,deck⟩
 ·rw[(w.kind i).2,(w.kind j).2] at e
  exact D.nums i j (lv i hi) (lv j hj) e
 ·rw[(w.kind i).2];have:=D.numb i (lv i hi);lia
 ·simp only[av] at hfs;lia
end
theorem spl_spl{p q:Int}{m l:List Int}(hp:p∈l)(hq:q∉l)(nd:l.Nodup):spl q m (spl p [q] l)=spl p m l:=by
 refine q18 (mid_of hp nd) fun a b rf2 h1 h2=> ?_
 subst rf2
 have qa:q∉a:=fun h=>hq (by simp[h])
 have qb:q∉b:=fun h=>hq (by simp[h])
 rw[spl_mid h1 h2,spl_mid h1 h2,spl_append,spl_append,bW qa,bW qb]
 simp[spl]
theorem rep_top{r y:Int}{h:F→F}{k:F}(h':r≠y):rep y h (.node r k .nil)= .node r (rep y h k) .nil:=by rw[rep,if_neg h'];rfl
structure Fra(z z':Z):Prop where
 Sb:∀i∈z'.S,0 < i∧i≤z'.last
 Lb:∀i∈z'.L,i≤z'.last
 L:∀i∈z.L,i∈z'.L
 PL:∀i∈z'.L,∀j∈z'.P i,j∈z'.L
 sel:z'.sel=z.sel
 gn:z'.gn≤z.gn
 bn:z'.bn≤z.bn+100
 deck:z'.deck.length≤63
section
variable{z z':Z}{k:F}{star:Int}{n:Nat}
theorem Del.one_{x p q:Int}{l lq:List Int}(D:InvP z k star n)(d:Del z k x p q l lq){e:Int×List Int}(he:e∈nodes (rep x id (fr z k))):(∃l0,(e.1,l0)∈nodes (fr z k)∧e.1≠x∧e.2=spl x [] l0)∧(e.1≠p→(e.1,e.2)∈nodes (fr z k)):=by
 refine q19 (dis_nodes D.nd d.xn he) fun l0 a b c=> ?_
 refine⟨⟨l0,a,b,c⟩,fun hp=> ?_⟩
 rw[c,bW fun h=>hp (D.up a d.pn h d.xl)];exact a
theorem delK_inv{x p q:Int}{l lq:List Int}(D:InvP z k star n)(d:Del z k x p q l lq)(w:DelW z z' x p q lq)(fa:Fra z z')(h3:3≤l.length)(hr:z'.root=z.root)(hS:∀i∈z.S,i≠x→i∈z'.S)(Kp:z'.K p=spl x [] l)(Ko:∀i,i≠p→z'.K i=z.K i)(Pp:z'.P p=spl x [] l)(Po:∀i,i≠p→z'.P i=z.P i)(hpar:∀c,(z'.wd c).par=(z.wd c).par):InvP z' (rep x id k) star (n+1):=by
 refine q21 (d.facts D) fun px qp xq pq qq ln p0 xr qr u_ u_ v0 v1=> ?_
 have xi:x∈ids (fr z k):=(bA d.xn).1
 have ef:fr z' (rep x id k)=rep x id (fr z k):=by
  unfold fr;rw[rep_top (Ne.symm xr),hr]
 have sel:=dis_nodes' D.nd d.xn D.sel d.sel
 rw[bW (by simp),←ef] at sel
 refine delInv D d w (by rw[ef];exact dis_nd D.nd xi) (fun e he=> ?_) (fun j hj=> ?_) sel (by rw[ef];have:=dis_fsize D.nd xi;lia) (by rw[hr,hpar];exact D.rp) fa.Sb fa.Lb fa.PL fa.sel fa.gn fa.bn fa.deck
 ·rw[ef] at he
  refine q44 (d.one_ D he) fun l0 a b c f=> ?_
  obtain⟨i,l'⟩:=e
  dsimp only at a b c f⊢
  have ni:=D.all _ a
  by_cases e:i=p
  ·replace e:=e.symm;subst e
   have:=D.one a d.pn
   replace this:=this.symm;subst this
   rw[c]
   exact delKeep D d w h3 (hS _ ni.S b) (fa.L _ ni.L) Kp Pp fun c hc=>by rw[hpar];exact(ni.kid c hc).1
  ·have f:=f e
   have ni:=D.all _ f
   exact delSame D d w f e (hS _ ni.S b) (fa.L _ ni.L) (((Ko i e).trans ni.K)) (((Po i e).trans ni.P)) fun c hc=>by rw[hpar];exact(ni.kid c hc).1
 ·rw[ef] at hj
  exact((dis_ids D.nd xi).mp hj).1
theorem Del.two{x p q:Int}{l lq:List Int}(D:InvP z k star n)(d:Del z k x p q l lq)(h2:spl x [] l= [q]):(p,[q])∈nodes (rep x id (fr z k))∧(ids (rep x id (fr z k))).Nodup∧(ids (rep p id (rep x id (fr z k)))).Nodup∧(∀j∈ids (rep p id (rep x id (fr z k))),j∈ids (fr z k)∧j≠x∧j≠p)∧av (rep p id (rep x id (fr z k)))≤av (fr z k)∧(z.sel,[])∈nodes (rep p id (rep x id (fr z k)))∧(q,lq)∈nodes (rep p id (rep x id (fr z k)))∧
  ∀e∈nodes (rep p id (rep x id (fr z k))),∃l0,(e.1,l0)∈nodes (fr z k)∧e.1≠x∧e.1≠p∧e.2=spl p [q] l0:=by
 refine q21 (d.facts D) fun px qp xq pq qq ln p0 xr qr u_ u_ v0 v1=> ?_
 have xi:x∈ids (fr z k):=(bA d.xn).1
 have n1:=dis_nd D.nd xi
 have pn:=dis_nodes' D.nd d.xn d.pn px
 rw[h2] at pn
 have pi:p∈ids (rep x id (fr z k)):=(bA pn).1
 have sel:=dis_nodes' D.nd d.xn D.sel d.sel
 rw[bW (by simp)] at sel
 have selp:z.sel≠p:=fun e=>by
  have:=D.one (e▸D.sel) d.pn
  exact ln this.symm
 have sel2:=dis_nodes' n1 pn sel selp
 rw[bW (by simp)] at sel2
 have qn:=dis_nodes' D.nd d.xn d.qn d.qx
 rw[bW xq] at qn
 have qn2:=dis_nodes' n1 pn qn qp
 rw[bW pq] at qn2
 have fs1:=dis_fsize D.nd xi
 have fs2:=dis_fsize n1 pi
 refine⟨pn,n1,dis_nd n1 pi,fun j hj=> ?_,by lia,sel2,qn2,fun e he=> ?_⟩
 ·refine q0 ((dis_ids n1 pi).mp hj) fun a b=> ?_
  refine q0 ((dis_ids D.nd xi).mp a) fun a c=> ?_
  exact⟨a,c,b⟩
 ·refine q19 (dis_nodes n1 pn he) fun l1 a b c=> ?_
  refine q44 (d.one_ D a) fun l0 a' b' c' f=> ?_
  exact⟨l1,f b,b',b,c⟩
theorem delRU_nn{x p q:Int}{l lq:List Int}(D:InvP z k star n)(d:Del z k x p q l lq)(w:DelW z z' x p q lq)(fa:Fra z z')(h2:spl x [] l= [q])(hS:∀i∈z.S,i≠x→i≠p→i∈z'.S)(hg:∀g l0,(g,l0)∈nodes (fr z k)→p∈l0→z'.K g=spl p [q] l0∧z'.P g=spl p [q] l0∧(z'.wd q).par=g∧(z.wd q).sort≠(z.wd g).sort)(Ko:∀i l0,(i,l0)∈nodes (fr z k)→i≠p→i≠x→p∉l0→z'.K i=z.K i∧z'.P i=z.P i)(hpar:∀c,c≠q→(z'.wd c).par=(z.wd c).par):∀e∈nodes (rep p id (rep x id (fr z k))),NN z' (BB (n+1)) e.1 e.2:=fun e he=>by
 refine q21 (d.facts D) fun px qp xq pq qq ln p0 xr qr u_ u_ v0 v1=> ?_
 refine q23 ((d.two D h2).2.2.2.2.2.2.2 e he) fun l0 a b c e2=> ?_
 obtain⟨i,l'⟩:=e
 dsimp only at a b c e2⊢
 have ni:=D.all _ a
 dsimp only at ni
 by_cases hp:p∈l0
 ·refine q6 (hg i l0 a hp) fun g1 g2 g3 g4=> ?_
  rw[e2]
  exact delUp D d w h2 a hp g4 (hS _ ni.S b c) (fa.L _ ni.L) g1 g2 (fun c' hc hcp=> ((hpar c' fun e=>c (D.up a d.pn hc (e▸d.ql))).trans ((ni.kid c' hc).1))) g3
 ·rw[bW hp] at e2
  subst e2
  refine q0 (Ko i l' a c b hp) fun k1 k2=> ?_
  exact delSame D d w a c (hS _ ni.S b c) (fa.L _ ni.L) (k1.trans ni.K) (k2.trans ni.P) fun c' hc=> ((hpar c' fun e=>c (D.up a d.pn hc (e▸d.ql))).trans ((ni.kid c' hc).1))
theorem delR_inv{x p q:Int}{l lq:List Int}(D:InvP z k star n)(d:Del z k x p q l lq)(w:DelW z z' x p q lq)(fa:Fra z z')(h2:spl x [] l= [q])(hp:p=z.root)(hr:z'.root=q)(hS:∀i∈z.S,i≠x→i≠p→i∈z'.S)(Ko:∀i,i≠p→z'.K i=z.K i∧z'.P i=z.P i)(hpar:∀c,c≠q→(z'.wd c).par=(z.wd c).par)(hparq:(z'.wd q).par=0):∃k',InvP z' k' star (n+1):=by
 refine q38 (d.two D h2) fun t1 t2 t3 t4 t5 t6 t7 t8=> ?_
 refine q21 (d.facts D) fun px qp xq pq qq ln p0 xr qr u_ u_ v0 v1=> ?_
 have e1:rep x id (fr z k)= .node p (rep x id k) .nil:=by unfold fr;rw[rep_top (Ne.symm xr),hp]
 have e2:rep p id (rep x id (fr z k))=rep x id k:=by rw[e1,rep,if_pos rfl,app_nil];rfl
 have e3:tops (rep x id k)= [q]:=by
  have:(p,tops (rep x id k))∈nodes (rep x id (fr z k)):=by rw[e1];exact .head _
  exact nodes_fun t2 this t1
 obtain⟨kq,e4⟩:∃kq,rep x id k= .node q kq .nil:=by
  cases h:rep x id k with
  |nil=>rw[h] at e3;cases e3
  |node i kq r=>
   rw[h] at e3
   simp only[tops,List.cons.injEq] at e3
   have:=tops_nil.mp e3.2
   rw[this]
   exact⟨kq,by rw[e3.1]⟩
 have ef:fr z' kq=rep p id (rep x id (fr z k)):=by rw[e2,e4];unfold fr;rw[hr]
 refine⟨kq,delInv D d w (by rw[ef];exact t3) (fun e he=> ?_) (fun j hj=> (t4 j (by rw[←ef];exact hj)).1) (by rw[ef];exact t6) (by rw[ef];exact t5) (by rw[hr];exact hparq) fa.Sb fa.Lb fa.PL fa.sel fa.gn fa.bn fa.deck⟩
 rw[ef] at he
 exact delRU_nn D d w fa h2 hS (fun g l0 hg hp'=>absurd (hp▸hp') (D.top hg)) (fun i l0 hi hip hix hpl=>Ko i hip) hpar e he
theorem delU_inv{x p q g:Int}{l lq lg:List Int}(D:InvP z k star n)(d:Del z k x p q l lq)(w:DelW z z' x p q lq)(fa:Fra z z')(h2:spl x [] l= [q])(hg:(g,lg)∈nodes (fr z k))(pg:p∈lg)(hs:(z.wd q).sort≠(z.wd g).sort)(hr:z'.root=z.root)(hS:∀i∈z.S,i≠x→i≠p→i∈z'.S)(Kg:z'.K g=spl p [q] lg)(Pg:z'.P g=spl p [q] lg)(Ko:∀i,i≠p→i≠g→z'.K i=z.K i∧z'.P i=z.P i)(hpar:∀c,c≠q→(z'.wd c).par=(z.wd c).par)(hparq:(z'.wd q).par=g):∃k',InvP z' k' star (n+1):=by
 refine q38 (d.two D h2) fun t1 t2 t3 t4 t5 t6 t7 t8=> ?_
 refine q21 (d.facts D) fun px qp xq pq qq ln p0 xr qr u_ u_ v0 v1=> ?_
 have pr:z.root≠p:=fun e=>D.top hg (e▸pg)
 have ef:fr z' (rep p id (rep x id k))=rep p id (rep x id (fr z k)):=by
  unfold fr;rw[rep_top (Ne.symm xr),rep_top pr,hr]
 refine⟨_,delInv D d w (by rw[ef];exact t3) (fun e he=> ?_) (fun j hj=> (t4 j (by rw[←ef];exact hj)).1) (by rw[ef];exact t6) (by rw[ef];exact t5) (by rw[hr,hpar _ (Ne.symm qr)];exact D.rp) fa.Sb fa.Lb fa.PL fa.sel fa.gn fa.bn fa.deck⟩
 rw[ef] at he
 refine delRU_nn D d w fa h2 hS (fun g' l0 hg' hp'=> ?_) (fun i l0 hi hip hix hpl=>Ko i hip fun e=>hpl (by rw[e] at hi;rw[D.one hi hg];exact pg)) hpar e he
 have:=D.up hg' hg hp' pg
 replace this:=this.symm;subst this
 have:=D.one hg' hg
 rw[this]
 exact⟨Kg,Pg,hparq,hs⟩
theorem delM_inv{x p q g:Int}{l lq lg:List Int}(D:InvP z k star n)(d:Del z k x p q l lq)(w:DelW z z' x p q lq)(fa:Fra z z')(h2:spl x [] l= [q])(hg:(g,lg)∈nodes (fr z k))(pg:p∈lg)(hs:(z.wd q).sort=(z.wd g).sort)(hr:z'.root=z.root)(hS:∀i∈z.S,i≠x→i≠p→i≠q→i∈z'.S)(Kg:z'.K g=spl p lq lg)(Pg:z'.P g=spl p lq lg)(Ko:∀i,i≠p→i≠g→z'.K i=z.K i∧z'.P i=z.P i)(hpar:∀c,c∉lq→c≠q→(z'.wd c).par=(z.wd c).par)(hparq:∀c∈lq,(z'.wd c).par=g):∃k',InvP z' k' star (n+1):=by
 refine q38 (d.two D h2) fun t1 t2 t3 t4 t5 t6 t7 t8=> ?_
 refine q21 (d.facts D) fun px qp xq pq qq ln p0 xr qr u_ u_ v0 v1=> ?_
 have pr:z.root≠p:=fun e=>D.top hg (e▸pg)
 have gp:g≠p:=fun e=>by replace e:=e.symm;subst e;exact D.self hg pg
 have gq:g≠q:=fun e=>by replace e:=e.symm;subst e;rw[D.one hg d.qn] at pg;exact pq pg
 have ef:fr z' (rep q id (rep p id (rep x id k)))=rep q id (rep p id (rep x id (fr z k))):=by
  unfold fr;rw[rep_top (Ne.symm xr),rep_top pr,rep_top (Ne.symm qr),hr]
 have qi:q∈ids (rep p id (rep x id (fr z k))):=(bA t7).1
 have lqn:lq≠[]:=fun e=>by
  have h1:=(D.all _ d.qn).srt
  obtain⟨_,h2⟩:=D.box0 hg (fun e=>by rw[e] at pg;cases pg)
  rcases h1 with⟨_,h⟩ |⟨h,_⟩
  ·dsimp only at h;rw[hs] at h;lia
  ·rw[e] at h;simp at h
 have rlq:z.root∉lq:=D.top d.qn
 have selq:z.sel≠q:=fun e=>lqn (D.one (e▸D.sel) d.qn).symm
 have sel:=dis_nodes' t3 t7 t6 selq
 rw[bW (by simp)] at sel
 have fs:=dis_fsize t3 qi
 refine⟨_,delInv D d w (by rw[ef];exact dis_nd t3 qi) (fun e he=> ?_) (fun j hj=> ?_) (by rw[ef];exact sel) (by rw[ef];lia) (by rw[hr,hpar _ rlq (Ne.symm qr)];exact D.rp) fa.Sb fa.Lb fa.PL fa.sel fa.gn fa.bn fa.deck⟩
 ·rw[ef] at he
  refine q19 (dis_nodes t3 t7 he) fun l2 a2 b2 c2=> ?_
  refine q23 (t8 _ a2) fun l0 a b c e2=> ?_
  obtain⟨i,l'⟩:=e
  dsimp only at a b c e2 a2 b2 c2⊢
  have ni:=D.all _ a
  dsimp only at ni
  by_cases hp:p∈l0
  ·have:=D.up a hg hp pg
   replace this:=this.symm;subst this
   have:=D.one a hg
   subst this
   have ql0:q∉l0:=fun h=>gp (D.up a d.pn h d.ql)
   rw[c2,e2,spl_spl hp ql0 (nodes_nd D.nd a)]
   exact delMerge D d w h2 a hp hs (hS _ ni.S b c b2) (fa.L _ ni.L) Kg Pg (fun c' hc hcp=> ((hpar c' (fun h=>gq (D.up a d.qn hc h)) fun e=>c (D.up a d.pn hc (e▸d.ql))).trans ((ni.kid c' hc).1))) hparq
  ·rw[bW hp] at e2
   subst e2
   have ql0:q∉l2:=fun h=>c (D.up a d.pn h d.ql)
   rw[bW ql0] at c2
   rw[c2]
   have ig:i≠g:=fun e=>hp (by rw[e] at a;rw[D.one a hg];exact pg)
   refine q0 (Ko i c ig) fun k1 k2=> ?_
   exact delSame D d w a c (hS _ ni.S b c b2) (fa.L _ ni.L) (k1.trans ni.K) (k2.trans ni.P) fun c' hc=> ((hpar c' (fun h=>b2 (D.up a d.qn hc h)) fun e=>c (D.up a d.pn hc (e▸d.ql))).trans ((ni.kid c' hc).1))
 ·rw[ef] at hj
  exact(t4 j ((dis_ids t3 qi).mp hj).1).1
end
theorem Pth.inv{N:List (Int×List Int)}{rt p x:Int}{w:Way}{n:Nat}(h:Pth N rt (w++ [(p,n)]) x):∃l,Pth N rt w p∧(p,l)∈N∧l[n]? =some x:=by
 generalize hw:w++ [(p,n)]=w2 at h
 cases h with
 |nil=>simp at hw
 |snoc a b c=>
  obtain⟨rfl,e⟩:=List.append_inj' hw rfl
  simp at e
  obtain⟨rfl,rfl⟩:=e
  exact⟨_,a,b,c⟩
theorem Pth.inv0{N:List (Int×List Int)}{rt x:Int}(h:Pth N rt [] x):x=rt:=by
 generalize hw:([]:Way)=w2 at h
 cases h with
 |nil=>rfl
 |snoc a b c=>simp at hw
theorem Pth.mem{N:List (Int×List Int)}{rt x:Int}{w:Way}(h:Pth N rt w x):∀e∈w,∃l,(e.1,l)∈N:=by
 induction h with
 |nil=>intro e he;cases he
 |snoc a b c ih=>
  intro e he
  rcases List.mem_append.mp he with he |he
  ·exact ih e he
  ·simp at he;rw[he];exact⟨_,b⟩
section
variable{μ μ':MH}{z:Z}{i:Int}{Φ:Pst}{Ψ:Exc}{d:Nat}{k:F}{star:Int}{n:Nat}
theorem draw_spec2(h:R μ z){many:Int}(hm:0 < many)(hm':many < 1000000000)(hd:z.deck.length < LIM)(hΦ:∀v m r,0≤v→v < many→r.length≤z.deck.length→R m {z with deck:=r}→(∀x,x≠z.loc (2,0)→m x=μ x)→Φ (.int v) m):az tab (d+1) 334 [.ref (z.loc (2,0)), .int many] μ Φ Ψ:=by
 refine draw_raw h.deck hm hm' hd fun v m r v0 v1 rl e o=>hΦ v m r v0 v1 rl ?_ o
 have e2:m=upd μ (z.loc (2,0)) (some (.list (r.map .int))):=funext fun y=>by
  by_cases q:y=z.loc (2,0)
  ·rw[q,e,aj]
  ·rw[o y q,af _ _ q]
 rw[e2]
 exact h.setD r
noncomputable def besZ(z:Z)(ℓ ℓ2:Slot→Addr)(B:Nat)(x p ax old new num:Int)(nn:Nat)(ah:Bool):Z:=
 insZ (lsA z ℓ B x (z.last+1) ax old new num (upd (upd z.P (z.last+1) []) p ((z.P p).take nn++prL x (z.last+1) ah++(z.P p).drop (nn+1)))) ℓ2 x p (z.last+1) ax old new ah
theorem besideInv(D:InvP z k star n){x p ax old new:Int}{l:List Int}{nn B:Nat}{ah:Bool}{ℓ ℓ2:Slot→Addr}(hx:(x,[])∈nodes (fr z k))(hp:(p,l)∈nodes (fr z k))(hnn:l[nn]? =some x)(hax:ax=0∨ax=1)(hs:(z.wd p).sort=axK ax)(h0:0≤old)(h1:0≤new)(hsum:old+new=axSz ax (z.wd x))(hB:B≤z.bn+20):InvP (besZ z ℓ ℓ2 B x p ax old new (n+1) nn ah) (rep x (besF x (z.last+1) ah) k) star (n+1):=by
 have xl:x∈l:=List.mem_of_getElem? hnn
 have lnd:=nodes_nd D.nd hp
 dsimp only at lnd
 have nx:=D.all _ hx
 have np:=D.all _ hp
 dsimp only at nx np
 have pxne:p≠x:=fun e=>D.self hp (by rw[e];exact xl)
 have hN:z.last+1∉z.S:=fun h=>by have:=(D.Sb _ h).2;lia
 have hNL:z.last+1∉z.L:=fun h=>by have:=D.Lb _ h;lia
 have xN:x≠z.last+1:=ne_mem nx.S hN
 have pN:p≠z.last+1:=ne_mem np.S hN
 have xr:z.root≠x:=fun e=>D.top hp (by rw[e];exact xl)
 have ef:fr (besZ z ℓ ℓ2 B x p ax old new (n+1) nn ah) (rep x (besF x (z.last+1) ah) k)=rep x (besF x (z.last+1) ah) (fr z k):=by
  show F.node z.root _ _=_
  unfold fr;rw[rep_top xr]
 have ids0:∀j,j∉z.S→j∉ids (fr z k):=fun j hj h=>by
  obtain⟨l',hl'⟩:=ids_nodes h
  exact hj (D.all _ hl').S
 have wN:(besZ z ℓ ℓ2 B x p ax old new (n+1) nn ah).wd (z.last+1)=aK ax new ⟨0,p,0,0,(z.wd x).wid,(z.wd x).hei,(z.wd x).buf⟩:=by
  show upd (upd z.wd _ _) x _ _=_
  rw[af _ _ (Ne.symm xN),aj];rfl
 have wx:(besZ z ℓ ℓ2 B x p ax old new (n+1) nn ah).wd x=aK ax old (z.wd x):=aj _ _ _
 have wo:∀j,j≠z.last+1→j≠x→(besZ z ℓ ℓ2 B x p ax old new (n+1) nn ah).wd j=z.wd j:=fun j a b=>by
  show upd (upd z.wd _ _) x _ j=_
  rw[af _ _ b,af _ _ a]
 have bN:(besZ z ℓ ℓ2 B x p ax old new (n+1) nn ah).bd (z.last+1)=newB z x ax new (n+1):=by
  show upd (upd z.bd _ _) x _ _=_
  rw[af _ _ (Ne.symm xN),aj]
 have bx':(besZ z ℓ ℓ2 B x p ax old new (n+1) nn ah).bd x=setBx ax old (z.bd x):=aj _ _ _
 have bo:∀j,j≠z.last+1→j≠x→(besZ z ℓ ℓ2 B x p ax old new (n+1) nn ah).bd j=z.bd j:=fun j a b=>by
  show upd (upd z.bd _ _) x _ j=_
  rw[af _ _ b,af _ _ a]
 have kN:(besZ z ℓ ℓ2 B x p ax old new (n+1) nn ah).K (z.last+1)= []:=by
  show upd (upd z.K _ []) p _ _=_
  rw[af _ _ (Ne.symm pN),aj]
 have kp:(besZ z ℓ ℓ2 B x p ax old new (n+1) nn ah).K p=spl x (prL x (z.last+1) ah) l:=by
  show upd (upd z.K _ []) p _ p=_
  rw[aj,show(lsA z ℓ B x (z.last+1) ax old new (n+1) (upd (upd z.P (z.last+1) []) p ((z.P p).take nn++prL x (z.last+1) ah++(z.P p).drop (nn+1)))).K p=z.K p from rfl,np.K,insL_spl xl lnd]
 have pN':(besZ z ℓ ℓ2 B x p ax old new (n+1) nn ah).P (z.last+1)= []:=by
  show upd (upd z.P _ []) p _ _=_
  rw[af _ _ (Ne.symm pN),aj]
 have pp:(besZ z ℓ ℓ2 B x p ax old new (n+1) nn ah).P p=spl x (prL x (z.last+1) ah) l:=by
  show upd (upd z.P _ []) p _ p=_
  rw[aj,np.P,put_spl hnn lnd]
 have po:∀j,j≠z.last+1→j≠p→(besZ z ℓ ℓ2 B x p ax old new (n+1) nn ah).P j=z.P j:=fun j a b=>by
  show upd (upd z.P _ []) p _ j=_
  rw[af _ _ b,af _ _ a]
 have cl:∀c∈l,c∈z.L:=fun c hc=>by
  obtain⟨l',hl'⟩:=D.child hp hc
  exact(D.all _ hl').L
 refine putInv D (N1:=z.last+1) (new:= [z.last+1]) hx ef (.head _) (fun j hj=> ?_) (by simp) (besF_count x (z.last+1) ah) (fun i hi=> ?_) (besF_x _ _ _) (by unfold besF;split <;> simp[av]) ?_ ?_ (fun i hi=> ?_) (fun i hi=> ?_) (fun i hi j hj=> ?_) rfl ?_ (fun j hj=> ?_) ?_ ?_ D.deck
 ·have:=List.mem_singleton.mp hj
  subst this
  exact⟨hN,ids0 _ hN⟩
 ·rcases besF_nodes hi with e |e
  ·exact .inl (Prod.mk.inj e).1
  ·exact .inr (Prod.mk.inj e).1
 ·rw[ef]
  exact besideNN D hx hp hnn hN hax hs h0 h1 hsum (fun i hi=>by rcases hi with h |h;exact .tail _ h;rw[h];exact .head _) (fun i hi=>by rcases hi with h |h;exact .tail _ h;rw[h];exact .head _) wN wx wo kN kp (fun j a b=>by
   show upd (upd z.K _ []) p _ j=_
   rw[af _ _ b,af _ _ a]) pN' pp po bN bx' bo
 ·show((besZ z ℓ ℓ2 B x p ax old new (n+1) nn ah).wd z.root).par=0
  rw[wo z.root (ne_mem (D.all (z.root,tops k) (.head _)).S hN) xr];exact D.rp
 ·rcases List.mem_cons.mp hi with rfl |h
  ·have:=(D.Sb _ nx.S).1;have:=(D.Sb _ nx.S).2
   refine⟨by lia,Int.le_refl _⟩
  ·have:=D.Sb i h;exact⟨this.1,by show i≤z.last+1;lia⟩
 ·rcases List.mem_cons.mp hi with rfl |h
  ·exact Int.le_refl _
  ·have:=D.Lb i h;show i≤z.last+1;lia
 ·show j∈(z.last+1)::z.L
  rcases List.mem_cons.mp hi with rfl |h
  ·rw[pN'] at hj;cases hj
  ·by_cases e:i=p
   ·replace e:=e.symm;subst e
    rw[pp] at hj
    rcases mem_spl.mp hj with⟨a,_⟩ |⟨_,a⟩
    ·exact .tail _ (cl j a)
    ·rcases mem_prL.mp a with rfl |rfl
     ·exact .tail _ nx.L
     ·exact .head _
   ·rw[po i (ne_mem h hNL) e] at hj
    exact .tail _ (D.PL i h j hj)
 ·rw[bN,newB,(setBx_same _ _ _).2.2]
 ·have jN:=ne_mem hj hN
  by_cases e:j=x
  ·rw[e];rw[bx',(setBx_same _ _ _).2.2]
  ·rw[bo j jN e]
 ·show z.gn+1≤_;lia
 ·exact hB
end
section
variable{μ μ':MH}{z:Z}{i:Int}{Φ:Pst}{Ψ:Exc}{d:Nat}{k:F}{star:Int}{n:Nat}
noncomputable def wraZ(z:Z)(ℓ ℓ2:Slot→Addr)(B:Nat)(x ax old new num:Int)(PP:Int→List Int)(ah:Bool):Z:=
 insZ (wrapZ (lsB z ℓ B x (z.last+2) (z.last+1) ax old new num PP) ℓ x (z.last+1) ax) ℓ2 x (z.last+1) (z.last+2) ax old new ah
theorem wrapInv(D:InvP z k star n){x ax old new:Int}{B:Nat}{ah:Bool}{ℓ ℓ2:Slot→Addr}{PP:Int→List Int}(hx:(x,[])∈nodes (fr z k))(hax:ax=0∨ax=1)(h0:0≤old)(h1:0≤new)(hsum:old+new=axSz ax (z.wd x))(hB:B≤z.bn+20)
  (hc:(x=z.root∧PP=upd (upd z.P (z.last+2) []) (z.last+1) (prL x (z.last+2) ah))∨∃p l nn,(p,l)∈nodes (fr z k)∧l[nn]? =some x∧(z.wd p).sort≠axK ax∧PP=upd (upd (upd z.P (z.last+2) []) (z.last+1) (prL x (z.last+2) ah)) p ((z.P p).take nn++ [z.last+1]++(z.P p).drop (nn+1))):
  ∃k',InvP (wraZ z ℓ ℓ2 B x ax old new (n+1) PP ah) k' star (n+1):=by
 have nx:=D.all _ hx
 dsimp only at nx
 have hN:z.last+2∉z.S:=fun h=>by have:=(D.Sb _ h).2;lia
 have hb:z.last+1∉z.S:=fun h=>by have:=(D.Sb _ h).2;lia
 have hNL:z.last+2∉z.L:=fun h=>by have:=D.Lb _ h;lia
 have hbL:z.last+1∉z.L:=fun h=>by have:=D.Lb _ h;lia
 have bN1:z.last+1≠z.last+2:=by lia
 have xN:x≠z.last+2:=ne_mem nx.S hN
 have xb:x≠z.last+1:=ne_mem nx.S hb
 have rS:=(D.all (z.root,tops k) (.head _)).S
 dsimp only at rS
 have ids0:∀j,j∉z.S→j∉ids (fr z k):=fun j hj h=>by
  obtain⟨l',hl'⟩:=ids_nodes h
  exact hj (D.all _ hl').S
 generalize hzF:wraZ z ℓ ℓ2 B x ax old new (n+1) PP ah=zF
 have wb:zF.wd (z.last+1)=⟨axK ax,(z.wd x).par,(z.wd x).lft,(z.wd x).top,(z.wd x).wid,(z.wd x).hei,0⟩:=by
  rw[←hzF]
  show upd (upd (upd (upd z.wd _ _) x _) _ _) x _ (z.last+1)=_
  rw[af _ _ (Ne.symm xb),af _ _ bN1,af _ _ (Ne.symm xb),aj];rfl
 have wxw:(wrapZ (lsB z ℓ B x (z.last+2) (z.last+1) ax old new (n+1) PP) ℓ x (z.last+1) ax).wd x={z.wd x with par:=z.last+1}:=aj _ _ _
 have wN:zF.wd (z.last+2)=aK ax new ⟨0,z.last+1,0,0,(z.wd x).wid,(z.wd x).hei,(z.wd x).buf⟩:=by
  rw[←hzF]
  show upd (upd _ (z.last+2) _) x _ (z.last+2)=_
  rw[af _ _ (Ne.symm xN),aj,wxw]
 have wx:zF.wd x=aK ax old {z.wd x with par:=z.last+1}:=by
  rw[←hzF]
  show upd (upd _ (z.last+2) _) x _ x=_
  rw[aj,wxw]
 have wo:∀j,j≠z.last+2→j≠x→j≠z.last+1→zF.wd j=z.wd j:=fun j a b c=>by
  rw[←hzF]
  show upd (upd (upd (upd z.wd _ _) x _) _ _) x _ j=_
  rw[af _ _ b,af _ _ a,af _ _ b,af _ _ c]
 have bb:zF.bd (z.last+1)=⟨axK ax,0,0,0,0⟩:=by
  rw[←hzF];exact aj _ _ _
 have bN:zF.bd (z.last+2)=newB z x ax new (n+1):=by
  rw[←hzF]
  show upd (upd (upd z.bd _ _) x _) _ _ _=_
  rw[af _ _ (Ne.symm bN1),af _ _ (Ne.symm xN),aj]
 have bx':zF.bd x=setBx ax old (z.bd x):=by
  rw[←hzF]
  show upd (upd (upd z.bd _ _) x _) _ _ _=_
  rw[af _ _ xb,aj]
 have bo:∀j,j≠z.last+2→j≠x→j≠z.last+1→zF.bd j=z.bd j:=fun j a b c=>by
  rw[←hzF]
  show upd (upd (upd z.bd _ _) x _) _ _ j=_
  rw[af _ _ c,af _ _ b,af _ _ a]
 have KK:zF.K=upd (upd (upd (if(z.wd x).par=0 then z.K else upd z.K (z.wd x).par ((z.K (z.wd x).par).set ((z.K (z.wd x).par).idxOf x) (z.last+1))) (z.last+1) [x]) (z.last+2) []) (z.last+1) (insL [x] x (z.last+2) ah):=by
  rw[←hzF]
  show upd (upd (upd _ _ [x]) _ []) _ (insL (upd _ (z.last+1) [x] (z.last+1)) x (z.last+2) ah)=_
  rw[aj];rfl
 have kb:zF.K (z.last+1)=prL x (z.last+2) ah:=by
  rw[KK,aj,insL_spl (by simp) (by simp)]
  simp[spl]
 have kN:zF.K (z.last+2)= []:=by rw[KK,af _ _ (Ne.symm bN1),aj]
 have ko0:∀j,j≠z.last+1→j≠z.last+2→zF.K j=(if(z.wd x).par=0 then z.K else upd z.K (z.wd x).par ((z.K (z.wd x).par).set ((z.K (z.wd x).par).idxOf x) (z.last+1))) j:=fun j a b=>by
  rw[KK,af _ _ a,af _ _ b,af _ _ a]
 have PPe:zF.P=PP:=by rw[←hzF];rfl
 have root':zF.root=if(z.wd x).par=0 then z.last+1 else z.root:=by rw[←hzF];rfl
 have SS:zF.S=(z.last+2)::(z.last+1)::z.S:=by rw[←hzF];rfl
 have LL:zF.L=(z.last+1)::(z.last+2)::z.L:=by rw[←hzF];rfl
 have lastE:zF.last=z.last+2:=by rw[←hzF];rfl
 have selE:zF.sel=z.sel:=by rw[←hzF];rfl
 have gnE:zF.gn=z.gn+1+1:=by rw[←hzF];rfl
 have bnE:zF.bn=B:=by rw[←hzF];rfl
 have deckE:zF.deck=z.deck:=by rw[←hzF];rfl
 have hS:∀i,i∈z.S∨i=z.last+2∨i=z.last+1→i∈zF.S:=fun i hi=>by rw[SS];rcases hi with h |h |h <;> simp[h]
 have hL:∀i,i∈z.L∨i=z.last+2∨i=z.last+1→i∈zF.L:=fun i hi=>by rw[LL];rcases hi with h |h |h <;> simp[h]
 clear hzF wxw KK
 have nxS:=D.Sb _ nx.S
 have fin:∀k',fr zF k'=rep x (wrapF x (z.last+1) (z.last+2) ah) (fr z k)→(∀p l,(p,l)∈nodes (fr z k)→x∈l→(z.wd p).sort≠axK ax∧zF.K p=spl x [z.last+1] l∧zF.P p=spl x [z.last+1] l)→(∀j l,(j,l)∈nodes (fr z k)→x∉l→zF.K j=z.K j∧zF.P j=z.P j)→zF.P (z.last+1)=prL x (z.last+2) ah→zF.P (z.last+2)= []→(zF.wd zF.root).par=0→(∀i∈z.L,∀j∈zF.P i,j∈zF.L)→∃k',InvP zF k' star (n+1):=fun k' ef hp ko pb pN rp PL=>by
  refine⟨k',putInv D (N1:=z.last+2) (new:= [z.last+1,z.last+2]) hx ef (by simp) (fun j hj=> ?_) (by simp) (wrapF_count x (z.last+1) (z.last+2) ah) (fun i hi=> ?_) ?_ (by unfold wrapF besF;split <;> simp[av]) ?_ rp (fun i hi=> ?_) (fun i hi=> ?_) (fun i hi j hj=> ?_) selE ?_ (fun j hj=> ?_) ?_ ?_ (by rw[deckE];exact D.deck)⟩
  ·simp at hj
   rcases hj with rfl |rfl
   ·exact⟨hb,ids0 _ hb⟩
   ·exact⟨hN,ids0 _ hN⟩
  ·rcases wrapF_nodes hi with e |e |e
   ·have:=(Prod.mk.inj e).2
    have l2:=prL_len x (z.last+2) ah
    rw[←this] at l2;simp at l2
   ·exact .inl (Prod.mk.inj e).1
   ·exact .inr (Prod.mk.inj e).1
  ·unfold wrapF
   simp only[nodes,List.mem_cons,List.mem_append]
   exact .inr (.inl (besF_x _ _ _))
  ·rw[ef]
   exact wrapNN D hx hN hb bN1 hax h0 h1 hsum hp ko hS hL wb wN wx wo kb kN pb pN bb bN bx' bo
  ·rw[lastE]
   rw[SS] at hi
   simp at hi
   rcases hi with rfl |rfl |h
   ·lia
   ·lia
   ·have:=D.Sb i h;lia
  ·rw[lastE]
   rw[LL] at hi
   simp at hi
   rcases hi with rfl |rfl |h
   ·lia
   ·lia
   ·have:=D.Lb i h;lia
  ·rw[LL] at hi
   simp at hi
   rcases hi with rfl |rfl |h
   ·rw[pb] at hj
    rcases mem_prL.mp hj with rfl |rfl
    ·exact hL _ (.inl nx.L)
    ·exact hL _ (.inr (.inl rfl))
   ·rw[pN] at hj;cases hj
   ·exact PL i h j hj
  ·rw[bN,newB,(setBx_same _ _ _).2.2]
  ·have jN:=ne_mem hj hN
   have jb:=ne_mem hj hb
   by_cases e:j=x
   ·rw[e];rw[bx',(setBx_same _ _ _).2.2]
   ·rw[bo j jN e jb]
  ·lia
  ·rw[bnE];exact hB
 rcases hc with⟨xr,ep⟩ |⟨p,l,nn,hp,hnn,hs,ep⟩
 ·have par0:(z.wd x).par=0:=by rw[xr];exact D.rp
  have k0:k= .nil:=by
   have:(x,tops k)∈nodes (fr z k):=by rw[xr];exact .head _
   exact tops_nil.mp (D.one this hx)
  rw[if_pos par0] at root' ko0
  have none_:∀p l,(p,l)∈nodes (fr z k)→x∉l:=fun p l hp h=>D.top hp (by rw[←xr];exact h)
  refine fin (besF x (z.last+2) ah .nil) ?_ (fun p l hp h=>absurd h (none_ p l hp)) (fun j l hj hl=> ?_) ?_ ?_ ?_ (fun i hi j hj=> ?_)
  ·unfold fr
   rw[k0,←xr,rep,if_pos rfl,root'];rfl
  ·have jS:=(D.all _ hj).S
   dsimp only at jS
   refine⟨ko0 j (ne_mem jS hb) (ne_mem jS hN),?_⟩
   rw[PPe,ep,af _ _ (ne_mem jS hb),af _ _ (ne_mem jS hN)]
  ·rw[PPe,ep,aj]
  ·rw[PPe,ep,af _ _ (Ne.symm bN1),aj]
  ·rw[root',wb];exact par0
  ·rw[PPe,ep,af _ _ (ne_mem hi hbL),af _ _ (ne_mem hi hNL)] at hj
   exact hL _ (.inl (D.PL i hi j hj))
 ·have xl:x∈l:=List.mem_of_getElem? hnn
  have lnd:=nodes_nd D.nd hp
  dsimp only at lnd
  have np:=D.all _ hp
  dsimp only at np
  have parp:(z.wd x).par=p:=(np.kid x xl).1
  have pS:=D.Sb p np.S
  have p0:(z.wd x).par≠0:=by rw[parp];lia
  have xr:z.root≠x:=fun e=>D.top hp (by rw[e];exact xl)
  have pN:p≠z.last+2:=ne_mem np.S hN
  have pb:p≠z.last+1:=ne_mem np.S hb
  rw[if_neg p0] at root' ko0
  rw[parp] at ko0
  refine fin (rep x (wrapF x (z.last+1) (z.last+2) ah) k) ?_ (fun p' l' hp' h=> ?_) (fun j l' hj hl=> ?_) ?_ ?_ ?_ (fun i hi j hj=> ?_)
  ·unfold fr
   rw[rep_top xr,root']
  ·have:=D.up hp' hp h xl
   subst this
   have:=D.one hp' hp
   rw[this]
   refine⟨hs,?_,?_⟩
   ·rw[ko0 _ pb pN,aj,np.K,set_spl xl lnd]
   ·rw[PPe,ep,aj,np.P,put_spl hnn lnd]
  ·have jS:=(D.all _ hj).S
   dsimp only at jS
   have jp:j≠p:=fun e=>hl (by rw[e] at hj;rw[D.one hj hp];exact xl)
   refine⟨((ko0 j (ne_mem jS hb) (ne_mem jS hN)).trans ((af _ _ jp))),?_⟩
   rw[PPe,ep,af _ _ jp,af _ _ (ne_mem jS hb),af _ _ (ne_mem jS hN)]
  ·rw[PPe,ep,af _ _ (Ne.symm pb),aj]
  ·rw[PPe,ep,af _ _ (Ne.symm pN),af _ _ (Ne.symm bN1),aj]
  ·rw[root',wo _ (ne_mem rS hN) xr (ne_mem rS hb)];exact D.rp
  ·by_cases e:i=p
   ·replace e:=e.symm;subst e
    rw[PPe,ep,aj,np.P,put_spl hnn lnd] at hj
    rcases mem_spl.mp hj with⟨a,_⟩ |⟨_,a⟩
    ·obtain⟨l',hl'⟩:=D.child hp a
     exact hL _ (.inl (D.all _ hl').L)
    ·have:=List.mem_singleton.mp a
     exact hL _ (.inr (.inr this))
   ·rw[PPe,ep,af _ _ e,af _ _ (ne_mem hi hbL),af _ _ (ne_mem hi hNL)] at hj
    exact hL _ (.inl (D.PL i hi j hj))
end
structure Inv(z:Z)(k:F)(star:Int)(n:Nat):Prop where
 p:InvP z k star n
 lft:(z.wd z.root).lft=0
 top:(z.wd z.root).top=0
 pl:Pl z.wd (z.wd z.root).sort 0 0 k
noncomputable def MovX(ℓ ℓ':Slot→Addr):Prop:=∀s:Slot,s.1 < 3∨5 < s.1→ℓ' s=ℓ s
section
variable{μ μ':MH}{z:Z}{i:Int}{Φ:Pst}{Ψ:Exc}{d:Nat}{k:F}{star:Int}{n:Nat}
theorem InvP.nd'(D:InvP z k star n):(z.root::ids k).Nodup:=by
 have nd:=D.nd
 unfold fr at nd
 simp only[ids,List.append_nil] at nd
 exact nd
theorem big_old{ax whole:Int}{sz:Option Int}(h:¬tooSmall ax whole sz):0≤whole - newSz whole sz∧0≤newSz whole sz:=by
 unfold tooSmall at h
 have:0≤least ax:=by unfold least;split <;> lia
 constructor
 ·apply Classical.byContradiction;intro q;exact h (.inl (by lia))
 ·apply Classical.byContradiction;intro q;exact h (.inr (by lia))
theorem winA(D:InvP z k star n)(n8:n≤8){x p ax:Int}{l:List Int}{nn B:Nat}{ah:Bool}{sz:Option Int}{ℓ:Slot→Addr}(hx:(x,[])∈nodes (fr z k))(hp:(p,l)∈nodes (fr z k))(hnn:l[nn]? =some x)(hax:ax=0∨ax=1)(hs:(z.wd p).sort=axK ax)(hB:B≤z.bn+20)(ts:¬tooSmall ax (axSz ax (z.wd x)) sz)
  (h:R μ (lsA z ℓ B x (z.last+1) ax (oldOf z x ax sz) (newOf z x ax sz) (n+1) (upd (upd z.P (z.last+1) []) p ((z.P p).take nn++prL x (z.last+1) ah++(z.P p).drop (nn+1)))))
  (hΦ:∀v m z' k',R m z'→Inv z' k' star (n+1)→MovX ℓ z'.loc→z'.root=z.root→Φ v m):az tab (d+4) 267 [.ref (ℓ (0,0)), .int x,optV sz, .int ax, .bool ah] μ Φ Ψ:=by
 have xl:x∈l:=List.mem_of_getElem? hnn
 have nx:=D.all _ hx
 have np:=D.all _ hp
 dsimp only at nx np
 have lnd:=nodes_nd D.nd hp
 dsimp only at lnd
 refine q0 (D.leaf0 hx) fun x0 xk=> ?_
 have hN:z.last+1∉z.S:=fun h=>by have:=(D.Sb _ h).2;lia
 have pxne:p≠x:=fun e=>D.self hp (by rw[e];exact xl)
 have pb:=D.Sb p np.S
 refine q0 (big_old ts) fun o0 o1=> ?_
 have hsum:oldOf z x ax sz+newOf z x ax sz=axSz ax (z.wd x):=by unfold oldOf newOf;lia
 have DD:=fun ℓ2=>besideInv (ℓ:=ℓ) (ℓ2:=ℓ2) (B:=B) (ah:=ah) D hx hp hnn hax hs o0 o1 hsum hB
 have xi:x∈ids (fr z k):=(bA hx).1
 have xr:z.root≠x:=fun e=>D.top hp (by rw[e];exact xl)
 have ef:∀ℓ2,fr (besZ z ℓ ℓ2 B x p ax (oldOf z x ax sz) (newOf z x ax sz) (n+1) nn ah) (rep x (besF x (z.last+1) ah) k)=rep x (besF x (z.last+1) ah) (fr z k):=fun ℓ2=>by
  show F.node z.root _ _=_
  unfold fr;rw[rep_top xr]
 have kx:=D.kofl hx
 have pn:(p,spl x (prL x (z.last+1) ah) l)∈nodes (fr (besZ z ℓ ℓ B x p ax (oldOf z x ax sz) (newOf z x ax sz) (n+1) nn ah) (rep x (besF x (z.last+1) ah) k)):=by
  rw[ef]
  rcases rep_nodes (h:=besF x (z.last+1) ah) D.nd xi hp pxne with a |a
  ·rw[kx] at a;cases a
  ·rw[kx,besF_tops] at a;exact a
 have ins:insL (z.K p) x (z.last+1) ah=spl x (prL x (z.last+1) ah) l:=by rw[np.K,insL_spl xl lnd]
 have nnp:=(DD ℓ).all _ pn
 dsimp only at nnp
 have hl:=D.len (by lia) hp
 dsimp only at hl
 have fs:=(DD ℓ).fs
 have psame:((besZ z ℓ ℓ B x p ax (oldOf z x ax sz) (newOf z x ax sz) (n+1) nn ah).wd p).sort=(z.wd p).sort:=by
  show(upd (upd z.wd _ _) x _ p).sort=_
  rw[af _ _ pxne,af _ _ (ne_mem np.S hN)]
 refine splitA (d:=d) (p:=p) (kk:=rep x (besF x (z.last+1) ah) k) h nx.S nx.K x0 hax np.S (np.kid x xl).1 (by lia) (by show axOf (z.wd p).sort=ax;rw[hs,axOf_axK hax]) pxne (by show x∈z.K p;rw[np.K];exact xl) (by show(z.K p).length < _;rw[np.K];lia) hN (by show z.gn < _;have:=D.gn;lia) (fun c hc=> ?_) ?_ ?_ ?_ (by unfold LIM;lia) (fun m u_ q=>absurd q ts) (fun m ℓ2 wd' u_ mw hR on c1 c2 c3=> ?_)
 ·have hc':c∈spl x (prL x (z.last+1) ah) l:=by rw[←ins];exact hc
  refine q1 ((DD ℓ).child pn hc') fun l' hl'=> ?_
  have kid:=nnp.kid c hc'
  exact⟨((DD ℓ).all _ hl').S,fun e=> (DD ℓ).self pn (e▸hc'),fun q=>kid.2 (q.trans psame.symm),kid.1⟩
 ·have:(spl x (prL x (z.last+1) ah) l).Nodup:=nodes_nd (DD ℓ).nd pn
  rw[←ins] at this;exact this
 ·exact(DD ℓ).wk
 ·exact(DD ℓ).nd'
 ·exact hΦ _ m _ _ hR ⟨(DD ℓ2).only on,c1,c2,c3⟩ mw rfl
theorem winB(D:InvP z k star n)(n8:n≤8){x ax:Int}{B:Nat}{ah:Bool}{sz:Option Int}{ℓ:Slot→Addr}{PP:Int→List Int}(hx:(x,[])∈nodes (fr z k))(hax:ax=0∨ax=1)(hB:B≤z.bn+20)(ts:¬tooSmall ax (axSz ax (z.wd x)) sz)
  (hc:(x=z.root∧PP=upd (upd z.P (z.last+2) []) (z.last+1) (prL x (z.last+2) ah))∨∃p l nn,(p,l)∈nodes (fr z k)∧l[nn]? =some x∧(z.wd p).sort≠axK ax∧PP=upd (upd (upd z.P (z.last+2) []) (z.last+1) (prL x (z.last+2) ah)) p ((z.P p).take nn++ [z.last+1]++(z.P p).drop (nn+1)))
  (h:R μ (lsB z ℓ B x (z.last+2) (z.last+1) ax (oldOf z x ax sz) (newOf z x ax sz) (n+1) PP))
  (hΦ:∀v m z' k',R m z'→Inv z' k' star (n+1)→MovX ℓ z'.loc→z'.root=(if x=z.root then z.last+1 else z.root)→Φ v m):az tab (d+4) 267 [.ref (ℓ (0,0)), .int x,optV sz, .int ax, .bool ah] μ Φ Ψ:=by
 have nx:=D.all _ hx
 dsimp only at nx
 refine q0 (D.leaf0 hx) fun x0 xk=> ?_
 have hN:z.last+2∉z.S:=fun h=>by have:=(D.Sb _ h).2;lia
 have hb:z.last+1∉z.S:=fun h=>by have:=(D.Sb _ h).2;lia
 refine q0 (big_old ts) fun o0 o1=> ?_
 have hsum:oldOf z x ax sz+newOf z x ax sz=axSz ax (z.wd x):=by unfold oldOf newOf;lia
 refine q1 (wrapInv (ℓ:=ℓ) (ℓ2:=ℓ) (B:=B) (ah:=ah) (PP:=PP) D hx hax o0 o1 hsum hB hc) fun k' DD=> ?_
 have rt:(wraZ z ℓ ℓ B x ax (oldOf z x ax sz) (newOf z x ax sz) (n+1) PP ah).root=if(z.wd x).par=0 then z.last+1 else z.root:=rfl
 have par0:(z.wd x).par=0↔x=z.root:=by
  rcases hc with⟨e,_⟩ |⟨p,l,nn,hp,hnn,_,_⟩
  ·rw[e];exact⟨fun u_=>rfl,fun u_=>D.rp⟩
  ·have xl:x∈l:=List.mem_of_getElem? hnn
   have:=D.Sb p (D.all _ hp).S
   have e2:=((D.all _ hp).kid x xl).1
   dsimp only at e2
   constructor
   ·intro e;lia
   ·intro e;exact absurd (e▸xl) (D.top hp)
 have hpp:(z.wd x).par=0∨((z.wd x).par∈z.S∧(if(z.wd (z.wd x).par).sort=2 then(0:Int) else 1)≠ax∧x∈z.K (z.wd x).par∧(z.K (z.wd x).par).length < LIM∧(z.wd x).par≠x):=by
  rcases hc with⟨e,_⟩ |⟨p,l,nn,hp,hnn,hs,_⟩
  ·exact .inl (par0.mpr e)
  ·have xl:x∈l:=List.mem_of_getElem? hnn
   have np:=D.all _ hp
   dsimp only at np
   have e2:=(np.kid x xl).1
   have hl:=D.len (by lia) hp
   dsimp only at hl
   have l0:l≠[]:=fun e=>by rw[e] at xl;cases xl
   have s12:=(D.box0 hp l0).2
   refine .inr ?_
   rw[e2]
   refine⟨np.S,?_,by rw[np.K];exact xl,by rw[np.K];unfold LIM;lia,fun e=>D.self hp (by rw[e];exact xl)⟩
   rcases hax with rfl |rfl
   ·unfold axK at hs;simp at hs;simp[hs]
   ·unfold axK at hs;simp at hs
    have:(z.wd p).sort=2:=by lia
    simp[this]
 have fs:=DD.fs
 refine splitB (d:=d) (kk:=k') h nx.S nx.K x0 hax hb hN (by show z.gn < _;have:=D.gn;lia) (fun h=>by have:=(D.Sb _ h).1;lia) hpp DD.wk DD.nd' (by unfold LIM;lia) (fun m u_ q=>absurd q ts) (fun m ℓ2 wd' u_ mw hR on c1 c2 c3=> ?_)
 refine hΦ _ m _ k' hR ⟨(DD.loc ℓ2).only on,c1,c2,c3⟩ mw ?_
 show(if(z.wd x).par=0 then z.last+1 else z.root)=_
 by_cases e:x=z.root
 ·rw[if_pos (par0.mpr e),if_pos e]
 ·rw[if_neg fun q=>e (par0.mp q),if_neg e]
end
section
variable{μ μ':MH}{z:Z}{i:Int}{Φ:Pst}{Ψ:Exc}{d:Nat}{k:F}{star:Int}{n:Nat}
theorem Wk_same{z z':Z}(hS:z'.S=z.S)(hK:z'.K=z.K)(hw:z'.wd=z.wd){f:F}(h:Wk z f):Wk z' f:=by
 induction f with
 |nil=>trivial
 |node i k r h1 h2=>
  refine q3 h fun a b c e g=> ?_
  exact⟨by rw[hS];exact a,by rw[hK];exact b,by rw[hw];exact c,h1 e,h2 g⟩
theorem way_item{μ:MH}{a:Addr}(h:μ a=some (.list [.ref 282, .ref 290, .ref 298, .ref 306])){w:Int}(hw:w=0∨w=1∨w=2∨w=3):itemOf μ (.ref a) (.int w)=some (.ref (wayAddr w)):=by
 rcases hw with rfl |rfl |rfl |rfl
 ·exact item_list (n:=0) h rfl (by decide)
 ·exact item_list (n:=1) h rfl (by decide)
 ·exact item_list (n:=2) h rfl (by decide)
 ·exact item_list (n:=3) h rfl (by decide)
theorem way_axis{μ:MH}{a:Addr}(h:μ a=some (.list [.str (Str.ofString "column"), .str (Str.ofString "row")])){w:Int}(hw:w=0∨w=1∨w=2∨w=3):itemOf μ (.ref a) (.int (Int.fdiv w 2))=some (.str (axN (wayAx w))):=by
 rcases hw with rfl |rfl |rfl |rfl
 ·exact item_list (n:=0) h rfl (by decide)
 ·exact item_list (n:=0) h rfl (by decide)
 ·exact item_list (n:=1) h rfl (by decide)
 ·exact item_list (n:=1) h rfl (by decide)
theorem way_ahead{w:Int}(hw:w=0∨w=1∨w=2∨w=3):decide (Int.fmod w 2=1)=wayAh w:=by
 rcases hw with rfl |rfl |rfl |rfl <;> rfl
theorem wayAx01(w:Int):wayAx w=0∨wayAx w=1:=by unfold wayAx;split <;> simp
theorem isp_try{zz:Z}{kk:F}{ρ:ao}{x w:Int}{nth:Nat}{sz:Option Int}{due rv:MV}(h:R μ zz)(hk:Wk zz (.node zz.root kk .nil))(hf:av kk < 100)(hx:(lvs (.node zz.root kk .nil))[nth]? =some x)(hw:w=0∨w=1∨w=2∨w=3)
  (r1:ρ "tree"=some (.ref (zz.loc (0,0)))) (r2:ρ "nth"=some (.int nth)) (r3:ρ "size"=some (optV sz)) (r4:ρ "way"=some (.int w)) (r5:ρ "due"=some due) (r6:ρ "root"=some rv)
  (hwin:∀m,Ext μ m→az tab (d+4) 267 [.ref (zz.loc (0,0)), .int x,optV sz, .int (wayAx w), .bool (wayAh w)] m (fun u_ m=>Φ due m) (fun m=>Φ (if isNoneV due then rv else .none) m)):
  aA (az tab (d+5)) (aJ 3 dm.body) ρ μ (bf Φ) Ψ:=by
 show aA _ (.cons (.tryS (.call (.item (.list (.cons (.glob "split_below" (.ref 282)) (.cons (.glob "split_above" (.ref 290)) (.cons (.glob "split_right" (.ref 298)) (.cons (.glob "split_left" (.ref 306)) .nil))))) (.var "way")) (.cons (.var "tree") (.cons (.item (.call (.glob "leaves" (.ref 196)) (.cons (.var "tree") .nil)) (.var "nth")) (.cons (.var "size") .nil)))) "root" "due") (.cons (.ret (.var "due")) .nil)) _ _ _ _
 simp[↓ev_tryS,↓exe r4,↓exe r5,↓exe r6]
 refine⟨by decide,fun la hla=> ?_⟩
 have e1:=(Ext.refl μ).new hla (some (.list [.ref 282, .ref 290, .ref 298, .ref 306]))
 have l1:upd μ la (some (.list [.ref 282, .ref 290, .ref 298, .ref 306])) la=some (.list [.ref 282, .ref 290, .ref 298, .ref 306]):=aj _ _ _
 generalize upd μ la (some (.list [.ref 282, .ref 290, .ref 298, .ref 306]))=m1 at *
 simp[↓exe r1,↓exe (way_item l1 hw)]
 refine leaves_spec (d:=d+3) (h.ext e1) hk (by simp[av,LIM];lia) fun m2 a e2 u_ hl=> ?_
 have ll:=lvs_le (.node zz.root kk .nil)
 simp only[av] at ll
 have it:itemOf m2 (.ref a) (.int nth)=some (.int x):=item_list hl (by rw[List.getElem?_map,hx];rfl) (by rw[List.length_map];unfold LIM;lia)
 simp[↓exe r2,↓exe r3,↓exe it]
 refine split_way (d:=d) hw ?_
 exact hwin m2 (e1.trans e2)
theorem isp_tail{ρ:ao}{w:Int}{nth:Nat}{sz:Option Int}(I:Inv z k star n)(n7:n≤7)(h:R μ z)(hnth:nth < (lvs (fr z k)).length)(hw:w=0∨w=1∨w=2∨w=3)
  (r1:ρ "tree"=some (.ref (z.loc (0,0)))) (r2:ρ "nth"=some (.int nth)) (r3:ρ "size"=some (optV sz)) (r4:ρ "way"=some (.int w)) (r6:ρ "root"=some (.ref (z.loc (6,z.root)))) (r7:ρ "number"=some (.int (n+1)))
  (hΦ:∀m z' k',R m z'→Inv z' k' star (n+1)→z'.loc (0,0)=z.loc (0,0)→z'.loc (2,0)=z.loc (2,0)→Φ (.ref (z'.loc (6,z'.root))) m):
  aA (az tab (d+5)) (aJ 2 dm.body) ρ μ (bf Φ) Ψ:=by
 have D:=I.p
 have fs:=D.fs
 have hlen:(lw [] z.root k).length=(lvs (fr z k)).length:=by rw[←lw_fst];simp
 obtain⟨⟨x,way⟩,hlw⟩:∃e,(lw [] z.root k)[nth]? =some e:=⟨_,List.getElem?_eq_getElem (by rw[hlen];exact hnth)⟩
 have hxl:(lvs (fr z k))[nth]? =some x:=by rw[←lw_fst,List.getElem?_map,hlw];rfl
 refine q2 (lw_path (List.mem_of_getElem? hlw)) fun pth hx wl=> ?_
 dsimp only at pth hx wl
 have nx:=D.all _ hx
 dsimp only at nx
 refine q0 (D.leaf0 hx) fun x0 xk=> ?_
 refine q2 (nx.leaf rfl) fun lr lc u_=> ?_
 have whole:axB (wayAx w) (z.bd x)=axSz (wayAx w) (z.wd x):=by unfold axB axSz;split <;> assumption
 have ll:=lvs_le (fr z k)
 simp only[av] at ll
 have rL:=(D.all (z.root,tops k) (.head _)).L
 dsimp only at rL
 have nodeL:∀{i l},(i,l)∈nodes (fr z k)→i∈z.L:=fun h=> (D.all _ h).L
 have big:∀{j},j∈z.L→j≤z.last:=fun h=>D.Lb _ h
 have n1L:z.last+1∉z.L:=fun h=>by have:=big h;lia
 have n2L:z.last+2∉z.L:=fun h=>by have:=big h;lia
 show aA _ (.cons (.assign (.name "due") (.call (.glob "_law_split" (.ref 381)) (.cons (.var "root") (.cons (.var "nth") (.cons (.var "size") (.cons (.item (.list (.cons (.cst (.str (Str.ofString "column"))) (.cons (.cst (.str (Str.ofString "row"))) .nil))) (.bin .fdiv (.var "way") (.cst (.int 2)))) (.cons (.cmp .eq (.bin .mod (.var "way") (.cst (.int 2))) (.cst (.int 1))) (.cons (.var "number") .nil)))))))) (aJ 3 dm.body)) _ _ _ _
 simp[↓exe r2,↓exe r3,↓exe r4,↓exe r6]
 refine⟨by decide,fun la hla=> ?_⟩
 have e1:=(Ext.refl μ).new hla (some (.list [.str (Str.ofString "column"), .str (Str.ofString "row")]))
 have l1:upd μ la (some (.list [.str (Str.ofString "column"), .str (Str.ofString "row")])) la=some (.list [.str (Str.ofString "column"), .str (Str.ofString "row")]):=aj _ _ _
 generalize upd μ la (some (.list [.str (Str.ofString "column"), .str (Str.ofString "row")]))=m1 at *
 have h1:=h.ext e1
 simp[↓exe r4,↓exe r7,↓exe (way_axis l1 hw),k_of (show binOf .fdiv (.int w) (.int 2)=some (.int (Int.fdiv w 2)) from rfl),k_of (show binOf .mod (.int w) (.int 2)=some (.int (Int.fmod w 2)) from rfl),way_ahead hw]
 have wkz:=D.wk
 by_cases hcase:∃w' p nn,way=w'++ [(p,nn)]∧(z.bd p).kind=axK (wayAx w)
 ·refine law_split_spec (d:=d+3) (n1:=z.last+1) (b:=z.last+2) h1 (D.lk (by lia)) (by lia) hlw (by rw[hlen];lia) nx.L xk (by lia) (fun e he=>by obtain⟨l,hl⟩:=pth.mem e he;exact nodeL hl) (fun w' p nn e=> ?_) n1L n2L (by lia) (fun i hi=> ⟨fun q=>n1L (D.PL i hi _ q),fun q=>n2L (D.PL i hi _ q)⟩) (by have:=D.bn;lia) (fun m2 e2 ts=> ?_) (fun m2 ℓ B w' p nn ts e hkp mv hB h2=> ?_) (fun m2 ℓ B ts hne mv hB PP p1 p2 h2=> ?_)
  ·rw[e] at pth
   refine q19 pth.inv fun l u_ hp hnn=> ?_
   have np:=D.all _ hp
   have l0:l≠[]:=fun e=>by rw[e] at hnn;simp at hnn
   have hl:=D.len (by lia) hp
   dsimp only at np hl
   have:=(List.getElem?_eq_some_iff.mp hnn).1
   rw[np.kind,np.P]
   exact⟨(D.box0 hp l0).2,this,by lia⟩
  ·rw[whole] at ts
   have h2:=h1.ext e2
   refine isp_try (d:=d) (zz:=z) (kk:=k) h2 wkz (by lia) hxl hw r1 r2 r3 r4 (due:= .none) rfl (rv:= .ref (z.loc (6,z.root))) r6 fun m3 e3=> ?_
   refine split_head (d:=d) (h2.ext e3) nx.S nx.K x0 (fun m4 e4 u_=> ?_) (fun m4 ρ4 u_ nts=>absurd ts nts)
   exact hΦ m4 z k ((h2.ext e3).ext e4) ⟨D.mono (by lia),I.lft,I.top,I.pl⟩ rfl rfl
  ·rw[whole] at ts h2
   rw[e] at pth
   refine q19 pth.inv fun l u_ hp hnn=> ?_
   have np:=D.all _ hp
   dsimp only at np
   refine isp_try (d:=d) (kk:=k) h2 (by refine Wk_same (z:=z) ?_ ?_ ?_ wkz <;> rfl) (by lia) hxl hw (by rw[show(lsA z ℓ B x (z.last+1) (wayAx w) (axSz (wayAx w) (z.wd x) - newSz (axSz (wayAx w) (z.wd x)) sz) (newSz (axSz (wayAx w) (z.wd x)) sz) (n+1) (upd (upd z.P (z.last+1) []) p ((z.P p).take nn++prL x (z.last+1) (wayAh w)++(z.P p).drop (nn+1)))).loc (0,0)=ℓ (0,0) from rfl,mv.1 (0,0) (by decide)];simpa using r1) r2 r3 r4 (due:= .ref (ℓ (6,z.root))) rfl (rv:= .ref (z.loc (6,z.root))) r6 fun m3 e3=> ?_
   refine winA (d:=d) D (by lia) hx hp hnn (wayAx01 w) (np.kind.symm.trans hkp) hB ts (h2.ext e3) fun v m4 z' k' hR hI hm hr=> ?_
   have:=hΦ m4 z' k' hR hI ((hm _ (by simp)).trans (mv.1 _ (by simp))) ((hm _ (by simp)).trans (mv.1 _ (by simp)))
   rw[hr,hm _ (by simp)] at this
   exact this
  ·refine q25 hcase fun w' p nn e hkp=> ?_
   exact absurd hkp (hne w' p nn e)
 ·refine law_split_spec (d:=d+3) (n1:=z.last+2) (b:=z.last+1) h1 (D.lk (by lia)) (by lia) hlw (by rw[hlen];lia) nx.L xk (by lia) (fun e he=>by obtain⟨l,hl⟩:=pth.mem e he;exact nodeL hl) (fun w' p nn e=> ?_) n2L n1L (by lia) (fun i hi=> ⟨fun q=>n2L (D.PL i hi _ q),fun q=>n1L (D.PL i hi _ q)⟩) (by have:=D.bn;lia) (fun m2 e2 ts=> ?_) (fun m2 ℓ B w' p nn ts e hkp mv hB h2=> ?_) (fun m2 ℓ B ts hne mv hB PP p1 p2 h2=> ?_)
  ·rw[e] at pth
   refine q19 pth.inv fun l u_ hp hnn=> ?_
   have np:=D.all _ hp
   have l0:l≠[]:=fun e=>by rw[e] at hnn;simp at hnn
   have hl:=D.len (by lia) hp
   dsimp only at np hl
   have:=(List.getElem?_eq_some_iff.mp hnn).1
   rw[np.kind,np.P]
   exact⟨(D.box0 hp l0).2,this,by lia⟩
  ·rw[whole] at ts
   have h2:=h1.ext e2
   refine isp_try (d:=d) (zz:=z) (kk:=k) h2 wkz (by lia) hxl hw r1 r2 r3 r4 (due:= .none) rfl (rv:= .ref (z.loc (6,z.root))) r6 fun m3 e3=> ?_
   refine split_head (d:=d) (h2.ext e3) nx.S nx.K x0 (fun m4 e4 u_=> ?_) (fun m4 ρ4 u_ nts=>absurd ts nts)
   exact hΦ m4 z k ((h2.ext e3).ext e4) ⟨D.mono (by lia),I.lft,I.top,I.pl⟩ rfl rfl
  ·exact absurd ⟨w',p,nn,e,hkp⟩ hcase
  ·rw[whole] at ts h2
   have hc:(x=z.root∧PP=upd (upd z.P (z.last+2) []) (z.last+1) (prL x (z.last+2) (wayAh w)))∨∃p l nn,(p,l)∈nodes (fr z k)∧l[nn]? =some x∧(z.wd p).sort≠axK (wayAx w)∧PP=upd (upd (upd z.P (z.last+2) []) (z.last+1) (prL x (z.last+2) (wayAh w))) p ((z.P p).take nn++ [z.last+1]++(z.P p).drop (nn+1)):=by
    by_cases w0:way= []
    ·replace w0:=w0.symm;subst w0
     exact .inl ⟨pth.inv0,p1 rfl⟩
    ·refine q9 (snoc_of w0) fun w' p nn e=> ?_
     have pth':=pth
     rw[e] at pth'
     refine q19 pth'.inv fun l u_ hp hnn=> ?_
     exact .inr ⟨p,l,nn,hp,hnn,by rw[←(D.all _ hp).kind];exact hne w' p nn e,p2 w' p nn e⟩
   have rw0:(way= [])↔(x=z.root):=by
    constructor
    ·intro e;subst e;exact pth.inv0
    ·intro e
     apply Classical.byContradiction
     intro w0
     refine q9 (snoc_of w0) fun w' p nn e2=> ?_
     rw[e2] at pth
     refine q19 pth.inv fun l u_ hp hnn=> ?_
     exact D.top hp (by rw[←e];exact List.mem_of_getElem? hnn)
   refine isp_try (d:=d) (kk:=k) h2 (by refine Wk_same (z:=z) ?_ ?_ ?_ wkz <;> rfl) (by lia) hxl hw (by rw[show(lsB z ℓ B x (z.last+2) (z.last+1) (wayAx w) (axSz (wayAx w) (z.wd x) - newSz (axSz (wayAx w) (z.wd x)) sz) (newSz (axSz (wayAx w) (z.wd x)) sz) (n+1) PP).loc (0,0)=ℓ (0,0) from rfl,mv.1 (0,0) (by decide)];simpa using r1) r2 r3 r4 (due:= .ref (ℓ (6,if way= [] then z.last+1 else z.root))) rfl (rv:= .ref (z.loc (6,z.root))) r6 fun m3 e3=> ?_
   refine winB (d:=d) D (by lia) hx (wayAx01 w) hB ts hc (h2.ext e3) fun v m4 z' k' hR hI hm hr=> ?_
   have:=hΦ m4 z' k' hR hI ((hm _ (by simp)).trans (mv.1 _ (by simp))) ((hm _ (by simp)).trans (mv.1 _ (by simp)))
   rw[hr,hm _ (by simp)] at this
   simp only[rw0]
   exact this
end
section
variable{μ μ':MH}{z:Z}{i:Int}{Φ:Pst}{Ψ:Exc}{d:Nat}{k:F}{star:Int}{n:Nat}
theorem Inv.deck_(I:Inv z k star n){r:List Int}(hr:r.length≤63):Inv {z with deck:=r} k star n:=⟨I.p.deck_ hr,I.lft,I.top,I.pl⟩
theorem lvs_pos(r:Int)(k:F):0 < (lvs (.node r k .nil)).length:=by
 cases k with
 |nil=>simp[lvs]
 |node i k2 s=>
  have:∀(f:F),f≠ .nil→0 < (lvs f).length:=fun f=>by
   induction f with
   |nil=>intro h;exact absurd rfl h
   |node i k r h1 h2=>
    intro _
    rw[lvs_node]
    cases k with
    |nil=>simp
    |node a b c=>
     have:=h1 (by simp)
     simp only[List.length_append];lia
  exact this _ (by simp)
theorem is_split_spec(I:Inv z k star n)(n7:n≤7)(h:R μ z)
  (hΦ:∀m z' k',R m z'→Inv z' k' star (n+1)→z'.loc (0,0)=z.loc (0,0)→z'.loc (2,0)=z.loc (2,0)→Φ (.ref (z'.loc (6,z'.root))) m):
  az tab (d+6) 393 [.ref (z.loc (0,0)), .ref (z.loc (6,z.root)), .ref (z.loc (2,0)), .int (n+1)] μ Φ Ψ:=by
 refine call_of (fn:=dm) rfl rfl ?_
 have g1:bindM dm.params [.ref (z.loc (0,0)), .ref (z.loc (6,z.root)), .ref (z.loc (2,0)), .int (n+1)] "tree"=some (.ref (z.loc (0,0))):=rfl
 have g2:bindM dm.params [.ref (z.loc (0,0)), .ref (z.loc (6,z.root)), .ref (z.loc (2,0)), .int (n+1)] "root"=some (.ref (z.loc (6,z.root))):=rfl
 have g3:bindM dm.params [.ref (z.loc (0,0)), .ref (z.loc (6,z.root)), .ref (z.loc (2,0)), .int (n+1)] "deck"=some (.ref (z.loc (2,0))):=rfl
 have g4:bindM dm.params [.ref (z.loc (0,0)), .ref (z.loc (6,z.root)), .ref (z.loc (2,0)), .int (n+1)] "number"=some (.int (n+1)):=rfl
 generalize bindM dm.params [.ref (z.loc (0,0)), .ref (z.loc (6,z.root)), .ref (z.loc (2,0)), .int (n+1)]=ρ0 at *
 have D:=I.p
 have fs:=D.fs
 have ll:=lvs_le (.node z.root k .nil)
 have lp:=lvs_pos z.root k
 simp only[av] at ll
 have hd:=D.deck
 show aA _ (.cons (.multi [(.name "nth"),(.name "way")] (.cons (.call (.glob "_law_draw" (.ref 334)) (.cons (.var "deck") (.cons (.len (.call (.glob "leaves" (.ref 196)) (.cons (.var "tree") .nil))) .nil))) (.cons (.call (.glob "_law_draw" (.ref 334)) (.cons (.var "deck") (.cons (.cst (.int 4)) .nil))) .nil))) (aJ 1 dm.body)) _ _ _ _
 simp[↓exe g1,↓exe g3]
 refine leaves_spec (d:=d+3) h D.wk (by simp only[av,LIM];lia) fun m0 a he u_ hl=> ?_
 simp[↓exf (aE hl)]
 refine⟨by unfold LIM;lia,?_⟩
 refine draw_spec2 (d:=d+4) (h.ext he) (by lia) (by lia) (by unfold LIM;lia) fun nth m1 d1 v0 v1 rl1 h1 u_=> ?_
 simp[↓exe g3]
 have I1:=I.deck_ (r:=d1) (by lia)
 have k1:nth.toNat < (lvs (fr z k)).length:=by show nth.toNat < (lvs (.node z.root k .nil)).length;lia
 have k2:(nth.toNat:Int)=nth:=by lia
 clear v0 v1
 have R2:∀(w:Int) (m:MH) r2,0≤w→w < 4→r2.length≤d1.length→R m {z with deck:=r2}→aA (az tab (d+5)) (aJ 1 dm.body) (upd (upd ρ0 "nth" (some (.int nth))) "way" (some (.int w))) m (bf Φ) Ψ:=fun w m r2 w0 w4 rl2 h2=>by
  have hw:w=0∨w=1∨w=2∨w=3:=by lia
  have fin:∀m3 r3 sz,r3.length≤r2.length→R m3 {z with deck:=r3}→aA (az tab (d+5)) (aJ 2 dm.body) (upd (upd (upd ρ0 "nth" (some (.int nth))) "way" (some (.int w))) "size" (some (optV sz))) m3 (bf Φ) Ψ:=fun m3 r3 sz rl3 h3=>
   isp_tail (d:=d) (w:=w) (nth:=nth.toNat) (sz:=sz) (I.deck_ (r:=r3) (by lia)) n7 h3 k1 hw g1 (by simp[k2]) rfl rfl g2 g4 fun m' z' k' hR hI l0 l2=>hΦ m' z' k' hR hI l0 l2
  show aA _ (.cons (.assign (.name "size") (.item (.list (.cons (.cst .none) (.cons (.bin .add (.cst (.int 3)) (.call (.glob "_law_draw" (.ref 334)) (.cons (.var "deck") (.cons (.cst (.int 9)) .nil)))) (.cons (.bin .sub (.neg (.cst (.int 2))) (.call (.glob "_law_draw" (.ref 334)) (.cons (.var "deck") (.cons (.cst (.int 9)) .nil)))) .nil)))) (.call (.glob "_law_draw" (.ref 334)) (.cons (.var "deck") (.cons (.cst (.int 3)) .nil))))) (aJ 2 dm.body)) _ _ _ _
  simp[↓exe g3]
  refine draw_spec2 (z:={z with deck:=r2}) (d:=d+4) h2 (by lia) (by lia) (by unfold LIM;dsimp only;lia) fun v1 m3 r3 u_ u_ rl3 h3 u_=> ?_
  simp[↓exe g3]
  dsimp only at rl3 h3
  refine draw_spec2 (z:={z with deck:=r3}) (d:=d+4) h3 (by lia) (by lia) (by unfold LIM;dsimp only;lia) fun v2 m4 r4 u_ u_ rl4 h4 u_=> ?_
  simp
  dsimp only at rl4 h4
  refine⟨by simp[LIM],fun la hla=> ?_⟩
  simp[↓exe g3]
  have e5:=(Ext.refl m4).new hla (some (.list [.none, .int (3+v1), .int (-2 - v2)]))
  have l5:upd m4 la (some (.list [.none, .int (3+v1), .int (-2 - v2)])) la=some (.list [.none, .int (3+v1), .int (-2 - v2)]):=aj _ _ _
  have h5:=h4.ext e5
  have nla:=h4.nl hla
  generalize upd m4 la (some (.list [.none, .int (3+v1), .int (-2 - v2)]))=m5 at *
  refine draw_spec2 (z:={z with deck:=r4}) (d:=d+4) h5 (by lia) (by lia) (by unfold LIM;dsimp only;lia) fun c m6 r6 c0 c1 rl6 h6 o6=> ?_
  dsimp only at rl6 h6 o6
  have l6:=(o6 la fun e=>nla _ (live2 _) e.symm).trans l5
  have hc:c=0∨c=1∨c=2:=by lia
  rcases hc with rfl |rfl |rfl
  ·have:itemOf m6 (.ref la) (.int 0)=some .none:=item_list (n:=0) l6 rfl (by simp[LIM])
   simp[↓exe this]
   exact fin m6 r6 none (by lia) h6
  ·have:itemOf m6 (.ref la) (.int 1)=some (.int (3+v1)):=item_list (n:=1) l6 rfl (by simp[LIM])
   simp[↓exe this]
   exact fin m6 r6 (some (3+v1)) (by lia) h6
  ·have:itemOf m6 (.ref la) (.int 2)=some (.int (-2 - v2)):=item_list (n:=2) l6 rfl (by simp[LIM])
   simp[↓exe this]
   exact fin m6 r6 (some (-2 - v2)) (by lia) h6
 refine draw_spec2 (z:={z with deck:=d1}) (d:=d+4) h1 (by lia) (by lia) (by unfold LIM;dsimp only;lia) fun w m2 d2 w0 w4 rl2 h2 u_=> ?_
 dsimp only at rl2 h2
 simp
 exact R2 w m2 d2 w0 w4 rl2 h2
end
section
variable{μ μ':MH}{z:Z}{i:Int}{Φ:Pst}{Ψ:Exc}{d:Nat}{k:F}{star:Int}{n:Nat}
theorem NN.ls{B:Int}{i:Int}{l:List Int}(h:NN z B i l){a:Int}(ha:a=0∨a=1):LS z a (fun j=>axSz a (z.wd j)) i l:=by
 refine⟨fun k0=> ?_,fun k0=> ⟨fun e=> ?_,fun e c hc=> ?_⟩⟩
 ·rw[h.kind] at k0
  have l0:l= []:=by rcases h.srt with⟨a,_⟩ |⟨_,a⟩;exact a;lia
  refine q2 (h.leaf l0) fun r1 r2 u_=> ?_
  unfold axB axSz;split <;> assumption
 ·rw[h.kind] at e k0
  have l0:l≠[]:=by rcases h.srt with⟨_,a⟩ |⟨a,_⟩;exact absurd a k0;intro q;rw[q] at a;simp at a
  have:=h.sum l0
  rw[e,axOf_axK ha] at this
  exact this
 ·rw[h.kind] at e k0
  have l0:l≠[]:=by rcases h.srt with⟨_,a⟩ |⟨a,_⟩;exact absurd a k0;intro q;rw[q] at a;simp at a
  have s12:(z.wd i).sort=1∨(z.wd i).sort=2:=by rcases h.srt with⟨_,a⟩ |⟨_,a⟩;exact absurd a k0;exact a
  have:=h.eq l0 c hc
  have e2:1 - axOf (z.wd i).sort=a:=by
   rcases ha with rfl |rfl <;> rcases s12 with s |s <;> rw[s] at e⊢ <;> first |rfl |exact absurd rfl e
  rw[e2] at this;exact this
theorem qOf_mem{l:List Int}{nn:Nat}{x:Int}(hn:l[nn]? =some x)(nd:l.Nodup)(h2:2≤l.length):qOf l nn∈l∧qOf l nn≠x:=by
 have lt:=(List.getElem?_eq_some_iff.mp hn).1
 have lt2:(if 0 < nn then nn - 1 else 1) < l.length:=by split <;> lia
 have e:l[if 0 < nn then nn - 1 else 1]? =some (qOf l nn):=by
  unfold qOf
  rw[List.getElem?_eq_getElem lt2]
  simp[List.getD,List.getElem?_eq_getElem lt2]
 refine⟨List.mem_of_getElem? e,fun q=> ?_⟩
 rw[q] at e
 have h1:=nth_idx e nd
 have h2:=nth_idx hn nd
 rw[h2] at h1
 split at h1 <;> lia
theorem InvP.leafOf(D:InvP z k star n){c:Int}{l:List Int}(h:(c,l)∈nodes (fr z k))(h0:(z.bd c).kind=0):l= []:=by
 have a:=D.all _ h
 dsimp only at a
 rw[a.kind] at h0
 rcases a.srt with⟨b,_⟩ |⟨_,b⟩
 ·exact b
 ·lia
theorem InvP.axv(D:InvP z k star n){x:Int}(hx:(x,[])∈nodes (fr z k))(a:Int):axB a (z.bd x)=axSz a (z.wd x):=by
 refine q2 ((D.all _ hx).leaf rfl) fun r1 r2 u_=> ?_
 unfold axB axSz;split <;> assumption
theorem InvP.del(D:InvP z k star n){x p:Int}{l:List Int}{nn:Nat}(hx:(x,[])∈nodes (fr z k))(hp:(p,l)∈nodes (fr z k))(hnn:l[nn]? =some x)(hst:(z.bd x).num≠star)(hcs:∀c∈csOf z (qOf l nn),(z.bd c).kind=0):∃lq,Del z k x p (qOf l nn) l lq∧csOf z (qOf l nn)=cs0 (qOf l nn) lq∧z.K (qOf l nn)=lq∧z.P (qOf l nn)=lq:=by
 have xl:x∈l:=List.mem_of_getElem? hnn
 have lnd:=nodes_nd D.nd hp
 dsimp only at lnd
 have l0:l≠[]:=fun e=>by rw[e] at xl;cases xl
 refine q0 (qOf_mem hnn lnd (D.box0 hp l0).1) fun q1 q2=> ?_
 obtain⟨lq,hq⟩:=D.child hp q1
 have nq:=D.all _ hq
 dsimp only at nq
 have ecs:csOf z (qOf l nn)=cs0 (qOf l nn) lq:=by unfold csOf cs0;rw[nq.P]
 refine⟨lq,⟨hx,hp,xl,q1,q2,hq,fun c hc=> ?_,fun e=>hst ?_⟩,ecs,nq.K,nq.P⟩
 ·obtain⟨lc,hlc⟩:=D.child hq hc
  have:c∈csOf z (qOf l nn):=by
   rw[ecs,cs0,if_neg fun e=>by rw[e] at hc;cases hc];exact hc
  rw[D.leafOf hlc (hcs c this)] at hlc;exact hlc
 ·rw[←e];exact D.star
theorem kof_fsize{y:Int}{f:F}(nd:(ids f).Nodup)(hy:y∈ids f):av (kof y f) < av f:=by
 have:=fsize_rep (h:=fun u_=> .nil) nd hy
 simp only[av] at this;lia
theorem child_below{f:F}(nd:(ids f).Nodup){q c:Int}{lq:List Int}(hq:(q,lq)∈nodes f)(hc:c∈lq):c∈ids (kof q f):=by
 have:=nodes_fun nd (kof_node nd (bA hq).1).1 hq
 exact(tops_sub _).subset (by rw[this];exact hc)
theorem below_child{f:F}(nd:(ids f).Nodup){q i c:Int}{l:List Int}(hq:q∈ids f)(hi:(i,l)∈nodes f)(h:i∈ids (kof q f))(hc:c∈l):c∈ids (kof q f):=by
 refine q1 (ids_nodes h) fun l' hl'=> ?_
 have:=nodes_fun nd ((kof_node nd hq).2 _ hl') hi
 subst this
 exact(bA hl').2.1 c hc
theorem InvP.gone(D:InvP z k star n)(n8:n≤8){x p:Int}{l:List Int}{nn:Nat}{w':Way}(hd:20≤d)(hx:(x,[])∈nodes (fr z k))(pth:Pth (nodes (fr z k)) z.root (w'++ [(p,nn)]) x):∃kq,GoneOk z d (fun j=>axSz (axOf (z.bd p).kind) (z.wd j)) x w' p nn (qOf (z.P p) nn) kq:=by
 refine q19 pth.inv fun l pw hp hnn=> ?_
 have xl:x∈l:=List.mem_of_getElem? hnn
 have lnd:=nodes_nd D.nd hp
 dsimp only at lnd
 have l0:l≠[]:=fun e=>by rw[e] at xl;cases xl
 refine q0 (D.box0 hp l0) fun l2 s12=> ?_
 refine q0 (qOf_mem hnn lnd l2) fun q1 q2=> ?_
 obtain⟨lq,hq⟩:=D.child hp q1
 have np:=D.all _ hp
 have nq:=D.all _ hq
 have hl:=D.len (by lia) hp
 have hlq:=D.len (by lia) hq
 dsimp only at np nq hl hlq
 have fs:=D.fs
 rw[np.P]
 have qi:qOf l nn∈ids (fr z k):=(bA hq).1
 refine q0 (kof_node D.nd qi) fun kn1 kn2=> ?_
 have kf:=kof_fsize D.nd qi
 have nsub:∀e∈nodes (.node (qOf l nn) (kof (qOf l nn) (fr z k)) .nil),e∈nodes (fr z k):=fun e he=>by
  simp only[nodes,List.mem_cons,List.append_nil] at he
  rcases he with rfl |he
  ·exact kn1
  ·exact kn2 e he
 simp only[av] at kf
 refine⟨kof (qOf l nn) (fr z k),np.L,by rw[np.kind];exact s12,by rw[np.P];exact(List.getElem?_eq_some_iff.mp hnn).1,by rw[np.P];exact l2,by rw[np.P];lia,fun c hc=> ?_,by rw[np.P],fun e=>D.self hp (e▸q1),Lk_of fun e he=> ?_,by lia,fun e he=> (D.all e (nsub e he)).ls (axOf01 _),?_,fun c hc=> ?_,fun w'' g u e=> ?_⟩
 ·rw[np.P] at hc
  obtain⟨lc,hlc⟩:=D.child hp hc
  exact(D.all _ hlc).L
 ·have ne:=D.all e (nsub e he)
  have le:=D.len (by lia) (nsub e he)
  refine⟨ne.L,ne.P,by lia,?_⟩
  rw[ne.kind]
  exact ne.srt.imp id fun q=> ⟨fun e=>by rw[e] at q;simp at q,q.2⟩
 ·unfold csOf;rw[nq.P];split
  ·simp
  ·lia
 ·have hc':c∈ids (fr z k):=by
   unfold csOf at hc
   rw[nq.P] at hc
   split at hc
   ·rw[List.mem_singleton.mp hc];exact qi
   ·exact(bA hq).2.1 c hc
  obtain⟨lc,hlc⟩:=ids_nodes hc'
  have nc:=D.all _ hlc
  dsimp only at nc
  refine⟨nc.L,?_⟩
  rw[nc.kind]
  rcases nc.srt with⟨_,a⟩ |⟨_,a⟩
  ·exact .inl a
  ·exact .inr a
 ·rw[e] at pw
  refine q19 pw.inv fun lg u_ hg hu=> ?_
  have pg:p∈lg:=List.mem_of_getElem? hu
  have ng:=D.all _ hg
  dsimp only at ng
  have lg0:lg≠[]:=fun e=>by rw[e] at pg;cases pg
  have hlg:=D.len (by lia) hg
  dsimp only at hlg
  have gq:g≠qOf l nn:=fun e=>by
   subst e
   exact kof_not D.nd qi (below_child D.nd qi hp (child_below D.nd hg pg) q1)
  refine⟨ng.L,by rw[ng.kind];exact(D.box0 hg lg0).2,by rw[ng.P];exact(List.getElem?_eq_some_iff.mp hu).1,by rw[ng.P];lia,fun e=>D.self hg (e▸pg),gq,fun h=> ?_⟩
  unfold csOf at h
  rw[nq.P] at h
  split at h
  ·exact gq (List.mem_singleton.mp h)
  ·
   exact kof_not D.nd qi (below_child D.nd qi hp (below_child D.nd qi hg (child_below D.nd hq h) pg) q1)
end
section
variable{μ μ':MH}{z:Z}{i:Int}{Φ:Pst}{Ψ:Exc}{d:Nat}{k:F}{star:Int}{n:Nat}
noncomputable def zL(z:Z)(B:Nat)(x p q:Int)(PP:Int→List Int):Z:=lgZ z B q (axOf (z.wd p).sort) (delV z x p q) PP
noncomputable def zD(z:Z)(B:Nat)(x p q:Int)(PP:Int→List Int):Z:=delS (zL z B x p q PP) x p q (axOf (z.wd p).sort) (delV z x p q)
theorem zD_wd(D:InvP z k star n){x p q:Int}{l lq:List Int}(e:Del z k x p q l lq)(B:Nat)(PP:Int→List Int)(j:Int):(zD z B x p q PP).wd j=if j=q∨j∈lq then aK (axOf (z.wd p).sort) (delV z x p q) (z.wd j) else z.wd j:=by
 show(if j=q∨j∈z.K q then _ else _)=_
 rw[(D.all _ e.qn).K];rfl
theorem zD_bd(D:InvP z k star n){x p q:Int}{l lq:List Int}(e:Del z k x p q l lq)(B:Nat)(PP:Int→List Int)(j:Int):(zD z B x p q PP).bd j=if j∈cs0 q lq then setBx (axOf (z.wd p).sort) (delV z x p q) (z.bd j) else z.bd j:=by
 show(if j∈csOf z q then _ else _)=_
 have:csOf z q=cs0 q lq:=by unfold csOf cs0;rw[(D.all _ e.qn).P]
 rw[this]
theorem win_head(D:InvP z k star n)(n8:n≤8){x p q:Int}{l lq:List Int}{nn B:Nat}{PP:Int→List Int}(e:Del z k x p q l lq)(hnn:l[nn]? =some x)(hq:q=qOf l nn)(h:R μ (zL z B x p q PP))
  (go:∀m,R m (zD z B x p q PP)→az tab (d+2) 313 [.ref (z.loc (0,0)), .int p] m (fun u_ m=>az tab (d+2) 246 [.ref (z.loc (0,0))] m (fun u_ m=>Φ .none m) Ψ) Ψ):
  az tab (d+3) 327 [.ref (z.loc (0,0)), .int x] μ Φ Ψ:=by
 refine q21 (e.facts D) fun px qp xq pq qq ln p0 u_ u_ xpar u_ v0 v1=> ?_
 have nx:=D.all _ e.xn
 have np:=D.all _ e.pn
 have nq:=D.all _ e.qn
 dsimp only at nx np nq
 have lnd:=nodes_nd D.nd e.pn
 dsimp only at lnd
 have hl:=D.len (by lia) e.pn
 have hlq:=D.len (by lia) e.qn
 dsimp only at hl hlq
 have ot:otherOf (z.K p) x=q:=by
  rw[np.K,hq];unfold otherOf qOf;rw[nth_idx hnn lnd]
 have:=delete_head (z:=zL z B x p q PP) (i:=x) (p:=p) (d:=d) (Φ:=Φ) (Ψ:=Ψ) h nx.S nx.K (D.leaf0 e.xn).1 np.S xpar p0 px (by show x∈z.K p;rw[np.K];exact e.xl) (by show 2≤(z.K p).length;rw[np.K];exact(D.box0 e.pn ln).1) (by show(z.K p).length < _;rw[np.K];unfold LIM;lia) e.sel (by show z.gn < _;have:=D.gn;lia)
 have ot':otherOf ((zL z B x p q PP).K p) x=q:=ot
 rw[ot'] at this
 refine this nq.S e.qx qp ?_ go
 show((z.wd q).sort=0∧z.K q= [])∨_
 rcases nq.srt with⟨a,b⟩ |⟨a,b⟩
 ·exact .inl ⟨b,nq.K.trans a⟩
 ·have sp:=(np.kid q e.ql).2
  refine .inr ⟨?_,?_,fun c hc=> ?_,?_⟩
  ·show(z.wd q).sort≠0;lia
  ·show axOf (z.wd q).sort≠axOf (z.wd p).sort
   rw[axOf_other b (D.box0 e.pn ln).2 sp]
   have:=axOf01 (z.wd p).sort;lia
  ·have hc':c∈lq:=by rw[←nq.K];exact hc
   exact⟨(D.all _ (e.lv c hc')).S,fun e'=>xq (e'▸hc'),(D.leaf0 (e.lv c hc')).1⟩
  ·show(z.K q).length < _;rw[nq.K];lia
theorem zD_fra(D:InvP z k star n){z':Z}{B:Nat}{PP:Int→List Int}(hB:B≤z.bn+100)(hPP:∀i∈z.L,∀j∈PP i,j∈z.L)(hS:∀i∈z'.S,i∈z.S)(hl:z'.last=z.last)(hL:z'.L=z.L)(hP:z'.P=PP)(hs:z'.sel=z.sel)(hg:z'.gn=z.gn)(hb:z'.bn=B)(hd:z'.deck=z.deck):Fra z z' where
 Sb:=fun i hi=>by rw[hl];exact D.Sb i (hS i hi)
 Lb:=fun i hi=>by rw[hl];rw[hL] at hi;exact D.Lb i hi
 L:=fun i hi=>by rw[hL];exact hi
 PL:=fun i hi j hj=>by rw[hL] at hi⊢;rw[hP] at hj;exact hPP i hi j hj
 sel:=hs
 gn:=by lia
 bn:=by lia
 deck:=by rw[hd];exact D.deck
theorem winDelK(I:Inv z k star n)(n8:n≤8){x p q:Int}{l lq:List Int}{nn B:Nat}(e:Del z k x p q l lq)(hnn:l[nn]? =some x)(hq:q=qOf l nn)(h3:3≤l.length)(hB:B≤z.bn+100)(h:R μ (zL z B x p q (upd z.P p ((z.P p).eraseIdx nn))))
  (hΦ:∀m z' k',R m z'→Inv z' k' star (n+1)→MovX z.loc z'.loc→z'.root=z.root→Φ .none m):az tab (d+3) 327 [.ref (z.loc (0,0)), .int x] μ Φ Ψ:=by
 have D:=I.p
 refine q21 (e.facts D) fun px qp xq pq qq ln p0 xr qr xpar u_ v0 v1=> ?_
 have np:=D.all _ e.pn
 dsimp only at np
 have lnd:=nodes_nd D.nd e.pn
 dsimp only at lnd
 have hl:=D.len (by lia) e.pn
 dsimp only at hl
 have Kp:(zD z B x p q (upd z.P p ((z.P p).eraseIdx nn))).K p=spl x [] l:=by
  show upd z.K p ((z.K p).eraseIdx ((z.K p).idxOf x)) p=_
  rw[aj,np.K,erase_spl (idx_nth e.xl) lnd]
 have Pp:(zD z B x p q (upd z.P p ((z.P p).eraseIdx nn))).P p=spl x [] l:=by
  show upd z.P p _ p=_
  rw[aj,np.P,erase_spl hnn lnd]
 have w:DelW z (zD z B x p q (upd z.P p ((z.P p).eraseIdx nn))) x p q lq:=⟨fun j=>by rw[←zD_wd D e],zD_bd D e _ _⟩
 have DD:=delK_inv D e w (zD_fra (PP:=upd z.P p ((z.P p).eraseIdx nn)) D hB (fun i hi j hj=> ?_) (fun i hi=> (List.mem_filter.mp hi).1) rfl rfl rfl rfl rfl rfl rfl) h3 rfl (fun i hi hx=>List.mem_filter.mpr ⟨hi,by simpa using hx⟩) Kp (fun i hi=>af _ _ hi) Pp (fun i hi=>af _ _ hi) (fun c=>by
  rw[zD_wd D e];split
  ·exact(bM _ _ _).2.1
  ·rfl)
 ·have fs:=DD.fs
  have len:=len_spl (m:= []) e.xl lnd
  rw[List.length_nil] at len
  refine win_head (d:=d) D n8 e hnn hq h fun m hm=> ?_
  refine lifted_many (z:=zD z B x p q (upd z.P p ((z.P p).eraseIdx nn))) (d:=d+1) hm (List.mem_filter.mpr ⟨np.S,by simpa using px⟩) (by rw[Kp];lia) (by rw[Kp];unfold LIM;lia) ?_
  refine set_places_spec (z:=zD z B x p q (upd z.P p ((z.P p).eraseIdx nn))) (d:=d) hm DD.wk DD.nd' (by unfold LIM;lia) fun m2 wd' h2 on u_ c1 c2 c3=> ?_
  exact hΦ m2 _ _ h2 ⟨DD.only on,c1,c2,c3⟩ (fun u_ u_=>rfl) rfl
 ·by_cases q:i=p
  ·replace q:=q.symm;subst q
   rw[aj,np.P,erase_spl hnn lnd] at hj
   rcases mem_spl.mp hj with⟨a,_⟩ |⟨_,a⟩
   ·refine q1 (D.child e.pn a) fun lc hlc=> ?_
    exact(D.all _ hlc).L
   ·cases a
  ·rw[af _ _ q] at hj
   exact D.PL i hi j hj
end
section
variable{μ μ':MH}{z:Z}{i:Int}{Φ:Pst}{Ψ:Exc}{d:Nat}{k:F}{star:Int}{n:Nat}
noncomputable def zU(z:Z)(B:Nat)(x p q:Int)(PP:Int→List Int)(ℓ:Slot→Addr):Z:=upZ (zD z B x p q PP) ℓ p q
theorem zU_wd(D:InvP z k star n){x p q:Int}{l lq:List Int}(e:Del z k x p q l lq)(B:Nat)(PP:Int→List Int)(ℓ:Slot→Addr)(j:Int):(zU z B x p q PP ℓ).wd j={(if j=q∨j∈lq then aK (axOf (z.wd p).sort) (delV z x p q) (z.wd j) else z.wd j) with par:=((zU z B x p q PP ℓ).wd j).par}:=by
 have:∃a,(zU z B x p q PP ℓ).wd j={(zD z B x p q PP).wd j with par:=a}:=by
  by_cases h:j=q
  ·rw[h];exact⟨_,aj _ _ _⟩
  ·exact⟨_,af _ _ h⟩
 refine q1 this fun a h=> ?_
 rw[h,zD_wd D e]
theorem zU_par(D:InvP z k star n){x p q:Int}{l lq:List Int}(e:Del z k x p q l lq)(B:Nat)(PP:Int→List Int)(ℓ:Slot→Addr)(j:Int):((zU z B x p q PP ℓ).wd j).par=if j=q then(z.wd p).par else(z.wd j).par:=by
 refine q21 (e.facts D) fun px qp xq pq qq ln p0 xr qr xpar u_ v0 v1=> ?_
 have wp:∀j,((zD z B x p q PP).wd j).par=(z.wd j).par:=fun j=>by
  rw[zD_wd D e];split
  ·exact(bM _ _ _).2.1
  ·rfl
 show(upd (zD z B x p q PP).wd q _ j).par=_
 by_cases h:j=q
 ·rw[h];rw[aj,if_pos rfl];exact wp p
 ·rw[af _ _ h,if_neg h];exact wp j
theorem winDelR(I:Inv z k star n)(n8:n≤8){x p q:Int}{l lq:List Int}{nn B:Nat}(e:Del z k x p q l lq)(hnn:l[nn]? =some x)(hq:q=qOf l nn)(h2:l.length=2)(hp:p=z.root)(hB:B≤z.bn+100)(h:R μ (zL z B x p q (upd z.P p ((z.P p).eraseIdx nn))))
  (hΦ:∀m z' k',R m z'→Inv z' k' star (n+1)→MovX z.loc z'.loc→z'.root=q→Φ .none m):az tab (d+3) 327 [.ref (z.loc (0,0)), .int x] μ Φ Ψ:=by
 have D:=I.p
 refine q21 (e.facts D) fun px qp xq pq qq ln p0 xr qr xpar u_ v0 v1=> ?_
 have np:=D.all _ e.pn
 have nq:=D.all _ e.qn
 skip
 have lnd:=nodes_nd D.nd e.pn
 skip
 have len:=len_spl (m:= []) e.xl lnd
 rw[List.length_nil] at len
 have one:spl x [] l= [q]:=by
  have mq:q∈spl x [] l:=mem_spl.mpr (.inl ⟨e.ql,e.qx⟩)
  match hs:spl x [] l with
  | []=>rw[hs] at mq;cases mq
  | [a]=>rw[hs] at mq;rw[List.mem_singleton.mp mq]
  |a::b::r=>rw[hs] at len;simp at len;lia
 have par0:(z.wd p).par=0:=by rw[hp];exact D.rp
 generalize hPP:upd z.P p ((z.P p).eraseIdx nn)=PP at *
 have Kp:(zD z B x p q PP).K p= [q]:=by
  show upd z.K p ((z.K p).eraseIdx ((z.K p).idxOf x)) p=_
  rw[aj,np.K,erase_spl (idx_nth e.xl) lnd,one]
 have dpar:((zD z B x p q PP).wd p).par=0:=by
  rw[zD_wd D e];split
  ·rw[(bM _ _ _).2.1];exact par0
  ·exact par0
 have hPL:∀i∈z.L,∀j∈PP i,j∈z.L:=fun i hi j hj=>by
  rw[←hPP] at hj
  by_cases q:i=p
  ·replace q:=q.symm;subst q
   rw[aj,np.P,erase_spl hnn lnd] at hj
   rcases mem_spl.mp hj with⟨a,_⟩ |⟨_,a⟩
   ·refine q1 (D.child e.pn a) fun lc hlc=> ?_
    exact(D.all _ hlc).L
   ·cases a
  ·rw[af _ _ q] at hj
   exact D.PL i hi j hj
 have DD:=fun ℓ=>delR_inv (z':=zU z B x p q PP ℓ) D e ⟨zU_wd D e B PP ℓ,zD_bd D e B PP⟩ (zD_fra D hB hPL (fun i hi=> (List.mem_filter.mp (List.mem_filter.mp hi).1).1) rfl rfl rfl rfl rfl rfl rfl) one hp (by show(if((zD z B x p q PP).wd p).par=0 then q else _)=q;rw[if_pos dpar]) (fun i hi hx hip=>List.mem_filter.mpr ⟨List.mem_filter.mpr ⟨hi,by simpa using hx⟩,by simpa using hip⟩) (fun i hi=> ⟨by
   show upd (if((zD z B x p q PP).wd p).par=0 then _ else _) p [] i=_
   rw[af _ _ hi,if_pos dpar]
   exact af _ _ hi,by show PP i=_;rw[←hPP,af _ _ hi]⟩) (fun c hc=>by rw[zU_par D e,if_neg hc]) (by rw[zU_par D e,if_pos rfl];exact par0)
 refine win_head (d:=d) D n8 e hnn hq h fun m hm=> ?_
 refine lifted_one (z:=zD z B x p q PP) (d:=d) (q:=q) hm (List.mem_filter.mpr ⟨np.S,by simpa using px⟩) Kp (List.mem_filter.mpr ⟨nq.S,by simpa using e.qx⟩) qp (by show z.gn < _;have:=D.gn;lia) (.inl dpar) (fun u_ m2 ℓ mv h2=> ?_) (fun h=>absurd dpar h)
 refine q1 (DD ℓ) fun k' DD=> ?_
 have fs:=DD.fs
 have l0:ℓ (0,0)=z.loc (0,0):=mv _ ((ne1 (by decide)))
 rw[←l0]
 refine set_places_spec (z:=zU z B x p q PP ℓ) (d:=d) h2 DD.wk DD.nd' (by unfold LIM;lia) fun m3 wd' h3 on u_ c1 c2 c3=> ?_
 exact hΦ m3 _ _ h3 ⟨DD.only on,c1,c2,c3⟩ (fun s hs=>mv s fun e=>by rw[e] at hs;simp at hs) (by show(if((zD z B x p q PP).wd p).par=0 then q else _)=q;rw[if_pos dpar])
end
theorem flatMap_same{l:List Int}{f g:Int→List Int}(h:∀c∈l,f c=g c):l.flatMap f=l.flatMap g:=by
 induction l with
 |nil=>rfl
 |cons a r ih=>rw[List.flatMap_cons,List.flatMap_cons,h a (.head _),ih fun c hc=>h c (.tail _ hc)]
theorem spl_nd1{p q:Int}{l:List Int}(nd:l.Nodup)(hq:q∉l):(spl p [q] l).Nodup:=by
 by_cases hp:p∈l
 ·refine q18 (mid_of hp nd) fun a b rf2 h1 h2=> ?_
  subst rf2
  rw[spl_mid h1 h2]
  rw[List.nodup_iff_count] at nd⊢
  intro j
  have:=nd j
  simp only[List.count_append,List.count_cons,List.count_nil] at this⊢
  have c1:j=q→a.count j=0∧b.count j=0:=fun e=> ⟨List.count_eq_zero.mpr (by rw[e];exact fun h=>hq (by simp[h])),List.count_eq_zero.mpr (by rw[e];exact fun h=>hq (by simp[h]))⟩
  by_cases e:j=q
  ·refine q0 (c1 e) fun a0 b0=> ?_
   subst e;simp;lia
  ·have:(q==j)=false:=by simpa using Ne.symm e
   rw[this];simp;lia
 ·rw[bW hp];exact nd
section
variable{μ μ':MH}{z:Z}{i:Int}{Φ:Pst}{Ψ:Exc}{d:Nat}{k:F}{star:Int}{n:Nat}
noncomputable def zJ(z:Z)(B:Nat)(x p q g:Int)(PP:Int→List Int)(ℓ:Slot→Addr)(fa:Addr)(pp JL:List Int):Z:=
 {rest (zU z B x p q PP ℓ) pp with wd:=parAll g JL (zU z B x p q PP ℓ).wd,loc:=upd ℓ (4,g) fa,K:=upd (zU z B x p q PP ℓ).K g JL}
theorem zJ_wd(D:InvP z k star n){x p q g:Int}{l lq:List Int}(e:Del z k x p q l lq)(B:Nat)(PP:Int→List Int)(ℓ:Slot→Addr)(fa:Addr)(pp JL:List Int)(j:Int):(zJ z B x p q g PP ℓ fa pp JL).wd j={(if j=q∨j∈lq then aK (axOf (z.wd p).sort) (delV z x p q) (z.wd j) else z.wd j) with par:=((zJ z B x p q g PP ℓ fa pp JL).wd j).par}:=by
 have:∃a,(zJ z B x p q g PP ℓ fa pp JL).wd j={(zU z B x p q PP ℓ).wd j with par:=a}:=by
  show∃a,parAll g JL (zU z B x p q PP ℓ).wd j=_
  unfold parAll
  split
  ·exact⟨_,rfl⟩
  ·exact⟨_,rfl⟩
 refine q1 this fun a h=> ?_
 rw[h,zU_wd D e]
theorem zJ_par(D:InvP z k star n){x p q g:Int}{l lq:List Int}(e:Del z k x p q l lq)(B:Nat)(PP:Int→List Int)(ℓ:Slot→Addr)(fa:Addr)(pp JL:List Int)(j:Int):((zJ z B x p q g PP ℓ fa pp JL).wd j).par=if j∈JL then g else if j=q then(z.wd p).par else(z.wd j).par:=by
 show(parAll g JL (zU z B x p q PP ℓ).wd j).par=_
 unfold parAll
 split
 ·rfl
 ·exact zU_par D e B PP ℓ j
theorem win_join(D:InvP z k star n)(n8:n≤8){x p q g:Int}{l lq lg JL:List Int}{nn B:Nat}{PP:Int→List Int}(e:Del z k x p q l lq)(hnn:l[nn]? =some x)(hq:q=qOf l nn)(one:spl x [] l= [q])(hg:(g,lg)∈nodes (fr z k))(pg:p∈lg)(hjl:JL=if(z.wd q).sort=(z.wd g).sort then spl p lq lg else spl p [q] lg)(h:R μ (zL z B x p q PP))
  (go:∀m ℓ fa pp,MovX z.loc ℓ→(∀c,c∈pp↔c=q∧(z.wd q).sort=(z.wd g).sort)→R m (zJ z B x p q g PP ℓ fa pp JL)→az tab (d+2) 246 [.ref (ℓ (0,0))] m (fun u_ m=>Φ .none m) Ψ):
  az tab (d+3) 327 [.ref (z.loc (0,0)), .int x] μ Φ Ψ:=by
 refine q21 (e.facts D) fun px qp xq pq qq ln p0 xr qr xpar u_ v0 v1=> ?_
 have np:=D.all _ e.pn
 have nq:=D.all _ e.qn
 have ng:=D.all _ hg
 dsimp only at np nq ng
 have lnd:=nodes_nd D.nd e.pn
 have lgnd:=nodes_nd D.nd hg
 dsimp only at lnd lgnd
 have hlg:=D.len (by lia) hg
 have hlq:=D.len (by lia) e.qn
 dsimp only at hlg hlq
 have gS:=D.Sb g ng.S
 have gp:g≠p:=fun e=>by replace e:=e.symm;subst e;exact D.self hg pg
 have gq:g≠q:=fun e'=>by
  replace e':=e'.symm;subst e'
  exact kof_not D.nd (bA hg).1 (below_child D.nd (bA hg).1 e.pn (child_below D.nd hg pg) e.ql)
 have gx:g≠x:=fun e'=>by
  replace e':=e'.symm;subst e'
  rw[D.one hg e.xn] at pg;cases pg
 have par:(z.wd p).par=g:=(ng.kid p pg).1
 have ql0:q∉lg:=fun h=>gp (D.up hg e.pn h e.ql)
 have glq:g∉lq:=fun h=>by
  have:=D.one hg (e.lv g h)
  rw[this] at pg;cases pg
 have wp:∀j,((zD z B x p q PP).wd j).par=(z.wd j).par:=fun j=>by
  rw[zD_wd D e];split
  ·exact(bM _ _ _).2.1
  ·rfl
 have dpar:((zD z B x p q PP).wd p).par=g:=(wp p).trans par
 have Kp:(zD z B x p q PP).K p= [q]:=by
  show upd z.K p ((z.K p).eraseIdx ((z.K p).idxOf x)) p=_
  rw[aj,np.K,erase_spl (idx_nth e.xl) lnd,one]
 have Kg:(zD z B x p q PP).K g=lg:=by
  show upd z.K p _ g=_
  rw[af _ _ gp,ng.K]
 have mS:∀{j},j∈z.S→j≠x→j∈(zD z B x p q PP).S:=fun hj hx=>List.mem_filter.mpr ⟨hj,by simpa using hx⟩
 refine win_head (d:=d) D n8 e hnn hq h fun m hm=> ?_
 refine lifted_one (z:=zD z B x p q PP) (d:=d) (q:=q) hm (mS np.S px) Kp (mS nq.S e.qx) qp (by show z.gn < _;have:=D.gn;lia) (.inr (by rw[dpar];exact⟨mS ng.S gx,by rw[Kg];exact pg,by rw[Kg];unfold LIM;lia,gp,gq,by lia⟩)) (fun h=>by rw[dpar] at h;lia) (fun u_ m2 ℓ mv h2=> ?_)
 rw[dpar]
 have h2':R m2 (zU z B x p q PP ℓ):=h2
 have ukg:(zU z B x p q PP ℓ).K g=spl p [q] lg:=by
  show upd (if((zD z B x p q PP).wd p).par=0 then _ else upd _ ((zD z B x p q PP).wd p).par _) p [] g=_
  rw[af _ _ gp,dpar,if_neg (by lia),aj,Kg,set_spl pg lgnd]
 have ukq:(zU z B x p q PP ℓ).K q=lq:=by
  show upd (if((zD z B x p q PP).wd p).par=0 then _ else upd _ ((zD z B x p q PP).wd p).par _) p [] q=_
  rw[af _ _ qp,dpar,if_neg (by lia),af _ _ (Ne.symm gq)]
  show upd z.K p _ q=_
  rw[af _ _ qp,nq.K]
 have srt:∀j,((zU z B x p q PP ℓ).wd j).sort=(z.wd j).sort:=fun j=>by
  rw[zU_wd D e]
  dsimp only
  split
  ·exact(bM _ _ _).1
  ·rfl
 have ks:∀c∈spl p [q] lg,(c=q)∨(c∈lg∧c≠p∧c≠q∧(z.wd c).sort≠(z.wd g).sort):=fun c hc=>by
  rcases mem_spl.mp hc with⟨a,b⟩ |⟨_,a⟩
  ·exact .inr ⟨a,b,fun e=>ql0 (e▸a),(ng.kid c a).2⟩
  ·exact .inl (List.mem_singleton.mp a)
 have jk:joinK (zU z B x p q PP ℓ) g (spl p [q] lg)=JL:=by
  rw[hjl]
  unfold joinK
  by_cases hs:(z.wd q).sort=(z.wd g).sort
  ·rw[if_pos hs,←spl_spl pg ql0 lgnd (m:=lq)]
   refine flatMap_same fun c hc=> ?_
   rw[srt,srt]
   rcases ks c hc with rfl |⟨_,_,a,b⟩
   ·rw[if_pos hs,if_pos rfl,ukq]
   ·rw[if_neg b,if_neg a]
  ·rw[if_neg hs]
   refine flatMap_id fun c hc=> ?_
   rw[srt,srt]
   rcases ks c hc with rfl |⟨_,_,a,b⟩
   ·rw[if_neg hs]
   ·rw[if_neg b]
 have qk:q∈spl p [q] lg:=mem_spl.mpr (.inr ⟨pg,by simp⟩)
 have pk:∀c,c∈popK (zU z B x p q PP ℓ) g (spl p [q] lg)↔c=q∧(z.wd q).sort=(z.wd g).sort:=fun c=>by
  unfold popK
  rw[List.mem_filter,srt,srt]
  constructor
  ·rintro ⟨a,b⟩
   have b:=of_decide_eq_true b
   rcases ks c a with rfl |⟨_,_,_,b'⟩
   ·exact⟨rfl,b⟩
   ·exact absurd b b'
  ·rintro ⟨rfl,b⟩
   exact⟨qk,decide_eq_true b⟩
 have uS:∀{j},j∈z.S→j≠x→j≠p→j∈(zU z B x p q PP ℓ).S:=fun hj hx hp=>List.mem_filter.mpr ⟨mS hj hx,by simpa using hp⟩
 have ksS:∀c∈spl p [q] lg,c∈(zU z B x p q PP ℓ).S∧c≠g:=fun c hc=>by
  rcases ks c hc with rfl |⟨a,b,c',_⟩
  ·exact⟨uS nq.S e.qx qp,Ne.symm gq⟩
  ·refine q1 (D.child hg a) fun lc hlc=> ?_
   exact⟨uS (D.all _ hlc).S (fun e'=>gp (D.up hg e.pn (e'▸a) e.xl)) b,fun e'=>D.self hg (e'▸a)⟩
 have len1:=len_spl (m:= [q]) pg lgnd
 rw[show([q]:List Int).length=1 from rfl] at len1
 have len2:=len_spl (m:=lq) pg lgnd
 have jlen:JL.length≤200:=by rw[hjl];split <;> lia
 have lz:(zU z B x p q PP ℓ).loc (0,0)=(zD z B x p q PP).loc (0,0):=mv _ ((ne1 (by decide)))
 rw[←lz]
 refine joined_spec (z:=zU z B x p q PP ℓ) (d:=d) (ks:=spl p [q] lg) h2' ukg (uS ng.S gx gp) ksS (spl_nd1 lgnd ql0) (by show z.gn < _;have:=D.gn;lia) (by rw[jk];unfold LIM;lia) (fun c hc=> ?_) (fun m3 fa pp hpp h3=> ?_)
 ·rw[jk,hjl] at hc
  rw[pk]
  by_cases hs:(z.wd q).sort=(z.wd g).sort
  ·rw[if_pos hs] at hc
   rcases mem_spl.mp hc with⟨a,b⟩ |⟨_,a⟩
   ·exact⟨(ksS c (mem_spl.mpr (.inl ⟨a,b⟩))).1,fun q'=>ql0 (q'.1▸a)⟩
   ·exact⟨uS (D.all _ (e.lv c a)).S (fun e'=>xq (e'▸a)) (fun e'=>pq (e'▸a)),fun q'=>qq (q'.1▸a)⟩
  ·rw[if_neg hs] at hc
   exact⟨(ksS c hc).1,fun q'=>hs q'.2⟩
 ·rw[jk] at h3
  have l0:ℓ (0,0)=z.loc (0,0):=mv _ ((ne1 (by decide)))
  rw[←l0]
  exact go m3 ℓ fa pp (fun s hs=>mv s fun e=>by rw[e] at hs;simp at hs) (fun c=> (hpp c).trans (pk c)) h3
theorem winDelUM(I:Inv z k star n)(n8:n≤8){x p q g:Int}{l lq lg:List Int}{nn u B:Nat}(e:Del z k x p q l lq)(hnn:l[nn]? =some x)(hq:q=qOf l nn)(h2:l.length=2)(hg:(g,lg)∈nodes (fr z k))(hu:lg[u]? =some p)(hB:B≤z.bn+100)
  (h:R μ (zL z B x p q (upd (upd z.P p ((z.P p).eraseIdx nn)) g ((z.P g).take u++(if(z.bd g).kind=(z.bd q).kind then z.P q else [q])++(z.P g).drop (u+1)))))
  (hΦ:∀m z' k',R m z'→Inv z' k' star (n+1)→MovX z.loc z'.loc→z'.root=z.root→Φ .none m):az tab (d+3) 327 [.ref (z.loc (0,0)), .int x] μ Φ Ψ:=by
 have D:=I.p
 refine q21 (e.facts D) fun px qp xq pq qq ln p0 xr qr xpar u_ v0 v1=> ?_
 have np:=D.all _ e.pn
 have nq:=D.all _ e.qn
 have ng:=D.all _ hg
 dsimp only at np nq ng
 have lnd:=nodes_nd D.nd e.pn
 have lgnd:=nodes_nd D.nd hg
 dsimp only at lnd lgnd
 have pg:p∈lg:=List.mem_of_getElem? hu
 have gp:g≠p:=fun e=>by replace e:=e.symm;subst e;exact D.self hg pg
 have gS:=D.Sb g ng.S
 have gx:g≠x:=fun e'=>by
  replace e':=e'.symm;subst e'
  rw[D.one hg e.xn] at pg;cases pg
 have par:(z.wd p).par=g:=(ng.kid p pg).1
 have pr:z.root≠p:=fun e=>D.top hg (e▸pg)
 have gq:g≠q:=fun e'=>by
  replace e':=e'.symm;subst e'
  exact kof_not D.nd (bA hg).1 (below_child D.nd (bA hg).1 e.pn (child_below D.nd hg pg) e.ql)
 have ql0:q∉lg:=fun h=>gp (D.up hg e.pn h e.ql)
 have len:=len_spl (m:= []) e.xl lnd
 rw[List.length_nil] at len
 have one:spl x [] l= [q]:=by
  have mq:q∈spl x [] l:=mem_spl.mpr (.inl ⟨e.ql,e.qx⟩)
  match hs:spl x [] l with
  | []=>rw[hs] at mq;cases mq
  | [a]=>rw[hs] at mq;rw[List.mem_singleton.mp mq]
  |a::b::r=>rw[hs] at len;simp at len;lia
 rw[ng.kind,nq.kind,nq.P] at h
 have ePg:(z.P g).take u++(if(z.wd g).sort=(z.wd q).sort then lq else [q])++(z.P g).drop (u+1)=spl p (if(z.wd g).sort=(z.wd q).sort then lq else [q]) lg:=by rw[ng.P,put_spl hu lgnd]
 rw[ePg] at h
 generalize hPP:upd (upd z.P p ((z.P p).eraseIdx nn)) g (spl p (if(z.wd g).sort=(z.wd q).sort then lq else [q]) lg)=PP at *
 have hPL:∀i∈z.L,∀j∈PP i,j∈z.L:=fun i hi j hj=>by
  rw[←hPP] at hj
  by_cases hig:i=g
  ·replace hig:=hig.symm;subst hig
   rw[aj] at hj
   rcases mem_spl.mp hj with⟨a,_⟩ |⟨_,a⟩
   ·refine q1 (D.child hg a) fun lc hlc=> ?_
    exact(D.all _ hlc).L
   ·split at a
    ·exact(D.all _ (e.lv j a)).L
    ·rw[List.mem_singleton.mp a];exact nq.L
  ·rw[af _ _ hig] at hj
   by_cases hip:i=p
   ·replace hip:=hip.symm;subst hip
    rw[aj,np.P,erase_spl hnn lnd] at hj
    rcases mem_spl.mp hj with⟨a,_⟩ |⟨_,a⟩
    ·refine q1 (D.child e.pn a) fun lc hlc=> ?_
     exact(D.all _ hlc).L
    ·cases a
   ·rw[af _ _ hip] at hj
    exact D.PL i hi j hj
 have PPg:PP g=spl p (if(z.wd g).sort=(z.wd q).sort then lq else [q]) lg:=by rw[←hPP,aj]
 have PPo:∀i,i≠p→i≠g→PP i=z.P i:=fun i a b=>by rw[←hPP,af _ _ b,af _ _ a]
 refine win_join (d:=d) D n8 e hnn hq one hg pg rfl h fun m ℓ fa pp mx hpp hm=> ?_
 have dpar:((zD z B x p q PP).wd p).par=g:=by
  rw[zD_wd D e];split
  ·rw[(bM _ _ _).2.1];exact par
  ·exact par
 have Ko:∀JL i,i≠p→i≠g→(zJ z B x p q g PP ℓ fa pp JL).K i=z.K i∧(zJ z B x p q g PP ℓ fa pp JL).P i=z.P i:=fun JL i a b=> ⟨by
  show upd (upd (if((zD z B x p q PP).wd p).par=0 then _ else upd _ ((zD z B x p q PP).wd p).par _) p []) g JL i=_
  rw[af _ _ b,af _ _ a,dpar,if_neg (by lia),af _ _ b]
  exact af _ _ a,PPo i a b⟩
 have Sin:∀JL,∀i∈(zJ z B x p q g PP ℓ fa pp JL).S,i∈z.S:=fun JL i hi=> (List.mem_filter.mp (List.mem_filter.mp (List.mem_filter.mp hi).1).1).1
 have rt:∀JL,(zJ z B x p q g PP ℓ fa pp JL).root=z.root:=fun JL=>by
  show(if((zD z B x p q PP).wd p).par=0 then q else z.root)=_
  rw[dpar,if_neg (by lia)]
 have key:∃k',InvP (zJ z B x p q g PP ℓ fa pp (if(z.wd q).sort=(z.wd g).sort then spl p lq lg else spl p [q] lg)) k' star (n+1):=by
  by_cases hs:(z.wd q).sort=(z.wd g).sort
  ·rw[if_pos hs]
   rw[if_pos hs.symm] at PPg
   refine delM_inv D e ⟨zJ_wd D e B PP ℓ fa pp _,zD_bd D e B PP⟩ (zD_fra D hB hPL (Sin _) rfl rfl rfl rfl rfl rfl rfl) one hg pg hs (rt _) (fun i hi hx hp hq'=> ?_) (aj _ _ _) PPg (Ko _) (fun c hc hcq=> ?_) (fun c hc=> ?_)
   ·refine List.mem_filter.mpr ⟨List.mem_filter.mpr ⟨List.mem_filter.mpr ⟨hi,by simpa using hx⟩,by simpa using hp⟩,?_⟩
    have:i∉pp:=fun h=>hq' ((hpp i).mp h).1
    simpa using this
   ·rw[zJ_par D e]
    by_cases hj:c∈spl p lq lg
    ·rw[if_pos hj]
     rcases mem_spl.mp hj with⟨a,_⟩ |⟨_,a⟩
     ·exact(ng.kid c a).1.symm
     ·exact absurd a hc
    ·rw[if_neg hj,if_neg hcq]
   ·rw[zJ_par D e,if_pos (mem_spl.mpr (.inr ⟨pg,hc⟩))]
  ·rw[if_neg hs]
   rw[if_neg fun q'=>hs q'.symm] at PPg
   refine delU_inv D e ⟨zJ_wd D e B PP ℓ fa pp _,zD_bd D e B PP⟩ (zD_fra D hB hPL (Sin _) rfl rfl rfl rfl rfl rfl rfl) one hg pg hs (rt _) (fun i hi hx hp=> ?_) (aj _ _ _) PPg (Ko _) (fun c hcq=> ?_) ?_
   ·refine List.mem_filter.mpr ⟨List.mem_filter.mpr ⟨List.mem_filter.mpr ⟨hi,by simpa using hx⟩,by simpa using hp⟩,?_⟩
    have:i∉pp:=fun h=>hs ((hpp i).mp h).2
    simpa using this
   ·rw[zJ_par D e]
    by_cases hj:c∈spl p [q] lg
    ·rw[if_pos hj]
     rcases mem_spl.mp hj with⟨a,_⟩ |⟨_,a⟩
     ·exact(ng.kid c a).1.symm
     ·exact absurd (List.mem_singleton.mp a) hcq
    ·rw[if_neg hj,if_neg hcq]
   ·rw[zJ_par D e,if_pos (mem_spl.mpr (.inr ⟨pg,by simp⟩))]
 refine q1 key fun k' DD=> ?_
 have fs:=DD.fs
 generalize (if(z.wd q).sort=(z.wd g).sort then spl p lq lg else spl p [q] lg)=JL at *
 have l0:(zJ z B x p q g PP ℓ fa pp JL).loc (0,0)=ℓ (0,0):=by
  show upd ℓ (4,g) fa (0,0)=_
  exact af _ _ ((ne1 (by decide)))
 rw[←l0]
 refine set_places_spec (z:=zJ z B x p q g PP ℓ fa pp JL) (d:=d) hm DD.wk DD.nd' (by unfold LIM;lia) fun m3 wd' h3 on u_ c1 c2 c3=> ?_
 exact hΦ m3 _ _ h3 ⟨DD.only on,c1,c2,c3⟩ (fun s hs=> (af _ _ fun e=>by rw[e] at hs;simp at hs).trans (mx s hs)) (rt JL)
end
section
variable{μ μ':MH}{z:Z}{i:Int}{Φ:Pst}{Ψ:Exc}{d:Nat}{k:F}{star:Int}{n:Nat}
theorem Inv.selInv(I:Inv z k star n){x:Int}(hx:(x,[])∈nodes (fr z k)):Inv {z with sel:=x} k (z.bd x).num (n+1):=by
 have D:=I.p.mono (Nat.le_succ n)
 exact⟨⟨D.nd,fun e he=> (D.all e he).congr (D.all e he).S (D.all e he).L rfl rfl .rfl' (fun u_ u_=> .rfl') rfl (Int.le_refl _),D.rp,D.Sb,D.Lb,D.PL,hx,rfl,D.nums,D.numb,D.fs,D.gn,D.bn,D.deck⟩,I.lft,I.top,I.pl⟩
noncomputable def bufZ(z:Z)(x b:Int):Z:={z with bd:=upd z.bd x {z.bd x with buf:=b},bn:=z.bn+1,wd:=upd z.wd x {z.wd x with buf:=b}}
theorem Pl_buf{wd wd':Int→WD}(h:∀j,(wd' j).sort=(wd j).sort∧(wd' j).lft=(wd j).lft∧(wd' j).top=(wd j).top∧(wd' j).wid=(wd j).wid∧(wd' j).hei=(wd j).hei){k:F}:∀{s l t:Int},Pl wd s l t k→Pl wd' s l t k:=by
 induction k with
 |nil=>intro s l t _;trivial
 |node i k r h1 h2=>
  intro s l t p
  refine q6 p fun a b c e=> ?_
  refine q3 (h i) fun i1 i2 i3 i4 i5=> ?_
  exact⟨i2.trans a,i3.trans b,by rw[i1];exact h1 c,by rw[i4,i5];exact h2 e⟩
theorem Inv.bufInv(I:Inv z k star n){x b:Int}(hx:(x,[])∈nodes (fr z k))(hb:0≤b∧b≤10):Inv (bufZ z x b) k star (n+1):=by
 have D:=I.p
 have sw:∀j,((bufZ z x b).wd j).sort=(z.wd j).sort∧((bufZ z x b).wd j).par=(z.wd j).par∧((bufZ z x b).wd j).wid=(z.wd j).wid∧((bufZ z x b).wd j).hei=(z.wd j).hei∧((bufZ z x b).wd j).lft=(z.wd j).lft∧((bufZ z x b).wd j).top=(z.wd j).top:=fun j=>by
  show(upd z.wd x _ j).sort=_∧(upd z.wd x _ j).par=_∧(upd z.wd x _ j).wid=_∧(upd z.wd x _ j).hei=_∧(upd z.wd x _ j).lft=_∧(upd z.wd x _ j).top=_
  by_cases e:j=x
  ·rw[e];rw[aj];exact⟨rfl,rfl,rfl,rfl,rfl,rfl⟩
  ·rw[af _ _ e];exact⟨rfl,rfl,rfl,rfl,rfl,rfl⟩
 have sb:∀j,((bufZ z x b).bd j).kind=(z.bd j).kind∧((bufZ z x b).bd j).row=(z.bd j).row∧((bufZ z x b).bd j).col=(z.bd j).col∧((bufZ z x b).bd j).num=(z.bd j).num:=fun j=>by
  show(upd z.bd x _ j).kind=_∧(upd z.bd x _ j).row=_∧(upd z.bd x _ j).col=_∧(upd z.bd x _ j).num=_
  by_cases e:j=x
  ·rw[e];rw[aj];exact⟨rfl,rfl,rfl,rfl⟩
  ·rw[af _ _ e];exact⟨rfl,rfl,rfl,rfl⟩
 have ax:∀j a,axSz a ((bufZ z x b).wd j)=axSz a (z.wd j):=fun j a=>by unfold axSz;rw[(sw j).2.2.1,(sw j).2.2.2.1]
 have bm:BB n≤BB (n+1):=BB_mono (Nat.le_succ n)
 have fs:=D.fs
 have gn:=D.gn
 have bn:=D.bn
 refine⟨⟨D.nd,fun e he=> ?_,by show((bufZ z x b).wd z.root).par=0;rw[(sw _).2.1];exact D.rp,D.Sb,D.Lb,D.PL,D.sel,by show((bufZ z x b).bd z.sel).num=star;rw[(sb _).2.2.2];exact D.star,fun i j hi hj e=> ?_,fun i hi=> ?_,by lia,by show z.gn≤_;lia,by show z.bn+1≤_;lia,D.deck⟩,?_,?_,?_⟩
 ·have h:=D.all e he
  obtain⟨i,l⟩:=e
  dsimp only at h⊢
  refine⟨h.S,h.L,h.K,h.P,by rw[(sb i).1,(sw i).1];exact h.kind,by rw[(sw i).1];exact h.srt,fun e=> ?_,fun c hc=>by rw[(sw c).2.1,(sw c).1,(sw i).1];exact h.kid c hc,fun e=> ?_,fun e c hc=>by rw[(sw i).1,ax,ax];exact h.eq e c hc,?_⟩
  ·refine q2 (h.leaf e) fun r1 r2 r3=> ?_
   refine⟨by rw[(sb i).2.1,(sw i).2.2.1];exact r1,by rw[(sb i).2.2.1,(sw i).2.2.2.1];exact r2,?_⟩
   show(upd z.bd x _ i).buf=(upd z.wd x _ i).buf
   by_cases e:i=x
   ·rw[e];rw[aj,aj]
   ·rw[af _ _ e,af _ _ e];exact r3
  ·rw[(sw i).1,ax,h.sum e]
   congr 1
   exact List.map_congr_left fun c u_=> (ax c _).symm
  ·refine q4 h.bnd fun b1 b2 b3 b4 b5 b6=> ?_
   rw[(sw i).2.2.1,(sw i).2.2.2.1]
   have:0≤((bufZ z x b).wd i).buf∧((bufZ z x b).wd i).buf≤10:=by
    show 0≤(upd z.wd x _ i).buf∧(upd z.wd x _ i).buf≤10
    by_cases e:i=x
    ·rw[e];rw[aj];exact hb
    ·rw[af _ _ e];exact⟨b5,b6⟩
   exact⟨b1,by lia,b3,by lia,this.1,this.2⟩
 ·rw[(sb i).2.2.2,(sb j).2.2.2] at e;exact D.nums i j hi hj e
 ·rw[(sb i).2.2.2];have:=D.numb i hi;lia
 ·show((bufZ z x b).wd z.root).lft=0;rw[(sw _).2.2.2.2.1];exact I.lft
 ·show((bufZ z x b).wd z.root).top=0;rw[(sw _).2.2.2.2.2];exact I.top
 ·show Pl (bufZ z x b).wd ((bufZ z x b).wd z.root).sort 0 0 k
  rw[(sw _).1]
  exact Pl_buf (fun j=> ⟨(sw j).1,(sw j).2.2.2.2.1,(sw j).2.2.2.2.2,(sw j).2.2.1,(sw j).2.2.2.1⟩) I.pl
theorem R.sBufB(h:R μ z)(hi:i∈z.L)(hb:z.bn < 9999)(v:Int){Φ:MH→Prop}(k:∀m,R m {z with bd:=upd z.bd i {z.bd i with buf:=v},bn:=z.bn+1}→(∀x,x≠z.loc (6,i)→m x=μ x)→Φ m):∃m,setItemM μ (.ref (z.loc (6,i))) (.str (Str.ofString "buffer")) (.int v)=some m∧Φ m:=by
 refine q18 (h.box i hi) fun f n e hn hf=> ?_
 refine⟨_,(setItem_of e).trans (if_pos (by lia)),k _ ?_ fun x hx=>af _ _ hx⟩
 refine h.setB hi (by lia) (by lia) ?_
 refine⟨?_,?_,fun q=> ?_,fun q=> ?_,fun q=> ?_,fun q=> ?_⟩
 ·rw[af _ _ ((by decide))];exact hf.sort
 ·rw[af _ _ ((by decide))];exact hf.parts
 ·rw[af _ _ ((by decide))];exact hf.row q
 ·rw[af _ _ ((by decide))];exact hf.col q
 ·rw[aj]
 ·rw[af _ _ ((by decide))];exact hf.num q
end
section
variable{μ μ':MH}{z:Z}{i:Int}{Φ:Pst}{Ψ:Exc}{d:Nat}{k:F}{star:Int}{n:Nat}
theorem zL_eq(D:InvP z k star n){x p q:Int}{l:List Int}(hx:(x,[])∈nodes (fr z k))(hp:(p,l)∈nodes (fr z k))(B:Nat)(PP:Int→List Int):lgZ z B q (axOf (z.bd p).kind) (axSz (axOf (z.bd p).kind) (z.wd q)+axB (axOf (z.bd p).kind) (z.bd x)) PP=zL z B x p q PP:=by
 have np:=D.all _ hp
 dsimp only at np
 rw[np.kind,D.axv hx];rfl
theorem other_tail{ρ:ao}{w:Int}{nth:Nat}(I:Inv z k star n)(n7:n≤7)(h:R μ z)(hnth:nth < (lvs (fr z k)).length)(hw:0≤w∧w < 4)
  (r1:ρ "tree"=some (.ref (z.loc (0,0)))) (r2:ρ "nth"=some (.int nth)) (r3:ρ "deck"=some (.ref (z.loc (2,0)))) (r4:ρ "way"=some (.int w)) (r5:ρ "starred"=some (.int star)) (r6:ρ "root"=some (.ref (z.loc (6,z.root))))
  (hΦ:∀m a z' k' star',R m z'→Inv z' k' star' (n+1)→z'.loc (0,0)=z.loc (0,0)→z'.loc (2,0)=z.loc (2,0)→m a=some (.tuple [.ref (z'.loc (6,z'.root)), .int star'])→Φ (.ref a) m):
  aA (az tab (d+23)) (aJ 1 c9.body) ρ μ (bf Φ) Ψ:=by
 have D:=I.p
 have fs:=D.fs
 have hlen:(lw [] z.root k).length=(lvs (.node z.root k .nil)).length:=by rw[←lw_fst];simp
 obtain⟨⟨x,way⟩,hlw⟩:∃e,(lw [] z.root k)[nth]? =some e:=⟨_,List.getElem?_eq_getElem (show nth < _ by rw[hlen];exact hnth)⟩
 have hxl:(lvs (fr z k))[nth]? =some x:=by rw[←lw_fst,List.getElem?_map,hlw];rfl
 refine q2 (lw_path (List.mem_of_getElem? hlw)) fun pth hx wl=> ?_
 dsimp only at pth hx wl
 have nx:=D.all _ hx
 dsimp only at nx
 refine q0 (D.leaf0 hx) fun x0 xk=> ?_
 have ll:=lvs_le (.node z.root k .nil)
 simp only[av] at ll
 have lk:=D.lk (by lia)
 have hbn:=D.bn
 have fin:∀(ρ':ao) m z' k' star',ρ' "root"=some (.ref (z'.loc (6,z'.root)))→ρ' "starred"=some (.int star')→R m z'→Inv z' k' star' (n+1)→z'.loc (0,0)=z.loc (0,0)→z'.loc (2,0)=z.loc (2,0)→aA (az tab (d+23)) (aJ 3 c9.body) ρ' m (bf Φ) Ψ:=fun ρ' m z' k' star' q1 q2 hR hI l0 l2=>by
  show aA _ (.cons (.ret (.tuple (.cons (.var "root") (.cons (.var "starred") .nil)))) .nil) _ _ _ _
  simp[↓exe q1,↓exe q2]
  exact⟨by simp[LIM],fun a ha=>hΦ _ a z' k' star' (hR.ext ((Ext.refl m).new ha _)) hI l0 l2 (aj _ _ _)⟩
 show aA _ (.cons (.multi [(.name "own"),(.name "number")] (.cons (.item (.item (.call (.glob "_law_leaves" (.ref 341)) (.cons (.var "root") .nil)) (.var "nth")) (.cst (.int 0))) (.cons (.item (.call (.glob "leaves" (.ref 196)) (.cons (.var "tree") .nil)) (.var "nth")) .nil))) (aJ 2 c9.body)) _ _ _ _
 simp[↓exe r6]
 refine law_leaves_spec (d:=d+22) h lk (by lia) fun m1 fa as e1 hfa hF=> ?_
 refine q18 (hF.get hlw) fun a w1 ga gt u_=> ?_
 have it:itemOf m1 (.ref fa) (.int nth)=some (.ref a):=item_list hfa (by rw[List.getElem?_map,ga];rfl) (by rw[List.length_map,hF.len];unfold LIM;lia)
 have h1:=h.ext e1
 simp[↓exe r1,↓exe r2,↓exe it,↓exe (tup0 gt)]
 refine leaves_spec (d:=d+21) h1 D.wk (by simp only[av,LIM];lia) fun m2 b e2 u_ hl=> ?_
 have it2:itemOf m2 (.ref b) (.int nth)=some (.int x):=item_list hl (by rw[List.getElem?_map,hxl];rfl) (by rw[List.length_map];unfold LIM;lia)
 have h2:=h1.ext e2
 simp[↓exe r2,↓exe it2]
 generalize hρ:upd (upd ρ "own" (some (.ref (z.loc (6,x))))) "number" (some (.int x))=ρ1
 have s1:ρ1 "tree"=some (.ref (z.loc (0,0))):=by rw[←hρ];exact r1
 have s2:ρ1 "nth"=some (.int nth):=by rw[←hρ];exact r2
 have s3:ρ1 "deck"=some (.ref (z.loc (2,0))):=by rw[←hρ];exact r3
 have s4:ρ1 "way"=some (.int w):=by rw[←hρ];exact r4
 have s5:ρ1 "starred"=some (.int star):=by rw[←hρ];exact r5
 have s6:ρ1 "root"=some (.ref (z.loc (6,z.root))):=by rw[←hρ];exact r6
 have s7:ρ1 "own"=some (.ref (z.loc (6,x))):=by rw[←hρ];rfl
 have s8:ρ1 "number"=some (.int x):=by rw[←hρ];rfl
 clear hρ
 show aA _ (.cons (.ite (.cmp .lt (.var "way") (.cst (.int 2))) (.cons (.assign (.name "due") (.call (.glob "_law_gone" (.ref 386)) (.cons (.var "root") (.cons (.var "nth") (.cons (.var "starred") .nil))))) (.cons (.ite (.isNone false (.var "due")) (.cons (.expr (.call (.glob "delete_window" (.ref 327)) (.cons (.var "tree") (.cons (.var "number") .nil)))) (.cons (.ret (.tuple (.cons (.var "due") (.cons (.var "starred") .nil)))) .nil)) .nil) .nil)) (.cons (.ite (.cmp .eq (.var "way") (.cst (.int 2))) (.cons (.expr (.meth 164 147 (.var "tree") "select" (.cons (.var "number") .nil))) (.cons (.ret (.tuple (.cons (.var "root") (.cons (.item (.var "own") (.cst (.str (Str.ofString "number")))) .nil)))) .nil)) (.cons (.assign (.item (.var "own") (.cst (.str (Str.ofString "buffer")))) (.bin .add (.cst (.int 1)) (.call (.glob "_law_draw" (.ref 334)) (.cons (.var "deck") (.cons (.cst (.int 4)) .nil))))) (.cons (.expr (.meth 93 90 (.meth 164 133 (.var "tree") "leaf" (.cons (.var "number") .nil)) "show" (.cons (.tuple (.cons (.item (.var "own") (.cst (.str (Str.ofString "buffer")))) (.cons (.cst (.int 1)) (.cons (.cst (.int 1)) (.cons (.cst (.int 0)) .nil))))) .nil))) .nil))) .nil)) (aJ 3 c9.body)) _ _ _ _
 simp[↓exe s4]
 by_cases w2:w < 2
 ·rw[kE_iteS_p w2]
  simp[↓exe s2,↓exe s5,↓exe s6]
  have del:∀m (v:Addr),(∀Φ':Pst,(∀m' z' k',R m' z'→Inv z' k' star (n+1)→MovX z.loc z'.loc→z'.loc (6,z'.root)=v→Φ' .none m')→az tab (d+23) 327 [.ref (z.loc (0,0)), .int x] m Φ' Ψ)→
    aA (az tab (d+23)) (.cons (.ite (.isNone false (.var "due")) (.cons (.expr (.call (.glob "delete_window" (.ref 327)) (.cons (.var "tree") (.cons (.var "number") .nil)))) (.cons (.ret (.tuple (.cons (.var "due") (.cons (.var "starred") .nil)))) .nil)) .nil) .nil) (upd ρ1 "due" (some (.ref v))) m (kS_seq (az tab (d+23)) (aJ 3 c9.body) (bf Φ) Ψ) Ψ:=fun m v hd=>by
   have q1:upd ρ1 "due" (some (.ref v)) "tree"=some (.ref (z.loc (0,0))):=s1
   have q2:upd ρ1 "due" (some (.ref v)) "number"=some (.int x):=s8
   have q3:upd ρ1 "due" (some (.ref v)) "starred"=some (.int star):=s5
   have q4:upd ρ1 "due" (some (.ref v)) "due"=some (.ref v):=rfl
   generalize upd ρ1 "due" (some (.ref v))=ρ2 at *
   simp[none_n,none_i,none_r,↓exe q1,↓exe q2,↓exe q4]
   refine hd _ fun m' z' k' hR hI mx hv=> ?_
   simp[↓exe q3,↓exe q4]
   refine⟨by decide,fun a ha=> ?_⟩
   refine hΦ _ a z' k' star (hR.ext ((Ext.refl m').new ha _)) hI (mx _ (by simp)) (mx _ (by simp)) ?_
   rw[aj,hv]
  have none_:∀m,R m z→aA (az tab (d+23)) (.cons (.ite (.isNone false (.var "due")) (.cons (.expr (.call (.glob "delete_window" (.ref 327)) (.cons (.var "tree") (.cons (.var "number") .nil)))) (.cons (.ret (.tuple (.cons (.var "due") (.cons (.var "starred") .nil)))) .nil)) .nil) .nil) (upd ρ1 "due" (some .none)) m (kS_seq (az tab (d+23)) (aJ 3 c9.body) (bf Φ) Ψ) Ψ:=fun m hR=>by
   have q3:upd ρ1 "due" (some .none) "starred"=some (.int star):=s5
   have q5:upd ρ1 "due" (some .none) "root"=some (.ref (z.loc (6,z.root))):=s6
   have q4:upd ρ1 "due" (some .none) "due"=some .none:=rfl
   generalize upd ρ1 "due" (some .none)=ρ2 at *
   simp[none_n,none_i,none_r,↓exe q4]
   exact fin ρ2 m z k star q5 q3 hR ⟨D.mono (by lia),I.lft,I.top,I.pl⟩ rfl rfl
  by_cases w0:way= []
  ·subst w0
   refine law_gone_spec (d:=d+21) (sz:=fun u_=>0) h2 lk (by lia) hlw (by rw[hlen];lia) nx.L xk (by simp) (by lia) (fun w' p n e=>by simp at e) (fun m e=> ?_) (fun m B w' p n e=>by simp at e) (fun m B p n e=>by simp at e) (fun m B w'' g u p n e=>by simp at e)
   exact none_ m (h2.ext e)
  ·refine q9 (snoc_of w0) fun w' p nn rf3=> ?_
   subst rf3
   refine q19 pth.inv fun l pw hp hnn=> ?_
   have np:=D.all _ hp
   dsimp only at np
   have eP:=np.P
   refine law_gone_spec (d:=d+21) (sz:=fun j=>axSz (axOf (z.bd p).kind) (z.wd j)) h2 lk (by lia) hlw (by rw[hlen];lia) nx.L xk (by lia) (by lia) (fun w1 p1 n1 e=> ?_) (fun m e=> ?_) (fun m B w1 p1 n1 e hst h3 hcs hB hm=> ?_) (fun m B p1 n1 e hst h3 hcs hB hm=> ?_) (fun m B w1 g u p1 n1 e hst h3 hcs hB hm=> ?_)
   ·refine q0 (List.append_inj' e rfl) fun rf0 e=> ?_
    subst rf0
    simp at e
    refine q0 e fun rf0 rf1=> ?_
    subst rf0
    subst rf1
    exact D.gone (l:=l) (d:=d+21) (by lia) (by lia) hx pth
   ·exact none_ m (h2.ext e)
   ·refine q0 (List.append_inj' e rfl) fun rf0 e=> ?_
    replace rf0:=rf0.symm;subst rf0
    simp at e
    refine q0 e fun rf0 rf1=> ?_
    subst rf0
    replace rf1:=rf1.symm;subst rf1
    rw[eP] at hcs h3
    refine q23 (D.del hx hp hnn hst hcs) fun lq E u_ u_ u_=> ?_
    rw[zL_eq D hx hp,eP] at hm
    refine del m _ fun Φ' hΦ'=>winDelK (d:=d+20) I (by lia) E hnn rfl h3 hB (by rw[eP];exact hm) fun m' z' k' hR hI mx hr=>hΦ' m' z' k' hR hI mx ?_
    rw[hr];exact mx _ (by simp)
   ·have e':([]:Way)++ [(p1,n1)]=w'++ [(p,nn)]:=e.symm
    refine q0 (List.append_inj' e' rfl) fun rf0 e=> ?_
    subst rf0
    simp at e
    refine q0 e fun rf0 rf1=> ?_
    subst rf0
    subst rf1
    rw[eP] at hcs h3
    refine q23 (D.del hx hp hnn hst hcs) fun lq E u_ u_ u_=> ?_
    rw[zL_eq D hx hp,eP] at hm
    rw[eP]
    refine del m _ fun Φ' hΦ'=>winDelR (d:=d+20) I (by lia) E hnn rfl h3 pw.inv0 hB (by rw[eP];exact hm) fun m' z' k' hR hI mx hr=>hΦ' m' z' k' hR hI mx ?_
    rw[hr];exact mx _ (by simp)
   ·refine q0 (List.append_inj' e rfl) fun rf0 e=> ?_
    subst rf0
    simp at e
    refine q0 e fun rf0 rf1=> ?_
    subst rf0
    subst rf1
    refine q19 pw.inv fun lg pg hg hu=> ?_
    rw[eP] at hcs h3
    refine q23 (D.del hx hp hnn hst hcs) fun lq E u_ u_ u_=> ?_
    rw[zL_eq D hx hp,eP] at hm
    refine del m _ fun Φ' hΦ'=>winDelUM (d:=d+20) I (by lia) E hnn rfl h3 hg hu hB (by rw[eP];exact hm) fun m' z' k' hR hI mx hr=>hΦ' m' z' k' hR hI mx ?_
    rw[hr];exact mx _ (by simp)
 ·rw[kE_iteS_n w2]
  simp[↓exe s4]
  by_cases w3:w=2
  ·rw[kE_iteS_p w3]
   simp[↓exe s1,↓exe s8,↓h2.kT fun f hf=>hf.m5]
   refine select_spec (d:=d+20) h2 nx.S x0 fun m3 h3 u_=> ?_
   simp[↓exe s6,↓exe s7,↓exe (h3.bNum (i:=x) nx.L xk)]
   exact⟨by simp[LIM],fun a ha=>hΦ _ a {z with sel:=x} k (z.bd x).num (h3.ext ((Ext.refl m3).new ha _)) (I.selInv hx) rfl rfl (aj _ _ _)⟩
  ·rw[kE_iteS_n w3]
   simp[↓exe s3]
   have hd:=D.deck
   refine draw_spec2 (d:=d+22) h2 (by lia) (by lia) (by unfold LIM;lia) fun v m4 d4 v0 v4 rl4 h4 u_=> ?_
   simp[↓exe s7]
   refine h4.sBufB (i:=x) nx.L (by dsimp only;lia) (1+v) fun m5 h5 u_=> ?_
   dsimp only at h5
   simp[↓exe s1,↓exe s8]
   have mt:=fun X=>h5.mT' (X:=X) (n:="leaf") fun f hf=>hf.m3
   dsimp only at mt
   rw[mt]
   refine leaf_spec (z:={z with deck:=d4,bd:=upd z.bd x {z.bd x with buf:=1+v},bn:=z.bn+1}) (d:=d+21) h5 nx.S x0 ?_
   simp
   have mw:=fun X=>h5.mW' (X:=X) (i:=x) nx.S (n:="show") fun f hf=>hf.m4
   dsimp only at mw⊢
   rw[mw]
   have bb:=h5.bBuf (i:=x) nx.L (by show(upd z.bd x _ x).kind=0;rw[aj];exact xk)
   dsimp only at bb
   rw[aj] at bb
   simp[↓exe s7,↓exe bb]
   refine⟨by simp[LIM],fun ta hta=> ?_⟩
   have e6:=(Ext.refl m5).new hta (some (.tuple [.int (1+v), .int 1, .int 1, .int 0]))
   have t6:upd m5 ta (some (.tuple [.int (1+v), .int 1, .int 1, .int 0])) ta=some (.tuple [.int (1+v), .int 1, .int 1, .int 0]):=aj _ _ _
   refine show_spec (z:={z with deck:=d4,bd:=upd z.bd x {z.bd x with buf:=1+v},bn:=z.bn+1}) (d:=d+22) (b:=1+v) (h5.ext e6) nx.S (tuple_ref t6) fun m7 h7 u_=> ?_
   exact fin ρ1 m7 {bufZ z x (1+v) with deck:=d4} k star s6 s5 h7 ((I.bufInv hx (by lia)).deck_ (by lia)) rfl rfl
theorem other_spec{w:Int}(I:Inv z k star n)(n7:n≤7)(h:R μ z)(hw:0≤w∧w < 4)
  (hΦ:∀m a z' k' star',R m z'→Inv z' k' star' (n+1)→z'.loc (0,0)=z.loc (0,0)→z'.loc (2,0)=z.loc (2,0)→m a=some (.tuple [.ref (z'.loc (6,z'.root)), .int star'])→Φ (.ref a) m):
  az tab (d+24) 400 [.ref (z.loc (0,0)), .ref (z.loc (6,z.root)), .ref (z.loc (2,0)), .int w, .int star] μ Φ Ψ:=by
 refine call_of (fn:=c9) rfl rfl ?_
 have g1:bindM c9.params [.ref (z.loc (0,0)), .ref (z.loc (6,z.root)), .ref (z.loc (2,0)), .int w, .int star] "tree"=some (.ref (z.loc (0,0))):=rfl
 have g2:bindM c9.params [.ref (z.loc (0,0)), .ref (z.loc (6,z.root)), .ref (z.loc (2,0)), .int w, .int star] "root"=some (.ref (z.loc (6,z.root))):=rfl
 have g3:bindM c9.params [.ref (z.loc (0,0)), .ref (z.loc (6,z.root)), .ref (z.loc (2,0)), .int w, .int star] "deck"=some (.ref (z.loc (2,0))):=rfl
 have g4:bindM c9.params [.ref (z.loc (0,0)), .ref (z.loc (6,z.root)), .ref (z.loc (2,0)), .int w, .int star] "way"=some (.int w):=rfl
 have g5:bindM c9.params [.ref (z.loc (0,0)), .ref (z.loc (6,z.root)), .ref (z.loc (2,0)), .int w, .int star] "starred"=some (.int star):=rfl
 generalize bindM c9.params [.ref (z.loc (0,0)), .ref (z.loc (6,z.root)), .ref (z.loc (2,0)), .int w, .int star]=ρ0 at *
 have D:=I.p
 have fs:=D.fs
 have ll:=lvs_le (.node z.root k .nil)
 have lp:=lvs_pos z.root k
 simp only[av] at ll
 have hd:=D.deck
 show aA _ (.cons (.assign (.name "nth") (.call (.glob "_law_draw" (.ref 334)) (.cons (.var "deck") (.cons (.len (.call (.glob "leaves" (.ref 196)) (.cons (.var "tree") .nil))) .nil)))) (aJ 1 c9.body)) _ _ _ _
 simp[↓exe g1,↓exe g3]
 refine leaves_spec (d:=d+21) h D.wk (by simp only[av,LIM];lia) fun m0 a he u_ hl=> ?_
 simp[↓exf (aE hl)]
 refine⟨by unfold LIM;lia,?_⟩
 refine draw_spec2 (d:=d+22) (h.ext he) (by lia) (by lia) (by unfold LIM;lia) fun nth m1 d1 v0 v1 rl1 h1 u_=> ?_
 have k1:nth.toNat < (lvs (fr z k)).length:=by show nth.toNat < (lvs (.node z.root k .nil)).length;lia
 have k2:(nth.toNat:Int)=nth:=by lia
 exact other_tail (d:=d) (w:=w) (nth:=nth.toNat) (I.deck_ (r:=d1) (by lia)) n7 h1 k1 hw g1 (by simp[k2]) g3 g4 g5 g2 hΦ
end
end
section
open PySem PyProof.Rows
theorem Pl_bnd{wd:Int→WD}{k:F}:∀{s l t:Int},(∀j∈ids k,0≤(wd j).wid∧(wd j).wid≤25600∧0≤(wd j).hei∧(wd j).hei≤25600)→Pl wd s l t k→0≤l→0≤t→∀j∈ids k,0≤(wd j).lft∧(wd j).lft≤l+25600 * av k∧0≤(wd j).top∧(wd j).top≤t+25600 * av k:=by
 induction k with
 |nil=>intro s l t _ _ _ _ j hj;cases hj
 |node i k r h1 h2=>
  intro s l t hw p l0 t0 j hj
  refine q6 p fun a b c e=> ?_
  have wi:=hw i (.head _)
  simp only[ids,List.mem_cons,List.mem_append] at hw hj
  have w1:=h1 (fun j hj=>hw j (.inr (.inl hj))) c l0 t0
  have w2:=h2 (fun j hj=>hw j (.inr (.inr hj))) e (by split <;> lia) (by split <;> lia)
  simp only[av]
  rcases hj with rfl |hj |hj
  ·push_cast;lia
  ·have:=w1 j hj;push_cast;lia
  ·have:=w2 j hj;split at this <;> (push_cast;lia)
theorem sm{i:Int}(h:0≤i)(h':i < 1000000000):small i=true:=by unfold small;exact decide_eq_true ⟨by lia,h'⟩
section
variable{μ μ':MH}{z:Z}{i:Int}{Φ:Pst}{Ψ:Exc}{d:Nat}{k:F}{star:Int}{n:Nat}
theorem Inv.sml(I:Inv z k star n)(n8:n≤8):∀j∈z.root::ids k,Sml (z.wd j):=by
 have D:=I.p
 have fs:=D.fs
 have bb:=BB_le n8
 have nb:∀j∈z.root::ids k,0≤(z.wd j).wid∧(z.wd j).wid≤BB n∧0≤(z.wd j).hei∧(z.wd j).hei≤BB n∧0≤(z.wd j).buf∧(z.wd j).buf≤10:=fun j hj=>by
  have:j∈ids (fr z k):=by simpa[ids] using hj
  refine q1 (ids_nodes this) fun l hl=> ?_
  exact(D.all _ hl).bnd
 have pb:=Pl_bnd (fun j hj=>by have:=nb j (.tail _ hj);exact⟨this.1,by lia,this.2.2.1,by lia⟩) I.pl (Int.le_refl _) (Int.le_refl _)
 intro j hj
 have lt:0≤(z.wd j).lft∧(z.wd j).lft≤1000000∧0≤(z.wd j).top∧(z.wd j).top≤1000000:=by
  rcases List.mem_cons.mp hj with rfl |h
  ·rw[I.lft,I.top];lia
  ·have:=pb j h;lia
 have:=nb j hj
 exact⟨sm (by lia) (by lia),sm (by lia) (by lia),sm (by lia) (by lia),sm (by lia) (by lia),sm (by lia) (by lia)⟩
theorem Inv.ln(I:Inv z k star n)(n8:n≤8):∀e∈nodes (fr z k),LN z star e.1 e.2:=by
 rintro ⟨i,l⟩ he
 have D:=I.p
 have a:=D.all _ he
 dsimp only at a⊢
 refine⟨a.kind,fun k0=> ?_,I.sml n8 i (by simpa[ids] using(bA he).1),by simpa[axSz] using a.ls (a:=0) (.inl rfl),by simpa[axSz] using a.ls (a:=1) (.inr rfl)⟩
 have l0:l= []:=D.leafOf he k0
 subst l0
 refine⟨(a.leaf rfl).2.2,?_⟩
 rw[←D.star]
 exact⟨fun q=>D.nums _ _ he D.sel q,fun q=>by rw[q]⟩
theorem lap_check{ρ:ao}{T:FPst}(I:Inv z k star n)(n8:n≤8)(h:R μ z)(r1:ρ "tree"=some (.ref (z.loc (0,0))))(r2:ρ "root"=some (.ref (z.loc (6,z.root))))(r5:ρ "starred"=some (.int star))(hT:∀m,R m z→T .next ρ m):
  evS (az tab (d+30)) (.ite (.boolop false (.isNone true (.var "root")) (.cmp .ne (.call (.glob "layout_text" (.ref 224)) (.cons (.var "tree") .nil)) (.bin .add (.bm .join (.cst (.str (Str.ofString "\n"))) (.cons (.call (.glob "_law_lines" (.ref 367)) (.cons (.var "root") (.cons (.cst (.int 0)) (.cons (.cst (.int 0)) (.cons (.cst (.int 0)) (.cons (.var "starred") .nil)))))) .nil)) (.cst (.str (Str.ofString "\n")))))) (.cons (.ret (.cst (.bool false))) .nil) .nil) ρ μ T Ψ:=by
 have D:=I.p
 have fs:=D.fs
 have sml:=I.sml n8
 rw[ev_ite]
 simp[↓exe r1,↓exe r2,none_n,none_i,none_r]
 refine layout_spec (d:=d+29) h D.wk sml (by lia) fun m e1=> ?_
 simp[↓exe r2,↓exe r5,ok_join]
 refine law_lines_spec (d+29) z.root k 0 0 0 m _ _ (h.ext e1) (D.lk (by lia)) (I.ln n8) (by lia) (by lia) (by lia) I.lft I.top I.pl fun m2 a e2 q=> ?_
 simp
 have ll:=lns_len z.wd z.sel 0 (.node z.root k .nil)
 have lj:=join_le (lns_le (wd:=z.wd) (sel:=z.sel) (dp:=0) (k:= .node z.root k .nil) (by simpa[ids] using sml) (by simp only[av];push_cast;lia)) (by rw[ll];simp only[av];lia)
 rw[p_join]
 refine⟨_,_,aE q,strsOf_map _,by rw[List.length_map,ll];simp only[av,LIM];lia,by lia,by decide,?_⟩
 simp
 refine kadd lj.1 (Nat.le_of_eq one_len.2.2.2.2.2.1) (by decide) fun s e u_=> ?_
 rw[e]
 simp
 exact hT m2 ((h.ext e1).ext e2)
end
end
section
open PySem
noncomputable def lapC:MS:= .ite (.boolop false (.isNone true (.var "root")) (.cmp .ne (.call (.glob "layout_text" (.ref 224)) (.cons (.var "tree") .nil)) (.bin .add (.bm .join (.cst (.str (Str.ofString "\n"))) (.cons (.call (.glob "_law_lines" (.ref 367)) (.cons (.var "root") (.cons (.cst (.int 0)) (.cons (.cst (.int 0)) (.cons (.cst (.int 0)) (.cons (.var "starred") .nil)))))) .nil)) (.cst (.str (Str.ofString "\n")))))) (.cons (.ret (.cst (.bool false))) .nil) .nil
noncomputable def lapB:MSs:= .cons (.assign (.name "way") (.call (.glob "_law_draw" (.ref 334)) (.cons (.var "deck") (.cons (.cst (.int 8)) .nil)))) (.cons (.ite (.cmp .lt (.var "way") (.cst (.int 4))) (.cons (.assign (.name "root") (.call (.glob "_law_is_split" (.ref 393)) (.cons (.var "tree") (.cons (.var "root") (.cons (.var "deck") (.cons (.bin .add (.var "lap") (.cst (.int 1))) .nil)))))) .nil) (.cons (.unpack [(.name "root"),(.name "starred")] (.call (.glob "_law_other" (.ref 400)) (.cons (.var "tree") (.cons (.var "root") (.cons (.var "deck") (.cons (.bin .sub (.var "way") (.cst (.int 4))) (.cons (.var "starred") .nil))))))) .nil)) (.cons lapC .nil))
theorem lap_loop{T:FPst}:∀(c j:Nat) (z:Z) (k:F) (star:Int) (ρ:ao) (μ:MH),j+c≤8→Inv z k star j→R μ z→ρ "tree"=some (.ref (z.loc (0,0)))→ρ "root"=some (.ref (z.loc (6,z.root)))→ρ "deck"=some (.ref (z.loc (2,0)))→ρ "starred"=some (.int star)→(∀ρ m,T .next ρ m)→frL (az tab 40) "lap" lapB T (ap j 1 c) ρ μ:=by
 intro c
 induction c with
 |zero=>
  intro j z k star ρ μ hc I h r1 r2 r3 r4 hT
  show frL _ _ _ _ [] _ _
  rw[frL_nil];exact hT ρ μ
 |succ c ih=>
  intro j z k star ρ μ hc I h r1 r2 r3 r4 hT
  have ej:ap ((j:Int)+1) 1 c=ap ((j+1:Nat):Int) 1 c:=by rw[Int.natCast_add];rfl
  show frL _ _ _ _ ((j:Int)::ap ((j:Int)+1) 1 c) _ _
  rw[frL_cons,ej]
  have q1:upd ρ "lap" (some (.int j)) "tree"=some (.ref (z.loc (0,0))):=r1
  have q2:upd ρ "lap" (some (.int j)) "root"=some (.ref (z.loc (6,z.root))):=r2
  have q3:upd ρ "lap" (some (.int j)) "deck"=some (.ref (z.loc (2,0))):=r3
  have q4:upd ρ "lap" (some (.int j)) "starred"=some (.int star):=r4
  have q5:upd ρ "lap" (some (.int j)) "lap"=some (.int j):=rfl
  generalize upd ρ "lap" (some (.int j))=ρ0 at *
  have chk:∀(ρ':ao) m z' k' star',ρ' "tree"=some (.ref (z'.loc (0,0)))→ρ' "root"=some (.ref (z'.loc (6,z'.root)))→ρ' "deck"=some (.ref (z'.loc (2,0)))→ρ' "starred"=some (.int star')→R m z'→Inv z' k' star' (j+1)→aA (az tab 40) (.cons lapC .nil) ρ' m (kS_fr (az tab 40) "lap" lapB T (ap ((j+1:Nat):Int) 1 c)) (fun u_=>False):=fun ρ' m z' k' star' p1 p2 p3 p4 hR hI=>by
   rw[ev_cons]
   refine lap_check (d:=10) hI (by lia) hR p1 p2 p4 fun m' hR'=> ?_
   exact ih (j+1) z' k' star' ρ' m' (by lia) hI hR' p1 p2 p3 p4 hT
  show aA _ (.cons (.assign (.name "way") (.call (.glob "_law_draw" (.ref 334)) (.cons (.var "deck") (.cons (.cst (.int 8)) .nil)))) (.cons (.ite (.cmp .lt (.var "way") (.cst (.int 4))) (.cons (.assign (.name "root") (.call (.glob "_law_is_split" (.ref 393)) (.cons (.var "tree") (.cons (.var "root") (.cons (.var "deck") (.cons (.bin .add (.var "lap") (.cst (.int 1))) .nil)))))) .nil) (.cons (.unpack [(.name "root"),(.name "starred")] (.call (.glob "_law_other" (.ref 400)) (.cons (.var "tree") (.cons (.var "root") (.cons (.var "deck") (.cons (.bin .sub (.var "way") (.cst (.int 4))) (.cons (.var "starred") .nil))))))) .nil)) (.cons lapC .nil))) _ _ _ _
  simp[↓exe q3]
  have hd:=I.p.deck
  refine draw_spec2 (d:=39) h (by lia) (by lia) (by unfold LIM;lia) fun w m1 d1 w0 w8 rl h1 u_=> ?_
  have I1:=I.deck_ (r:=d1) (by lia)
  simp
  have t1:upd ρ0 "way" (some (.int w)) "tree"=some (.ref (z.loc (0,0))):=q1
  have t2:upd ρ0 "way" (some (.int w)) "root"=some (.ref (z.loc (6,z.root))):=q2
  have t3:upd ρ0 "way" (some (.int w)) "deck"=some (.ref (z.loc (2,0))):=q3
  have t4:upd ρ0 "way" (some (.int w)) "starred"=some (.int star):=q4
  have t5:upd ρ0 "way" (some (.int w)) "lap"=some (.int j):=q5
  have t6:upd ρ0 "way" (some (.int w)) "way"=some (.int w):=rfl
  generalize upd ρ0 "way" (some (.int w))=ρ1 at *
  by_cases w4:w < 4
  ·rw[kE_iteS_p w4]
   simp[↓exe t1,↓exe t2,↓exe t3,↓exe t5]
   refine is_split_spec (z:={z with deck:=d1}) (d:=34) I1 (by lia) h1 fun m2 z' k' hR hI l0 l2=> ?_
   exact chk (upd ρ1 "root" (some (.ref (z'.loc (6,z'.root))))) m2 z' k' star (by rw[l0];simpa using t1) rfl (by rw[l2];simpa using t3) t4 hR hI
  ·rw[kE_iteS_n w4]
   simp[↓exe t1,↓exe t2,↓exe t3,↓exe t4,↓exe t6]
   refine other_spec (z:={z with deck:=d1}) (w:=w - 4) (d:=16) I1 (by lia) h1 (by lia) fun m2 a z' k' star' hR hI l0 l2 hm=> ?_
   refine⟨_,tuple_ref hm,rfl,?_⟩
   exact chk (upd (upd ρ1 "root" (some (.ref (z'.loc (6,z'.root))))) "starred" (some (.int star'))) m2 z' k' star' (by rw[l0];simpa using t1) rfl (by rw[l2];simpa using t3) rfl hR hI
theorem start_inv{t tb D a b c:Addr}{w g:Int}{r:List Int}{ℓ:Slot→Addr}(hw:0≤w∧w≤100)(hg:0≤g∧g≤100)(hr:r.length≤63):Inv (addB (z0 t tb D a b c w g r) ℓ 1 ⟨0,w,g,1,0⟩ []) .nil 0 0:=by
 have one:∀{i:Int} {l:List Int},(i,l)∈nodes (fr (addB (z0 t tb D a b c w g r) ℓ 1 ⟨0,w,g,1,0⟩ []) .nil)→i=1∧l= []:=fun{i l} h=>by
  have h':(i,l)∈[((1:Int),([]:List Int))]:=h
  exact Prod.mk.inj (List.mem_singleton.mp h')
 refine⟨⟨?_,?_,rfl,fun i hi=> ?_,fun i hi=> ?_,fun i hi j hj=> ?_, .head _,rfl,fun i j hi hj u_=> (one hi).1.trans (one hj).1.symm,fun i hi=> ?_,Nat.le_refl _,Nat.le_refl 1,by show 0+6≤_;lia,hr⟩,rfl,rfl,trivial⟩
 ·show([1]:List Int).Nodup
  simp
 ·rintro ⟨i,l⟩ he
  refine q0 (one he) fun rf0 rf1=> ?_
  subst rf0
  subst rf1
  have bb:BB 0=100:=rfl
  refine⟨.head _, .head _,rfl,rfl,rfl, .inl ⟨rfl,rfl⟩,fun u_=> ⟨rfl,rfl,rfl⟩,(fun c hc=>nomatch hc),(fun e=>absurd rfl e),(fun e=>absurd rfl e),?_⟩
  rw[bb]
  exact⟨hw.1,hw.2,hg.1,hg.2,(show(0:Int)≤1 by decide),(show(1:Int)≤10 by decide)⟩
 ·have:i=1:=List.mem_singleton.mp hi
  subst this
  exact⟨by decide,Int.le_refl _⟩
 ·have:i=1:=List.mem_singleton.mp hi
  subst this
  exact Int.le_refl _
 ·have:i=1:=List.mem_singleton.mp hi
  subst this
  cases hj
 ·refine q0 (one hi) fun rf0 u_=> ?_
  rw[rf0]
  exact Int.le_refl _
theorem law_pure(is:List Int)(D:Addr)(h63:is.length≤63):aA (az tab 40) f_law (upd (fun u_=>none) "deck" (some (.ref D))) (upd (fun u_=>none) D (some (.list (is.map .int)))) (fun fl u_ u_=>fl= .ret (.bool true)) (fun u_=>False):=by
 have hD:upd (fun u_=>none) D (some (.list (is.map .int))) D=some (MO.list (is.map .int)):=aj _ _ _
 generalize upd (fun u_=>none) D (some (MO.list (is.map .int)))=μ at *
 have r0:upd (fun u_=>none) "deck" (some (MV.ref D)) "deck"=some (MV.ref D):=rfl
 generalize upd (fun u_=>none) "deck" (some (MV.ref D))=ρ at *
 show aA _ (.cons (.multi [(.name "wide"),(.name "high")] (.cons (.bin .add (.cst (.int 20)) (.call (.glob "_law_draw" (.ref 334)) (.cons (.var "deck") (.cons (.cst (.int 60)) .nil)))) (.cons (.bin .add (.cst (.int 10)) (.call (.glob "_law_draw" (.ref 334)) (.cons (.var "deck") (.cons (.cst (.int 40)) .nil)))) .nil))) (.cons (.multi [(.name "tree"),(.name "root"),(.name "starred")] (.cons (.new 164 112 "WindowTree" (.cons (.var "wide") (.cons (.var "high") (.cons (.cst (.int 1)) (.cons (.cst (.int 3)) (.cons (.cst (.int 2)) .nil)))))) (.cons (.call (.glob "_law_leaf" (.ref 355)) (.cons (.var "wide") (.cons (.var "high") (.cons (.cst (.int 1)) (.cons (.cst (.int 0)) .nil))))) (.cons (.cst (.int 0)) .nil)))) (aJ 2 f_law))) _ _ _ _
 simp[↓exe r0]
 refine draw_raw (d:=39) hD (by lia) (by lia) (by unfold LIM;lia) fun w m1 d1 w0 w60 rl1 hD1 u_=> ?_
 simp[↓exe r0]
 refine draw_raw (d:=39) hD1 (by lia) (by lia) (by unfold LIM;lia) fun g m2 d2 g0 g40 rl2 hD2 u_=> ?_
 simp
 have q1:upd (upd ρ "wide" (some (.int (20+w)))) "high" (some (.int (10+g))) "deck"=some (.ref D):=r0
 have q2:upd (upd ρ "wide" (some (.int (20+w)))) "high" (some (.int (10+g))) "wide"=some (.int (20+w)):=rfl
 have q3:upd (upd ρ "wide" (some (.int (20+w)))) "high" (some (.int (10+g))) "high"=some (.int (10+g)):=rfl
 generalize upd (upd ρ "wide" (some (.int (20+w)))) "high" (some (.int (10+g)))=ρ1 at *
 intro t ht
 have tD:D≠t:=ne_nb hD2 ht
 refine tinit_spec (d:=37) (t:=t) (D:=D) (deck:=d2) (aj _ _ _) (((af _ _ tD).trans hD2)) fun m3 tb a b c h3 u_=> ?_
 simp[↓exe q2,↓exe q3]
 refine law_leaf_spec (d:=39) (n:=1) h3 (fun h=>nomatch h) (fun i hi=>nomatch hi) fun m4 ℓ e4 mv h4=> ?_
 have l0:ℓ (0,0)=t:=mv _ ((ne1 (by decide))) ((ne1 (by decide)))
 have l2:ℓ (2,0)=D:=mv _ ((ne1 (by decide))) ((ne1 (by decide)))
 have I:=start_inv (t:=t) (tb:=tb) (D:=D) (a:=a) (b:=b) (c:=c) (w:=20+w) (g:=10+g) (r:=d2) (ℓ:=ℓ) (by lia) (by lia) (by lia)
 simp
 have s1:upd (upd (upd ρ1 "tree" (some (.ref t))) "root" (some (.ref (ℓ (6,1))))) "starred" (some (.int 0)) "tree"=some (.ref (ℓ (0,0))):=by rw[l0];simp
 have s2:upd (upd (upd ρ1 "tree" (some (.ref t))) "root" (some (.ref (ℓ (6,1))))) "starred" (some (.int 0)) "root"=some (.ref (ℓ (6,1))):=rfl
 have s3:upd (upd (upd ρ1 "tree" (some (.ref t))) "root" (some (.ref (ℓ (6,1))))) "starred" (some (.int 0)) "deck"=some (.ref (ℓ (2,0))):=by rw[l2];simpa using q1
 have s4:upd (upd (upd ρ1 "tree" (some (.ref t))) "root" (some (.ref (ℓ (6,1))))) "starred" (some (.int 0)) "starred"=some (.int 0):=rfl
 generalize upd (upd (upd ρ1 "tree" (some (.ref t))) "root" (some (.ref (ℓ (6,1))))) "starred" (some (.int 0))=ρ2 at *
 generalize hz:addB (z0 t tb D a b c (20+w) (10+g) d2) ℓ 1 ⟨0,20+w,10+g,1,0⟩ []=z at *
 have z1:z.loc=ℓ:=by rw[←hz];rfl
 have z2:z.root=1:=by rw[←hz];rfl
 rw[←z1] at s1 s2 s3
 have hd:=I.p.deck
 show aA _ (.cons (.forRange "lap" (.cons (.bin .add (.cst (.int 1)) (.call (.glob "_law_draw" (.ref 334)) (.cons (.var "deck") (.cons (.cst (.int 8)) .nil)))) .nil) lapB) (.cons (.ret (.cst (.bool true))) .nil)) _ _ _ _
 simp[↓exe s3]
 refine draw_spec2 (d:=39) h4 (by lia) (by lia) (by unfold LIM;lia) fun v m5 d5 v0 v8 rl5 h5 u_=> ?_
 simp
 refine⟨ap 0 1 (1+v).toNat,?_,?_⟩
 ·exact rangeOf_one ⟨by lia,by lia⟩
 ·refine lap_loop (1+v).toNat 0 {z with deck:=d5} .nil 0 ρ2 m5 (by lia) (I.deck_ (by lia)) h5 s1 (by rw[s2,show({z with deck:=d5}:Z).root=1 from z2]) s3 s4 fun ρ m=> ?_
  simp
end
end Mine.Lake
theorem PySem.Challenge.cw_sq0003_01_holds : PySem.Challenge.rw_sq0003_01.Holds :=
  Mine.Lake.holds_pure fun is D h _ => Mine.Lake.law_pure is D h
